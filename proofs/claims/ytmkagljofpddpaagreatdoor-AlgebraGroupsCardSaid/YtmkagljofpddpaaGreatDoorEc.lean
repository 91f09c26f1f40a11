/- An engine that walks through a function of the program with symbolic values, and the proofs that it is sound. No condition. -/
import Derived.MapKept
import Derived.OrdersIn
import Derived.LoopNIn
import Derived.RangeFuncLeaves
import Derived.Test.YtmkagljofpddpaaGreatDoorEb
open Array renaming getElem?_push→akz,size_append→aly,getElem?_eq_none→akx,getD_eq_getD_getElem?→akD,getElem?_append_left→alH,getElem?_append_right→alI,getElem?_eq_getElem→akA,length_toList→ak2,empty_append→alL,getElem_toList→alM,toList_inj→alV,ext→alW,range→alA,size_map→alz,getElem_push_lt→al0,getElem_push_eq→al2,getElem?_setIfInBounds→al5,getElem?_toList→amc,getElem?_eq_some_iff→ako,getElem?_replicate→amh
open Bool renaming and_eq_true→akQ,not_eq_true'→ale,false_eq_true→als,or_eq_true→alX,not→ame
open List renaming getElem_of_mem→akK,getElem?_toArray→alB,getElem?_map→alJ,getElem?_range→alK,range→akE,getD_eq_getElem?_getD→akG,getElem?_replicate→alN,length_take→alm,length_drop→alO,getElem?_drop→alP,length_append→alQ,getD_cons_zero→alU,replicate→akP,length_eq_zero_iff→alY,length_cons→akq,length_nil→akm,getElem_append_left→alZ,getElem_append_right→al1,getElem_cons_zero→al3,find?→al4,mem_cons→al7,pairwise_cons→al8,pairwise_append→al9,getElem?_append_right→alG,all_eq_true→amd,range'→amf,range_eq_range'→amg
open Nat renaming le_refl→aku,mul_one→akZ,eq_of_beq_eq_true→akR,zero_mul→alu,zero_add→akS,lt_or_ge→akw,add_zero→akn,add_mul→ak7,mul_le_mul_right→ak6,le_of_ble_eq_true→akY,eq_zero_or_pos→alp,mod_one→alg,div_add_mod→alb,mul_comm→akT,mul_div_cancel→alR,div_lt_iff_lt_mul→ala,mul_add_div→akU,mul_add_mod→akW,add_sub_cancel_left→alS,min→alT,mod_lt→alc,sub_self→ak0,testBit→ama,beq→akM,ne_of_beq_eq_false→amb
open Option renaming map_some→akC,getD_some→alo,bind_some→al6
namespace Go.Eng
open Go.RowKit
set_option linter.unusedSimpArgs false
set_option linter.unusedVariables false
variable {P:Program} {r:Option Nat} {τ:TypeId→Option TE}
abbrev dead:AO:=.cells (.pv []) true
theorem Mem.cells_t {S:Imm} {w:World} {ι:Ix} {H:Hp} (M:Mem S w ι H) {k:Nat} {o:AO} (h:aA H k=some o) (ho:o.isTok=false):ι.t k=none:=by
 cases et:ι.t k with
 |none=>rfl
 |some x=>obtain⟨o',g1,g2⟩:=M.liveT k x et;rw[h]at g1;cases g1;rw[ho]at g2;cases g2
theorem Mem.move {S:Imm} {w:World} {ι:Ix} {H:Hp} (M:Mem S w ι H) {k n b:Nat} {c:CL} (hk:aA H k=some (.cells c false)) (hn:aA H n=none) (hb:ι.o k=some b):
 Mem S w (ι.seto n b) (aO (aO H k dead) n (.cells c false))∧ι.le (ι.seto n b)∧∀p,Tr p S w ι H S w (ι.seto n b) (aO (aO H k dead) n (.cells c false)):=by
 have hno:=M.none_o hn;have hle:ι.le (ι.seto n b):=jI hno;have hkn:k≠n:=fun e=>by subst e;rw[hk]at hn;cases hn
 have get:∀k',aA (aO (aO H k dead) n (.cells c false)) k'=if k'=n then some (.cells c false)else if k'=k then some dead else aA H k':=fun k'=>by rw[aX,aX]
 have so:∀k',k'≠n→(ι.seto n b).o k'=ι.o k':=fun k' e=>by simp[Ix.seto,e]
 have sn:(ι.seto n b).o n=some b:=by simp[Ix.seto]
 have hhas:∀k' o b',k'≠n→(AO.has (ι.seto n b) k' o b'↔AO.has ι k' o b'):=by
  intro k' o b' e;have et:(ι.seto n b).t k'=ι.t k':=rfl;have ex:(ι.seto n b).x k'=ι.x k':=rfl;cases o<;>simp only[AO.has,so k' e,et,ex]
 refine⟨⟨fun k' o ho=>?_,fun k' b' h=>?_,fun k' x h=>?_,fun k1 k2 o1 o2 b' h1 h2 b1 b2=>?_,M.imm⟩,hle,fun p=>⟨.refl _,fun _ _ _=>rfl,.refl _ _,fun _ _ _ h=>.inl h,?_,fun k' _ b' h=>hle.o k' b' h,fun k' _ b' n' h=>hle.t k' b' n' h⟩⟩
 ·rw[get]at ho
  split at ho
  ·rename_i e;subst e;cases ho
   obtain⟨b0,arr,e0,g1,g2,g3,g4,g5⟩:=M.obj k _ hk;rw[hb]at g1;cases g1
   exact⟨b,arr,e0,sn,g2,g3,fun j hj=>(g4 j hj).mono (.refl _ _) _ hle,g5⟩
  ·rename_i e
   split at ho
   ·rename_i e2;subst e2;cases ho
    exact⟨b,by rw[so _ e];exact hb,fun j hj=>by simp[CL.ncell]at hj⟩
   ·exact(M.obj k' o ho).mono (.refl _ _) hle (.refl _) (fun _ _=>rfl) (fun _=>rfl) rfl (fun _ _ _ h=>h)
 ·rw[get]
  by_cases e:k'=n
  ·rw[if_pos e];exact⟨_,rfl,rfl⟩
  ·rw[if_neg e]
   rw[so _ e]at h;by_cases e2:k'=k
   ·rw[if_pos e2];exact⟨_,rfl,rfl⟩
   ·rw[if_neg e2];exact M.liveO k' b' h
 ·rw[get]
  have h:ι.t k'=some x:=h;by_cases e:k'=n
  ·subst e;have h2:ι.t k'=some x:=h;rw[M.none_t hn]at h2;cases h2
  ·rw[if_neg e]
   by_cases e2:k'=k
   ·subst e2;have h2:ι.t k'=some x:=h;rw[M.cells_t hk rfl]at h2;cases h2
   ·rw[if_neg e2];exact M.liveT k' x h
 ·rw[get]at h1 h2
  have main:∀k2 o2,k2≠n→(if k2=k then some dead else aA H k2)=some o2→AO.has (ι.seto n b) k2 o2 b→False:=by
   intro k2 o2 e h2 b2;split at h2
   ·cases h2;exact b2.elim
   ·rename_i e2
    rw[hhas _ _ _ e]at b2;exact e2 (M.dist k2 k o2 _ b h2 hk b2 hb)
  by_cases e1:k1=n
  ·subst e1
   rw[if_pos rfl]at h1;cases h1
   simp only[AO.has,sn]at b1;cases b1
   by_cases e2:k2=k1
   ·exact e2.symm
   ·rw[if_neg e2]at h2;exact(main k2 o2 e2 h2 b2).elim
  ·rw[if_neg e1]at h1
   by_cases e2:k2=n
   ·subst e2
    rw[if_pos rfl]at h2;cases h2
    simp only[AO.has,sn]at b2;cases b2
    exact(main k1 o1 e1 h1 b1).elim
   ·rw[if_neg e2]at h2
    rw[hhas _ _ _ e1]at b1;rw[hhas _ _ _ e2]at b2;split at h1
    ·cases h1;exact b1.elim
    ·split at h2
     ·cases h2;exact b2.elim
     ·exact M.dist k1 k2 o1 o2 b' h1 h2 b1 b2
 ·rintro b' ⟨k',o,h1,h2,h3⟩
  rw[get]at h1;split at h1
  ·rename_i e;subst e;cases h1
   simp only[AO.has,sn]at h3;cases h3
   exact .inl ⟨k,_,hk,rfl,hb⟩
  ·rename_i e
   rw[hhas _ _ _ e]at h3;split at h1
   ·cases h1;exact h3.elim
   ·exact .inl ⟨k',o,h1,h2,h3⟩
theorem Mem.drop {S:Imm} {w:World} {ι:Ix} {H:Hp} (M:Mem S w ι H) {k:Nat} {c:CL} (hk:aA H k=some (.cells c false)):
 Mem S w ι (aO H k dead)∧∀p,Tr p S w ι H S w ι (aO H k dead):=by
 obtain⟨b,arr,e,h1,h2,h3,h4,h5⟩:=M.obj k _ hk;exact M.step1 (b:=b) (.refl _) (fun _ _ _=>rfl) (.refl _ _) (fun b' j h=>.inl h) (fun j hs=>absurd hs (h5 j)) (.refl _) (fun _ _=>rfl) (fun _ _=>rfl) rfl
  (.inr ⟨_,hk,rfl,h1⟩) (fun b' h=>h.elim) (by simp[AO.isTok]) (fun _=>M.cells_t hk rfl) ⟨b,h1,fun j hj=>by simp[CL.ncell]at hj⟩
theorem Mem.new' {S:Imm} {w w':World} {ι:Ix} {H:Hp} (M:Mem S w ι H) {k:Nat} (hk:aA H k=none) {c:CL} {arr:Array Value} {e:TypeId} (hheap:w'.heap=w.heap.push (.cells arr e)) (hbelow:Bel w w')
 (hn:c.ncell≤arr.size) (hc:∀j,j<c.ncell→Rep S w ι (c.get j) (arr.getD j undef)):
 Mem S w' (ι.seto k w.heap.size) (aO H k (.cells c false))∧Keeps S w S w'∧∀p,Tr p S w ι H S w' (ι.seto k w.heap.size) (aO H k (.cells c false)):=by
 have ho:=M.none_o hk;have old:∀b',b'<w.heap.size→w'.heap[b']? =w.heap[b']? :=fun b' hb'=>by rw[hheap,akz,if_neg qqO]
 have hkeep:Keeps S w S w':=by
  have:∀b j,(rd w b j).isSome→rd w' b j=rd w b j:=fun b j h=>dD (old b (dZ h)) j;exact⟨fun b j h=>⟨h,this b j (M.imm b j h)⟩,fun b j h=>by rw[this b j h];exact h⟩
 have hnoS:∀j,¬S w.heap.size j:=fun j hs=>by have:=dZ (M.imm _ _ hs);omega
 have:=M.step (b:=w.heap.size) (w':=w') (S':=S) (k:=k) (o':=.cells c false) (ι':=ι.seto k w.heap.size) hbelow (fun b' hb' _=>old b' hb') hkeep (fun b' j h=>.inl h) (fun j h=>absurd h (hnoS j))
  (jI ho) (fun k' h=>by simp[Ix.seto,h]) (fun _ _=>rfl) rfl (.inl (aku _)) (fun b'=>by simp[AO.has,Ix.seto,eq_comm]) (by simp[AO.isTok]) (fun _=>M.none_t hk)
  ⟨w.heap.size,arr,e,by simp[Ix.seto],by rw[hheap];simp,hn,fun j hj=>(hc j hj).mono hkeep _ (jI ho),hnoS⟩
 exact⟨this.1,hkeep,this.2⟩
theorem EB (hτ:bB P τ) {t u ty e:TypeId} {tt tu te:TE} (ht:τ t=some tt) (hu:τ u=some tu) (he:τ e=some te) (hd:tt.und=.slice e) {e':TypeId} (hd':tu.und=.slice e')
 {S:Imm} {w:World} {ι:Ix} {H:Hp} (M:Mem S w ι H) {n:Nat} (hno:aA H n=none) {base xb:Option Addr} {cn sCap dn xc:Nat}
 (hgrow:sCap<cn+dn) (hbd:cn+dn≤1073741824) (hby:te.bytes≤65536) (h1:te.size=1) {E:CL} (hE:E.cnt=cn+dn) (hEs:E.esz=1)
 {old new:Array Value} (ho:Row S w te.size cn E.get (.slice base cn sCap) old) (hn:Row S w te.size dn (fun j=>E.get (cn*te.size+j)) (.slice xb dn xc) new):
 fU P S w ι H (Builtin.append_ #[t,u] ty #[.slice base cn sCap,.slice xb dn xc]) (.rsl n 0 (cn+dn)) [(n,.cells E false)]:=by
 obtain⟨cap',hcap,hrun⟩:=run_append_grow (ty:=ty) hτ ht hu he hd hd' hgrow hbd hby (ho.run P {w with drawn:=w.drawn+1} rfl) (hn.run P {w with drawn:=w.drawn+1} rfl);have hEn:E.ncell=cn+dn:=by rw[bF,hE,hEs,akZ]
 have hzc:te.zero.cells.size=te.size:=hτ.zsz _ _ he;generalize hzz:Builtin.zeroCells te.zero.cells (cap'-(cn+dn))=zz at hrun
 have hzs:zz.size=cap'-(cn+dn):=by
  rw[←hzz];simp[Builtin.zeroCells,hzc,h1]
 have os:=ho.size;have ns:=hn.size;rw[h1,akZ]at os ns;have hsz:(old++new++zz).size=cap':=by
  simp only[aly,os,ns,hzs];omega
 generalize hw':({({w with drawn:=w.drawn+1}:World)with heap:=w.heap.push (.cells (old++new++zz) e)}:World)=w' at hrun
 have hheap:w'.heap=w.heap.push (.cells (old++new++zz) e):=by rw[←hw']
 have hbelow:Bel w w':=by
  refine .block w.heap.size (by rw[←hw']) (by rw[←hw']) (by rw[←hw']) (by rw[←hw'];simp) (fun b' hb'=>by rw[hheap,akz,if_neg hb']) (by rw[akx (aku _)];exact ji) (by rw[hheap];simp;exact dU _ _)
 obtain⟨M',K',T⟩:=M.new' hno (c:=E) hheap hbelow qqO (fun j hj=>by
  rw[hEn]at hj;by_cases h:j<cn
  ·have:=ho.rep j (by rw[h1];omega)
   rw[akD]at this⊢;rw[alH (by simp only[aly,os];omega),alH qqO]
   exact this.up ι
  ·have:=hn.rep (j-cn) (by rw[h1];omega)
   rw[h1,akZ,akD,show cn+(j-cn)=j by omega]at this
   rw[akD,alH (by simp only[aly,os,ns];omega),alI qqO,os]
   exact this.up ι)
 refine⟨_,S,w',_,hrun,M',jI (M.none_o hno),K',?_,T⟩;exact .rsl _ _ _ _ _ _ (by simp[Ix.seto]) hcap (fun _ j hj=>by
  rw[aJ (arr:=old++new++zz) (e:=e) (f:=(0,0)) (by rw[hheap];simp),akA (by rw[hsz];exact hj)];rfl)
theorem Au (hτ:bB P τ) {t u ty e:TypeId} {tt tu te:TE} (ht:τ t=some tt) (hu:τ u=some tu) (he:τ e=some te) (hd:tt.und=.slice e) {e':TypeId} (hd':tu.und=.slice e') (hby:te.bytes≤65536)
 {H:Hp} {n:Nat} {x:PV} {K:KR} (h:xL te H n x K) {s0:PV} (hs0:s0=.nils∨∃c,s0=.isl c .full∧c.cnt=0):
 ∃v sets accs news,K v sets accs news∧∀{S:Imm} {w:World} {ι:Ix} {H':Hp} {vs vx:Value},Mem S w ι H'→Rep S w ι s0 vs→Rep S w ι x vx→(∀k∈accs,aA H' k=aA H k)→(∀k∈news,aA H' k=none)→
  fU P S w ι H' (Builtin.append_ #[t,u] ty #[vs,vx]) v sets:=by
 unfold xL at h;obtain⟨d,acc,h,hd0⟩:=jo h;simp only[dJ,eY,bS,aK,akQ]at h;obtain⟨⟨hpos,hbd⟩,⟨e1,e2⟩,hfr,hK⟩:=h;have e1:=akR e1;have e2:=akR e2;refine⟨_,_,_,_,hK,fun{S w ι H' vs vx} M hs hx ha hn=>?_⟩;have hno:=hn n qqS;have hsrc:=hd0 M ha hx;obtain⟨ad,cap,vals,rfl,hrow⟩:=hsrc.row;obtain⟨base,rfl,hfc⟩:∃base,vs=.slice base 0 0∧∀(P':Program) w',(Builtin.firstCells te.size 0 (.slice base 0 0)).run P' w'=.ok #[] w':=by
  rcases hs0 with rfl|⟨c,rfl,hc⟩
  ·cases hs;exact⟨_,rfl,fun _ _=>rfl⟩
  ·cases hs with
   |islnil=>exact⟨_,rfl,fun _ _=>mh⟩
   |isl _ _ _ b off cap hcc hs h hf ho=>
    rw[hf rfl,hc];refine⟨_,rfl,fun P' w'=>?_⟩;have:=dw (P:=P') (w:=w') (b:=b) (off:=off) (n:=0) (size:=te.size) (len:=0) (cap:=0) (fun j hj=>qqO);simpa using this
 have h1:te.size=1:=qqO;have:=EB (ty:=ty) hτ ht hu he hd hd' M (n:=n) hno (base:=base) (xb:=ad) (cn:=0) (sCap:=0) (dn:=d.cnt) (xc:=cap) qqO qqO hby h1
  (E:=d) qqO e2 (old:= #[]) ⟨qqS,fun j hj=>by simp at hj,fun P' w' hw=>hfc P' w'⟩ (new:=vals) (by
   rw[e1]at hrow;refine⟨hrow.size,fun j hj=>?_,hrow.run⟩;rw[alu,akS];exact hrow.rep j hj)
 rw[akS]at this;exact this
theorem O7 (hτ:bB P τ) {t u ty e:TypeId} {tt tu te:TE} (ht:τ t=some tt) (hu:τ u=some tu) (he:τ e=some te) (hd:tt.und=.slice e) {e':TypeId} (hd':tu.und=.slice e') (hby:te.bytes≤65536)
 {H:Hp} {n k off m:Nat} {x:PV} {K:KR} (h:CB te H n k off m x K):
 ∃v sets accs news,K v sets accs news∧∀{S:Imm} {w:World} {ι:Ix} {H':Hp} {vs vx:Value},Mem S w ι H'→Rep S w ι (.rsl k off m) vs→Rep S w ι x vx→(∀k∈accs,aA H' k=aA H k)→(∀k∈news,aA H' k=none)→
  fU P S w ι H' (Builtin.append_ #[t,u] ty #[vs,vx]) v sets:=by
 unfold CB at h;obtain⟨c,acc,hA,hc0⟩:=jo h;clear h;obtain⟨d,acc',hB,hd0⟩:=jo hA;clear hA;rw[bE]at hB;obtain⟨ob,hob,hC⟩:=hB;split at hC
 ·rename_i c1
  simp only[dJ,eY,aK,akQ]at hC;obtain⟨⟨hpos,hbd⟩,⟨⟨e0,e1⟩,e2⟩,hD⟩:=hC;have e0:=akR e0;have e1:=akR e1;have e2:=akR e2;subst e0;obtain⟨hE,hone⟩:=sU hD;obtain⟨E,hF,a1,a2,a3,a4,a5⟩:=oq hE;rw[bS]at hF;obtain⟨hfr,hK⟩:=hF;refine⟨_,_,_,_,hK,fun M hs hx ha hn=>?_⟩;rename_i S w ι H' vs vx;have hno:=hn n qqS;have hobj:=(ha k qqS).trans hob;have hsrc:=hd0 M (fun k' hk'=>ha k' (by simp[hk'])) hx
  obtain⟨ad,xcap,vals,rfl,hrow⟩:=hsrc.row;have hsrc2:=hc0 M (fun k' hk'=>ha k' (by simp[hk'])) hs
  obtain⟨ad2,cap,vals2,e3,hrow2⟩:=hsrc2.row;have h1:te.size=1:=qqO;have hcm:c.cnt=m:=by
   obtain⟨ad',cap',e5⟩:=hs.rslSlice;rw[e3]at e5;cases e5;rfl
  have hcn:c.ncell=m:=by rw[bF,e2,akZ,hcm]
  have hdn:d.ncell=d.cnt:=by rw[bF,a2,e2,akZ]
  have hEn:E.ncell=m+d.cnt:=by rw[bF,a3,a1,e2,akZ,hcm]
  have hkn:n≠k:=fun e=>by subst e;rw[hobj]at hno;cases hno
  rw[a2,e2]at hrow;rw[e2]at hrow2;subst e3;rw[hcm]at hs hrow2⊢;have rowD:Row S w te.size d.cnt (fun j=>E.get (m*te.size+j)) (.slice ad d.cnt xcap) vals:=
   ⟨by rw[h1];exact hrow.size,fun j hj=>by rw[h1]at hj;rw[h1,akZ,←hcn,a5 j qqO];exact hrow.rep j hj,by rw[h1];exact hrow.run⟩
  have rowC:Row S w te.size m E.get (.slice ad2 m cap) vals2:=
   ⟨by rw[h1];exact hrow2.size,fun j hj=>by rw[h1]at hj;rw[a4 j qqO];exact hrow2.rep j hj,by rw[h1];exact hrow2.run⟩
  by_cases hfit:m+d.cnt≤cap
  ·
   have hin:∃b,ad2=some ⟨b,0,none⟩∧ι.o k=some b∧∀j,j<cap→(rd w b j).isSome:=by
    cases hs with
    |rsl _ _ _ _ b cap hk hc hr=>exact⟨b,rfl,hk,hr rfl⟩
    |rslz _ _ _ b o hk=>omega
   obtain⟨b,rfl,hkb,hrd⟩:=hin;obtain⟨M1,L1,T1⟩:=M.move hobj hno hkb;have hob1:aA (aO (aO H' k dead) n (.cells c1 false)) n=some (.cells c1 false):=by rw[aX];simp
   have hb1:(ι.seto n b).o n=some b:=by simp[Ix.seto]
   obtain⟨b',arr,e4,g1,g2,g3,g4,g5⟩:=M.obj k _ hobj;rw[hkb]at g1;cases g1
   have hcap:cap≤arr.size:=by
    have:=hrd (cap-1) qqO;rw[aJ g2]at this;rcases akw (cap-1) arr.size with h1|h1
    ·omega
    ·rw[akx h1]at this;simp at this
   have vs:=hrow.size;rw[akZ]at vs;have honeV:∀v∈vals.toList,v.oneCell'=true:=by
    intro v hv;obtain⟨i,hi,rfl⟩:=akK hv;have hi':i<d.cnt:=by rw[←vs];simpa using hi
    have:=(hrow.rep i qqO).oneCell (hone i qqO);simpa [akD,akA (show i<vals.size by simpa using hi)]using this
   obtain⟨w',r1,uu⟩:=bQ P vals.toList (o:=m) (i:=0) g2 honeV (by simp[vs];omega)
   have hput:∀j,(putRow arr (m+0) vals.toList).getD j undef=if m≤j∧j<m+d.cnt then vals.getD (j-m) undef else arr.getD j undef:=by
    intro j;rw[fA _ _ _ _ (by simp[vs];omega)]
    simp only[akn,ak2,vs];congr 1;simp[akD]
   have hsz':(putRow arr (m+0) vals.toList).size=arr.size:=bW _ _ _;have hrun:=gU (ty:=ty) (w':=w') hτ ht hu he hd hd' (base:=some ⟨b,0,none⟩) (sLen:=m) (sCap:=cap) hfit (rowD.run P w rfl) (by rw[h1];simpa [eT]using r1)
   have old:∀j,j<m→Rep S w noI (E.get j) (arr.getD j undef):=by
    intro j hj;have hr2:=rowC.rep j (by rw[h1];omega)
    have hh:=rowC.run P w rfl;rw[h1,dw (P:=P) (w:=w) (b:=b) (off:=0) (n:=m) (size:=1) (len:=m) (cap:=cap) (fun j hj=>by rw[akS];exact hrd j qqO)]at hh
    cases hh
    rw[akD]at hr2⊢;simp only[akZ,alB,alJ,alK hj,akC,alo,akS]at hr2;rw[rdv,aJ g2]at hr2;exact hr2
   obtain⟨M2,T2⟩:=M1.write (c':=E) hob1 hb1 g2 uu qqO qqO (fun j hj=>by
    rw[hput];by_cases hj':j<m
    ·rw[if_neg qqO];exact(old j hj').up _
    ·rw[if_pos qqO]
     have:=rowD.rep (j-m) (by rw[h1];omega)
     rw[h1,akZ,show m+(j-m)=j by omega]at this
     exact this.up _)
   have hg:∀k',aA (aO (aO (aO H' k dead) n (.cells c1 false)) n (.cells E false)) k'=aA (aO (aO H' k dead) n (.cells E false)) k':=fun k'=>by
    simp only[aX];split<;>rfl
   have hK2:Keeps S w S w':=(T2 0).keeps;refine⟨_,S,w',_,hrun,M2.congr hg,L1,hK2,?_,fun p=>((T1 p).trans (T2 p)).congr' hg⟩;exact .rsl _ _ _ _ _ _ hb1 hfit (fun _ j hj=>hK2.cells _ _ (hrd j hj))
  ·obtain⟨M1,T1⟩:=M.drop hobj
   have hno1:aA (aO H' k dead) n=none:=by rw[aX,if_neg hkn];exact hno
   obtain⟨val,S',w',ι',r1,M2,L2,K2,R2,T2⟩:=EB (ty:=ty) hτ ht hu he hd hd' M1 (n:=n) hno1 (base:=ad2) (xb:=ad) (cn:=m) (sCap:=cap) (dn:=d.cnt) (xc:=xcap) qqO hbd hby h1
    (E:=E) qqO qqO rowC rowD
   exact⟨val,S',w',ι',r1,M2,L2,K2,R2,fun p=>(T1 p).trans (T2 p)⟩
 ·exact hC.elim
theorem EC (hτ:bB P τ) {t u ty e:TypeId} {tt tu te:TE} (ht:τ t=some tt) (hu:τ u=some tu) (he:τ e=some te) (hd:tt.und=.slice e) {e':TypeId} (hd':tu.und=.slice e')
 {S:Imm} {w:World} {ι:Ix} {H:Hp} (M:Mem S w ι H) (ks:List Nat) (hks:∀k,k∈ks→∃o b,aA H k=some o∧o.excl=true∧o.isTok=false∧ι.o k=some b) {n:Nat} (hno:aA H n=none) {base xb:Option Addr} {cn sCap dn xc:Nat}
 (hgrow:sCap<cn+dn) (hbd:cn+dn≤1073741824) (hby:te.bytes≤65536) (h1:0<te.size) {E:CL} (hE:E.cnt=cn+dn) (hEs:E.esz=te.size)
 {old new:Array Value} (ho:Row S w te.size cn E.get (.slice base cn sCap) old) (hn:Row S w te.size dn (fun j=>E.get (cn*te.size+j)) (.slice xb dn xc) new)
 {sets:List (Nat × AO)} (hH:∀k,aA (bC H sets) k=if k=n then some (.rowo E)else if k∈ks then some (.cells (.pv []) true)else aA H k):
 fU P S w ι H (Builtin.append_ #[t,u] ty #[.slice base cn sCap,.slice xb dn xc]) (.rsc n te.size (cn+dn)) sets:=by
 obtain⟨cap',hcap,hrun⟩:=run_append_grow (ty:=ty) hτ ht hu he hd hd' hgrow hbd hby (ho.run P {w with drawn:=w.drawn+1} rfl) (hn.run P {w with drawn:=w.drawn+1} rfl);have hEn:E.ncell=(cn+dn)*te.size:=by rw[bF,hE,hEs]
 have hzc:te.zero.cells.size=te.size:=hτ.zsz _ _ he;generalize hzz:Builtin.zeroCells te.zero.cells (cap'-(cn+dn))=zz at hrun
 have hzs:zz.size=(cap'-(cn+dn))*te.size:=by
  rw[←hzz];simp[Builtin.zeroCells,hzc]
 have hsz:(old++new++zz).size=cap'*te.size:=by
  simp only[aly,ho.size,hn.size,hzs,←ak7];congr 1;omega
 have hle:(cn+dn)*te.size≤cap'*te.size:=ak6 _ hcap;generalize hw':({({w with drawn:=w.drawn+1}:World)with heap:=w.heap.push (.cells (old++new++zz) e)}:World)=w' at hrun
 have hheap:w'.heap=w.heap.push (.cells (old++new++zz) e):=by rw[←hw']
 have hbelow:Bel w w':=by
  refine .block w.heap.size (by rw[←hw']) (by rw[←hw']) (by rw[←hw']) (by rw[←hw'];simp) (fun b' hb'=>by rw[hheap,akz,if_neg hb']) (by rw[akx (aku _)];exact ji) (by rw[hheap];simp;exact dU _ _)
 have hnew:w'.heap[w.heap.size]? =some (.cells (old++new++zz) e (0,0)):=by rw[hheap];simp
 have hnS:∀j,¬S w.heap.size j:=fun j hs=>by have:=dZ (M.imm _ _ hs);omega
 have hval:∀j,j<(cn+dn)*te.size→Rep S w noI (E.get j) ((old++new++zz).getD j undef):=by
  intro j hj;rw[akD];by_cases h:j<cn*te.size
  ·have:=ho.rep j h
   rw[akD]at this;rw[alH (by simp only[aly,ho.size];omega),alH (by rw[ho.size];omega)]
   exact this
  ·have h2:j-cn*te.size<dn*te.size:=by rw[ak7]at hj;omega
   have:=hn.rep (j-cn*te.size) h2;rw[akD,show cn*te.size+(j-cn*te.size)=j by omega]at this
   rw[alH (by simp only[aly,ho.size,hn.size];omega),alI (by rw[ho.size];omega),ho.size]
   exact this
 obtain⟨M',le,K',T⟩:=M.gather ks (n:=n) (bn:=w.heap.size) (o':=.rowo E) (X:=fun b=>b=w.heap.size) (arrn:=old++new++zz) (en:=e) hks hno rfl (fun b=>by simp[AO.has,Ix.setm,eq_comm]) hbelow hnew
  (fun b hb _=>by rw[hheap,akz,if_neg qqO]) (.inl (aku _)) hnS (fun b hb=>.inl qqO)
  (fun hk hl=>⟨w.heap.size,by simp[Ix.setm],old++new++zz,e,hnew,qqO,fun j hj=>(hval j qqO).mono hk _ (.refl _),hnS⟩) hH
 refine⟨_,S,w',_,hrun,M',le,K',?_,T⟩;exact .rsc _ _ _ _ _ _ (by simp[Ix.setm]) hcap h1 (fun j hj=>by rw[aJ hnew,akA qqO];rfl)
theorem K6 (hτ:bB P τ) {t u ty e:TypeId} {tt tu te:TE} (ht:τ t=some tt) (hu:τ u=some tu) (he:τ e=some te) (hd:tt.und=.slice e) {e':TypeId} (hd':tu.und=.slice e') (hby:te.bytes≤65536)
 {H:Hp} {n:Nat} {x:PV} {K:KR} (h:y9 te H n x K):
 ∃v sets accs news,K v sets accs news∧∀{S:Imm} {w:World} {ι:Ix} {H':Hp} {vs vx:Value},Mem S w ι H'→Rep S w ι .nils vs→Rep S w ι x vx→(∀k∈accs,aA H' k=aA H k)→(∀k∈news,aA H' k=none)→
  fU P S w ι H' (Builtin.append_ #[t,u] ty #[vs,vx]) v sets:=by
 unfold y9 at h;obtain⟨d,acc,h,hd0⟩:=jo h;simp only[dJ,eY,bS,aK,akQ]at h;obtain⟨⟨hpos,hbd⟩,⟨e1,e2⟩,hfr,hK⟩:=h;have e1:=akR e1;have e2:=akY e2;refine⟨_,_,_,_,hK,fun{S w ι H' vs vx} M hs hx ha hn=>?_⟩;have hno:=hn n qqS;have hsrc:=hd0 M ha hx;obtain⟨ad,cap,vals,rfl,hrow⟩:=hsrc.row;cases hs
 rw[e1]at hrow e2⊢;have:=EC (ty:=ty) hτ ht hu he hd hd' M [] (fun k hk=>by simp at hk) (n:=n) hno (base:=none) (xb:=ad) (cn:=0) (sCap:=0) (dn:=d.cnt) (xc:=cap) qqO qqO hby qqO
  (E:=d) qqO e1 (old:= #[]) ⟨qqS,fun j hj=>by simp at hj,fun P' w' hw=>rfl⟩ (new:=vals) ⟨hrow.size,fun j hj=>by rw[alu,akS];exact hrow.rep j hj,hrow.run⟩
  (sets:=[(n,.rowo d)]) (fun k=>by simp only[bC];rw[aX];simp)
 rw[akS]at this;exact this
theorem K7 (hτ:bB P τ) {t u ty e:TypeId} {tt tu te:TE} (ht:τ t=some tt) (hu:τ u=some tu) (he:τ e=some te) (hd:tt.und=.slice e) {e':TypeId} (hd':tu.und=.slice e') (hby:te.bytes≤65536)
 {H:Hp} {n k es m:Nat} {x:PV} {K:KR} (h:za te H n k es m x K):
 ∃v sets accs news,K v sets accs news∧∀{S:Imm} {w:World} {ι:Ix} {H':Hp} {vs vx:Value},Mem S w ι H'→Rep S w ι (.rsc k es m) vs→Rep S w ι x vx→(∀k∈accs,aA H' k=aA H k)→(∀k∈news,aA H' k=none)→
  fU P S w ι H' (Builtin.append_ #[t,u] ty #[vs,vx]) v sets:=by
 unfold za at h;obtain⟨d,acc,hA,hd0⟩:=jo h;clear h;rw[bE]at hA;obtain⟨ob,hob,hC⟩:=hA;split at hC
 ·rename_i c
  simp only[dJ,eY,aK,akQ]at hC;obtain⟨⟨hcm,hpos,hbd⟩,⟨e0,e1,e2⟩,hD⟩:=hC;have e0:=akR e0;have e1:=akR e1;have e2:=akY e2;obtain⟨hE,hone⟩:=sU hD;obtain⟨E,hF,a1,a2,a3,a4,a5⟩:=oq hE;rw[bS]at hF;obtain⟨hfr,hK⟩:=hF;refine⟨_,_,_,_,hK,fun M hs hx ha hn=>?_⟩;rename_i S w ι H' vs vx;have hno:=hn n qqS;have hobj:=(ha k qqS).trans hob;have hsrc:=hd0 M (fun k' hk'=>ha k' (by simp[hk'])) hx
  obtain⟨ad,xcap,vals,rfl,hrow⟩:=hsrc.row;have hkn:n≠k:=fun e=>by subst e;rw[hobj]at hno;cases hno
  have hts:es=te.size:=qqO;subst hts;have hcn:c.ncell=m*te.size:=by rw[bF,hcm,e0]
  have hdn:d.ncell=d.cnt*te.size:=by rw[bF,a2,e0]
  have hEn:E.ncell=(m+d.cnt)*te.size:=by rw[bF,a3,a1,e0,hcm]
  rw[a2,e0]at hrow;cases hs with
  |rsc _ _ _ _ b cap hkb hcap he0 hrd=>
  obtain⟨b',g1,arr,e9,g2,g3,g4,g5⟩:=M.obj k _ hobj;rw[hkb]at g1;cases g1
  have rowD:Row S w te.size d.cnt (fun j=>E.get (m*te.size+j)) (.slice ad d.cnt xcap) vals:=
   ⟨hrow.size,fun j hj=>by rw[←hcn,a5 j qqO];exact hrow.rep j hj,hrow.run⟩
  have hcsz:cap*te.size≤arr.size:=by
   rcases alp (cap*te.size)with h|h
   ·omega
   ·have:=hrd (cap*te.size-1) qqO
    rw[aJ g2]at this;rcases akw (cap*te.size-1) arr.size with h1|h1
    ·omega
    ·rw[akx h1]at this;simp at this
  have hsets:∀k',aA (bC H' [(k,.cells (.pv []) true),(n,.rowo E)]) k'=if k'=n then some (.rowo E)else if k'∈[k]then some (.cells (.pv []) true)else aA H' k':=fun k'=>by
   simp only[bC];rw[aX,aX];simp
  have hks:∀k',k'∈[k]→∃o b,aA H' k'=some o∧o.excl=true∧o.isTok=false∧ι.o k'=some b:=fun k' hk'=>by simp at hk';subst hk';exact⟨_,_,hobj,rfl,rfl,hkb⟩
  by_cases hfit:m+d.cnt≤cap
  ·have hle:(m+d.cnt)*te.size≤cap*te.size:=ak6 _ hfit
   have hadd:(m+d.cnt)*te.size=m*te.size+d.cnt*te.size:=ak7 _ _ _;have honeV:∀v∈vals.toList,v.oneCell'=true:=by
    intro v hv;obtain⟨i,hi,rfl⟩:=akK hv;have hi':i<d.cnt*te.size:=by rw[←hrow.size];simpa using hi
    have:=(hrow.rep i hi').oneCell (hone i qqO);simpa [akD,akA (show i<vals.size by simpa using hi)]using this
   obtain⟨w',r1,uu⟩:=bQ P vals.toList (o:=m*te.size) (i:=0) g2 honeV (by simp[hrow.size];omega)
   have hput:∀j,(putRow arr (m*te.size+0) vals.toList).getD j undef=if m*te.size≤j∧j<m*te.size+d.cnt*te.size then vals.getD (j-m*te.size) undef else arr.getD j undef:=by
    intro j;rw[fA _ _ _ _ (by simp[hrow.size];omega)]
    simp only[akn,ak2,hrow.size];congr 1;simp[akD]
   have hsz':(putRow arr (m*te.size+0) vals.toList).size=arr.size:=bW _ _ _;have hrun:=gU (ty:=ty) (w':=w') hτ ht hu he hd hd' (base:=some ⟨b,0,none⟩) (sLen:=m) (sCap:=cap) hfit (hrow.run P w rfl) (by simpa [eT]using r1)
   have hval:∀j,j<E.ncell→Rep S w noI (E.get j) ((putRow arr (m*te.size+0) vals.toList).getD j undef):=fun j hj=>by
    rw[hput];by_cases hj':j<m*te.size
    ·rw[if_neg qqO,a4 j qqO];exact g4 j qqO
    ·rw[if_pos qqO]
     have:=rowD.rep (j-m*te.size) qqO;rw[show m*te.size+(j-m*te.size)=j by omega]at this
     exact this
   obtain⟨M',le,K',T⟩:=M.gather [k] (n:=n) (bn:=b) (o':=.rowo E) (X:=fun b'=>b'=b) (arrn:=putRow arr (m*te.size+0) vals.toList) (en:=e9) hks hno rfl (fun b=>by simp[AO.has,Ix.setm,eq_comm]) uu.below uu.here
    (fun b' _ hb'=>uu.other b' hb') (.inr ⟨⟨k,_,qqS,hobj,hkb⟩,arr,e9,g2,qqO⟩) g5 (fun b' hb'=>.inr ⟨k,_,qqS,hobj,by rw[hb'];exact hkb⟩)
    (fun hk hl=>⟨b,by simp[Ix.setm],putRow arr (m*te.size+0) vals.toList,e9,uu.here,qqO,fun j hj=>(hval j hj).mono hk _ (.refl _),g5⟩) hsets
   refine⟨_,S,w',_,hrun,M',le,K',?_,T⟩;exact .rsc _ _ _ _ _ _ (by simp[Ix.setm]) hfit he0 (fun j hj=>K'.cells _ _ (hrd j hj))
  ·have hsome:∀j,j<m*te.size→(rd w b (0+j)).isSome:=fun j hj=>by
    rw[akS];have:=ak6 te.size hcap;exact hrd j qqO
   have rowC:Row S w te.size m E.get (.slice (some ⟨b,0,none⟩) m cap) (((akE (m*te.size)).map fun j=>rdv w b (0+j)).toArray):=by
    refine⟨qqS,fun j hj=>?_,fun P' w' hw=>?_⟩
    ·rw[a4 j qqO]
     have:=g4 j qqO;have e:(((akE (m*te.size)).map fun j=>rdv w b (0+j)).toArray).getD j undef=arr.getD j undef:=by
      simp only[akD,alB,alJ,alK hj,akC,alo,akS];rw[rdv,aJ g2]
     rw[e];exact this
    ·have h2:=dw (P:=P') (w:=w') (b:=b) (off:=0) (n:=m) (size:=te.size) (len:=m) (cap:=cap) (fun j hj=>by
      have:=hsome j hj;unfold rd at this⊢;rw[hw];exact this)
     rw[h2];congr 2;exact List.map_congr_left fun j _=>by unfold rdv rd;rw[hw]
   exact EC (ty:=ty) hτ ht hu he hd hd' M [k] hks (n:=n) hno (base:=some ⟨b,0,none⟩) (xb:=ad) (cn:=m) (sCap:=cap) (dn:=d.cnt) (xc:=xcap) qqO hbd hby he0 qqO qqO rowC rowD hsets
 ·exact hC.elim
theorem O8 (hτ:bB P τ) {t u ty e:TypeId} {tt tu te:TE} (ht:τ t=some tt) (hu:τ u=some tu) (he:τ e=some te) (hd:tt.und=.slice e) {e':TypeId} (hd':tu.und=.slice e') (hby:te.bytes≤65536)
 {H:Hp} {n:Nat} {mu:Bool} {s x:PV} {K:KR} (h:CG mu te H n s x K):
 ∃v sets accs news,K v sets accs news∧∀{S:Imm} {w:World} {ι:Ix} {H':Hp} {vs vx:Value},Mem S w ι H'→Rep S w ι s vs→Rep S w ι x vx→(∀k∈accs,aA H' k=aA H k)→(∀k∈news,aA H' k=none)→
  fU P S w ι H' (Builtin.append_ #[t,u] ty #[vs,vx]) v sets:=by
 unfold CG at h;split at h
 ·exact O7 hτ ht hu he hd hd' hby h
 ·exact K7 hτ ht hu he hd hd' hby h
 ·split at h
  ·split at h
   ·exact Au hτ ht hu he hd hd' hby h (.inl rfl)
   ·exact K6 hτ ht hu he hd hd' hby h
  ·exact nN hτ ht hu he hd hd' hby h
 ·split at h
  ·split at h
   ·rw[dJ]at h
    split at h
    ·rename_i c hc
     exact Au hτ ht hu he hd hd' hby h (.inr ⟨_,rfl,akR hc⟩)
    ·exact nN hτ ht hu he hd hd' hby h
   ·exact nN hτ ht hu he hd hd' hby h
  ·exact nN hτ ht hu he hd hd' hby h
 ·exact nN hτ ht hu he hd hd' hby h
theorem Ih {H:Hp} {x:PV} {d r q:Nat} {rc:RC} (h:Hw H x=some (d,r,q,rc)):x=.rsl d 0 r∧aA H d=some (.pmat q rc):=by
 unfold Hw at h;split at h
 ·split at h
  ·split at h
   ·rename_i o ho
    split at h
    ·cases h;exact⟨rfl,ho⟩
    ·cases h
   ·cases h
  ·cases h
 ·cases h
theorem K8 {a b:RC} {m:Nat} {K:RC→Prop} (h:OE a m b K):∃c,K c∧a.kin b∧c.kin a∧∀i,c.at i=if i<m then a.at i else b.at (i-m):=by
 unfold OE at h;split at h
 ·split at h
  ·rw[aK]at h
   have e:=of_decide_eq_true h.1;subst e;exact⟨_,h.2,rfl,rfl,fun i=>by simp only[RC.at];split<;>rfl⟩
  ·exact h.elim
 ·split at h
  ·rw[aK]at h
   have e:=akR h.1;subst e;exact⟨_,h.2,rfl,rfl,fun i=>by simp only[RC.at];split<;>rfl⟩
  ·exact h.elim
 ·exact h.elim
theorem zn {S:Imm} {w:World} {ι:Ix} {H:Hp} (M:Mem S w ι H) {d r b:Nat} {rc:RC} (hd:aA H d=some (.pmat r rc)) (hb:ι.o d=some b):
 ∃arr e,w.heap[b]? =some (.cells arr e (0,0))∧r≤arr.size∧∀i,i<r→∃a n cap,rd w b i=some (.slice a n cap):=by
 obtain⟨all,l,rc',⟨b0,arr,e,p1,p2,p3,p4,p5,p6,p7,p8⟩,pk,pl,pn,pall,pa⟩:=M.obj d _ hd;rw[hb]at p1;cases p1
 refine⟨arr,e,p2,qqO,fun i hi=>?_⟩;obtain⟨g1,cap,g2,g3⟩:=p8 i qqO;have e2:rd w b i=some (.slice (some ⟨l.getD i 0,0,none⟩) (rc'.at (l.getD i 0)).cnt cap):=by
  rw[aJ p2,akA qqO,←g3,akD,akA qqO];rfl
 exact⟨_,_,_,e2⟩
theorem lY (hτ:bB P τ) {e:TypeId} {te:TE} (he:τ e=some te) (h1:te.size=1) (n:Nat):(Builtin.zeroCells te.zero.cells n).size=n:=by
 have:=hτ.zsz _ _ he;simp[Builtin.zeroCells,this,h1]
theorem O9 {H:Hp} {x:PV} {d r q:Nat} {f:Nat→Nat} {c:Nat→CL} (h:WK H x=some (d,r,q,f,c)):x=.rsl d 0 r∧aA H d=some (.qmat q f c):=by
 unfold WK at h;split at h
 ·split at h
  ·split at h
   ·rename_i o ho
    split at h
    ·cases h;exact⟨rfl,ho⟩
    ·cases h
   ·cases h
  ·cases h
 ·cases h
theorem Ii {S:Imm} {w:World} {ι:Ix} {H:Hp} (M:Mem S w ι H) {d r b:Nat} {f:Nat→Nat} {c:Nat→CL} (hd:aA H d=some (.qmat r f c)) (hb:ι.o d=some b):
 ∃arr e,w.heap[b]? =some (.cells arr e (0,0))∧r≤arr.size∧∀i,i<r→∃v,rd w b i=some v∧(f i=1∨f i=2→v.oneCell'=true):=by
 obtain⟨b0,arr,e,l,p1,p2,p3,p4,p5,p6,p7,p8⟩:=M.obj d _ hd;rw[hb]at p1;cases p1
 refine⟨arr,e,p2,p3,fun i hi=>?_⟩;have e1:rd w b i=some (arr.getD i undef):=by rw[aJ p2,akA qqO,akD,akA qqO];rfl
 refine⟨_,e1,fun hf=>?_⟩;rcases hf with hf|hf
 ·rw[p7 i hi hf];rfl
 ·obtain⟨_,_,_,cap,_,_,g⟩:=p6 i hi hf
  rw[g];rfl
theorem Pb (hτ:bB P τ) {t u ty e:TypeId} {tt tu te:TE} (ht:τ t=some tt) (hu:τ u=some tu) (he:τ e=some te) (hd:tt.und=.slice e) {e':TypeId} (hd':tu.und=.slice e') (hby:te.bytes≤65536)
 {H:Hp} {n:Nat} {s:PV} {d r q:Nat} {f:Nat→Nat} {c:Nat→CL} {K:KR} (hdq:aA H d=some (.qmat q f c)) (h:CF te H n s d r q f c K):
 ∃v sets accs news,K v sets accs news∧∀{S:Imm} {w:World} {ι:Ix} {H':Hp} {vs vx:Value},Mem S w ι H'→Rep S w ι s vs→Rep S w ι (.rsl d 0 r) vx→(∀k∈accs,aA H' k=aA H k)→(∀k∈news,aA H' k=none)→
  fU P S w ι H' (Builtin.append_ #[t,u] ty #[vs,vx]) v sets:=by
 have src:∀{S:Imm} {w:World} {ι:Ix} {H':Hp} {vx:Value},Mem S w ι H'→aA H' d=some (.qmat r f c)→0<r→Rep S w ι (.rsl d 0 r) vx→∃bd xc,vx=.slice (some ⟨bd,0,none⟩) r xc∧ι.o d=some bd∧
  (∀j,j<r*1→(rd w bd (0+j)).isSome)∧∀i,i<r→∃v,rd w bd i=some v∧(f i=1∨f i=2→v.oneCell'=true):=by
  intro S w ι H' vx M hg hr0 hx;cases hx with
  |rslz=>omega
  |rsl _ _ _ _ b cap hk hc hr=>
   obtain⟨arr,e1,q1,q2,q3⟩:=Ii M hg hk;exact⟨b,cap,rfl,hk,fun j hj=>by obtain⟨v,h,_⟩:=q3 (0+j) qqO;rw[h];rfl,q3⟩
 unfold CF at h;split at h
 ·rw[aK,bS]at h
  obtain⟨⟨hrq,hr0,hbd⟩,h1,hfr,hK⟩:=h;have h1:=akR h1;subst hrq;refine⟨_,_,_,_,hK,fun M hs hx ha hn=>?_⟩;rename_i S w ι H' vs vx;have hno:=hn n qqS;have hg:=(ha d qqS).trans hdq;obtain⟨bd,xc,rfl,hbdk,hsome,hsl⟩:=src M hg hr0 hx;cases hs
  obtain⟨cap',hcap,hrun⟩:=run_append_grow (ty:=ty) hτ ht hu he hd hd' (w:=w) (base:=none) (sLen:=0) (sCap:=0) (n:=r) (xb:=some ⟨bd,0,none⟩) (xc:=xc) qqO qqO hby
   (old:= #[]) (by simp[Builtin.firstCells]) (by rw[h1];exact dw (P:=P) (w:={w with drawn:=w.drawn+1}) (b:=bd) (off:=0) (n:=r) (size:=1) (len:=r) (cap:=xc) hsome)
  generalize hzz:Builtin.zeroCells te.zero.cells (cap'-(0+r))=zz at hrun
  have hzs:zz.size=cap'-r:=by rw[←hzz,lY hτ he h1];omega
  generalize hnw:(((akE (r*1)).map fun j=>rdv {w with drawn:=w.drawn+1} bd (0+j)).toArray)=nw at hrun
  have hns:nw.size=r:=by rw[←hnw];simp
  generalize hw':({({w with drawn:=w.drawn+1}:World)with heap:=w.heap.push (.cells (#[]++nw++zz) e)}:World)=w' at hrun
  have hheap:w'.heap=w.heap.push (.cells (#[]++nw++zz) e):=by rw[←hw']
  have hbelow:Bel w w':=by
   refine .block w.heap.size (by rw[←hw']) (by rw[←hw']) (by rw[←hw']) (by rw[←hw'];simp) (fun b' hb'=>by rw[hheap,akz,if_neg hb']) (by rw[akx (aku _)];exact ji) (by rw[hheap];simp;exact dU _ _)
  have hat:w'.heap[w.heap.size]? =some (.cells (#[]++nw++zz) e (0,0)):=by rw[hheap];simp
  have hasz:(#[]++nw++zz).size=cap':=by simp[hns,hzs];omega
  obtain⟨X,M',le,K',T⟩:=M.qNew hg hno hbdk hbelow hat (fun b hb=>by rw[hheap,akz,if_neg qqO]) qqO (fun i hi=>by
   obtain⟨v2,hrd,_⟩:=hsl i hi;rw[akD,alH (by simp[hns];exact hi),alL,←hnw]
   simp only[alB,alJ];rw[alK qqO];simp only[akC,alo,akS];show some (rdv w bd i)=_;rw[rdv,hrd];rfl)
  have hio:(ι.setm n w.heap.size X).o n=some w.heap.size:=by simp[Ix.setm]
  rw[akS]at hrun hcap;exact⟨_,S,w',_,hrun,M',le,K',.rsl _ _ _ _ _ _ hio hcap (fun _ j hj=>by rw[aJ hat,akA qqO];rfl),T⟩
 ·rename_i k off m
  rw[bE]at h;obtain⟨ob,hob,h⟩:=h;split at h
  ·rename_i m' f0 c0
   rw[aK]at h;simp only[akQ,ale]at h;obtain⟨⟨rfl,hrq,hr0,hbd,hf12⟩,⟨⟨h1,e0⟩,hkd⟩,h⟩:=h;have h1:=akR h1;have e0:=akR e0;subst hrq;subst e0;have hkd:k≠d:=fun e=>by subst e;simp at hkd
   rw[bS]at h;refine⟨_,_,_,_,h.2,fun M hs hx ha hn=>?_⟩;rename_i S w ι H' vs vx;have hno:=hn n qqS;have hg:=(ha d qqS).trans hdq;have hgk:=(ha k qqS).trans hob;obtain⟨bd,xc,rfl,hbdk,hsome,hsl⟩:=src M hg hr0 hx;have hk0:∃b o cap,vs=.slice (some ⟨b,o,none⟩) m cap∧ι.o k=some b∧(m+r≤cap→o=0∧∀j,j<cap→(rd w b j).isSome)∧∀j,j<m*1→(rd w b (o+j)).isSome:=by
    cases hs with
    |rslz _ _ _ b o hk=>exact⟨b,o,0,rfl,hk,fun h=>qqO,fun j hj=>qqO⟩
    |rsl _ _ _ _ b cap hk hc hr=>
     obtain⟨arr,e1,q1,q2,q3⟩:=Ii M hgk hk;exact⟨b,0,cap,rfl,hk,fun _=>⟨rfl,hr rfl⟩,fun j hj=>by obtain⟨v,h,_⟩:=q3 (0+j) qqO;rw[h];rfl⟩
   obtain⟨b0,o0,cap,rfl,hb0,hfitc,holds⟩:=hk0;obtain⟨arr0,e1,q1,q2,q3⟩:=Ii M hgk hb0;by_cases hfit:m+r≤cap
   ·obtain⟨rfl,hrd⟩:=hfitc hfit
    have hcap:cap≤arr0.size:=by
     have:=hrd (cap-1) qqO;rw[aJ q1]at this;rcases akw (cap-1) arr0.size with h1|h1
     ·omega
     ·rw[akx h1]at this;simp at this
    generalize hnw:(((akE (r*1)).map fun j=>rdv w bd (0+j)).toArray)=nw
    have hns:nw.size=r:=by rw[←hnw];simp
    have hnv:∀i,i<r→some (nw.getD i undef)=rd w bd i:=fun i hi=>by
     obtain⟨v2,hrd2,_⟩:=hsl i hi;rw[←hnw,akD];simp only[alB,alJ];rw[alK qqO];simp only[akC,alo,akS];rw[rdv,hrd2];rfl
    have honeV:∀v∈nw.toList,v.oneCell'=true:=by
     intro v hv;obtain⟨i,hi,rfl⟩:=akK hv;have hi':i<r:=by simpa [hns]using hi
     obtain⟨v2,hrd2,h12⟩:=hsl i hi';have:=hnv i hi';rw[hrd2,akD,akA qqO]at this;simp only[alo,Option.some.injEq]at this;simp only[alM];rw[this];exact h12 (hf12 i hi')
    obtain⟨w',r1,uu⟩:=bQ P nw.toList (b:=b0) (o:=m) (i:=0) q1 honeV (by simp[hns];omega)
    have hput:∀j,(putRow arr0 (m+0) nw.toList).getD j undef=if m≤j∧j<m+r then nw.getD (j-m) undef else arr0.getD j undef:=by
     intro j;rw[fA _ _ _ _ (by simp[hns];omega)]
     simp only[akn,ak2,hns];congr 1;simp[akD]
    have hrun:=gU (ty:=ty) (w':=w') hτ ht hu he hd hd' (base:=some ⟨b0,0,none⟩) (sLen:=m) (sCap:=cap) (n:=r) (xb:=some ⟨bd,0,none⟩) (xc:=xc) hfit (new:=nw)
     (by rw[h1,←hnw];exact dw (P:=P) (w:=w) (b:=bd) (off:=0) (n:=r) (size:=1) (len:=r) (cap:=xc) hsome) (by rw[h1];simpa [eT]using r1)
    have hsz':(putRow arr0 (m+0) nw.toList).size=arr0.size:=bW _ _ _;obtain⟨X,M',le,K',T⟩:=M.qApp (bn:=b0) hgk hg hno hkd hb0 hbdk uu.below uu.here (fun b _ hb=>uu.other b hb) (.inr ⟨rfl,arr0,e1,q1,qqO⟩) qqO (fun i hi=>by
     rw[hput,if_neg qqO,aJ q1,akD,akA qqO];rfl) (fun i hi=>by
     rw[hput,if_pos qqO,show m+i-m=i by omega];exact hnv i hi)
    have hio:(ι.setm n b0 X).o n=some b0:=by simp[Ix.setm]
    exact⟨_,S,w',_,hrun,M',le,K',.rsl _ _ _ _ _ _ hio hfit (fun _ j hj=>by rw[aJ uu.here,akA qqO];rfl),T⟩
   ·obtain⟨cap',hcap,hrun⟩:=run_append_grow (ty:=ty) hτ ht hu he hd hd' (w:=w) (base:=some ⟨b0,o0,none⟩) (sLen:=m) (sCap:=cap) (n:=r) (xb:=some ⟨bd,0,none⟩) (xc:=xc) qqO qqO hby
     (by rw[h1];exact dw (P:=P) (w:={w with drawn:=w.drawn+1}) (b:=b0) (off:=o0) (n:=m) (size:=1) (len:=m) (cap:=cap) holds)
     (by rw[h1];exact dw (P:=P) (w:={w with drawn:=w.drawn+1}) (b:=bd) (off:=0) (n:=r) (size:=1) (len:=r) (cap:=xc) hsome)
    generalize hzz:Builtin.zeroCells te.zero.cells (cap'-(m+r))=zz at hrun
    have hzs:zz.size=cap'-(m+r):=by rw[←hzz,lY hτ he h1]
    generalize hod:(((akE (m*1)).map fun j=>rdv {w with drawn:=w.drawn+1} b0 (o0+j)).toArray)=od at hrun
    generalize hnw:(((akE (r*1)).map fun j=>rdv {w with drawn:=w.drawn+1} bd (0+j)).toArray)=nw at hrun
    have hos:od.size=m:=by rw[←hod];simp
    have hns:nw.size=r:=by rw[←hnw];simp
    have ho0:∀i,i<m→o0=0:=fun i hi=>by
     cases hs with
     |rslz=>omega
     |rsl=>rfl
    generalize hw':({({w with drawn:=w.drawn+1}:World)with heap:=w.heap.push (.cells (od++nw++zz) e)}:World)=w' at hrun
    have hheap:w'.heap=w.heap.push (.cells (od++nw++zz) e):=by rw[←hw']
    have hbelow:Bel w w':=by
     refine .block w.heap.size (by rw[←hw']) (by rw[←hw']) (by rw[←hw']) (by rw[←hw'];simp) (fun b' hb'=>by rw[hheap,akz,if_neg hb']) (by rw[akx (aku _)];exact ji) (by rw[hheap];simp;exact dU _ _)
    have hat:w'.heap[w.heap.size]? =some (.cells (od++nw++zz) e (0,0)):=by rw[hheap];simp
    have hasz:(od++nw++zz).size=cap':=by simp only[aly,hos,hns,hzs];omega
    obtain⟨X,M',le,K',T⟩:=M.qApp (bn:=w.heap.size) hgk hg hno hkd hb0 hbdk hbelow hat (fun b hb _=>by rw[hheap,akz,if_neg qqO]) (.inl rfl) qqO (fun i hi=>by
     obtain⟨v2,hrd,_⟩:=q3 i hi;rw[akD,alH (by simp only[aly,hos];omega),alH qqO,←hod]
     simp only[alB,alJ];rw[alK qqO];simp only[akC,alo,ho0 i hi,akS];show some (rdv w b0 i)=_;rw[rdv,hrd];rfl) (fun i hi=>by
     obtain⟨v2,hrd,_⟩:=hsl i hi;rw[akD,alH (by simp only[aly,hos,hns];omega),alI qqO,hos,show m+i-m=i by omega,←hnw]
     simp only[alB,alJ];rw[alK qqO];simp only[akC,alo,akS];show some (rdv w bd i)=_;rw[rdv,hrd];rfl)
    have hio:(ι.setm n w.heap.size X).o n=some w.heap.size:=by simp[Ix.setm]
    exact⟨_,S,w',_,hrun,M',le,K',.rsl _ _ _ _ _ _ hio hcap (fun _ j hj=>by rw[aJ hat,akA qqO];rfl),T⟩
  ·exact h.elim
 ·exact h.elim
theorem Pd (hτ:bB P τ) {t u ty e:TypeId} {tt tu te:TE} (ht:τ t=some tt) (hu:τ u=some tu) (he:τ e=some te) (hd:tt.und=.slice e) {e':TypeId} (hd':tu.und=.slice e') (hby:te.bytes≤65536)
 {H:Hp} {n:Nat} {mu:Bool} {s x:PV} {K:KR} (h:CJ mu te H n s x K):
 ∃v sets accs news,K v sets accs news∧∀{S:Imm} {w:World} {ι:Ix} {H':Hp} {vs vx:Value},Mem S w ι H'→Rep S w ι s vs→Rep S w ι x vx→(∀k∈accs,aA H' k=aA H k)→(∀k∈news,aA H' k=none)→
  fU P S w ι H' (Builtin.append_ #[t,u] ty #[vs,vx]) v sets:=by
 unfold CJ at h;split at h
 ·rename_i d r q rc hsrc
  obtain⟨rfl,hdq⟩:=Ih hsrc;have src:∀{S:Imm} {w:World} {ι:Ix} {H':Hp} {vx:Value},Mem S w ι H'→aA H' d=some (.pmat r rc)→0<r→Rep S w ι (.rsl d 0 r) vx→∃bd xc,vx=.slice (some ⟨bd,0,none⟩) r xc∧ι.o d=some bd∧
   (∀j,j<r*1→(rd w bd (0+j)).isSome)∧∀i,i<r→∃a n cap,rd w bd i=some (.slice a n cap):=by
   intro S w ι H' vx M hg hr0 hx;cases hx with
   |rslz=>omega
   |rsl _ _ _ _ b cap hk hc hr=>
    obtain⟨arr,e1,q1,q2,q3⟩:=zn M hg hk;exact⟨b,cap,rfl,hk,fun j hj=>by obtain⟨a,n,c,h⟩:=q3 (0+j) qqO;rw[h];rfl,q3⟩
  unfold LY at h;split at h
  ·rw[aK,bS]at h
   obtain⟨⟨hrq,hr0,hbd⟩,h1,hfr,hK⟩:=h;have h1:=akR h1;subst hrq;refine⟨_,_,_,_,hK,fun M hs hx ha hn=>?_⟩;rename_i S w ι H' vs vx;have hno:=hn n qqS;have hg:=(ha d qqS).trans hdq;obtain⟨bd,xc,rfl,hbdk,hsome,hsl⟩:=src M hg hr0 hx;cases hs
   obtain⟨cap',hcap,hrun⟩:=run_append_grow (ty:=ty) hτ ht hu he hd hd' (w:=w) (base:=none) (sLen:=0) (sCap:=0) (n:=r) (xb:=some ⟨bd,0,none⟩) (xc:=xc) qqO qqO hby
    (old:= #[]) (by simp[Builtin.firstCells]) (by rw[h1];exact dw (P:=P) (w:={w with drawn:=w.drawn+1}) (b:=bd) (off:=0) (n:=r) (size:=1) (len:=r) (cap:=xc) hsome)
   generalize hzz:Builtin.zeroCells te.zero.cells (cap'-(0+r))=zz at hrun
   have hzs:zz.size=cap'-r:=by rw[←hzz,lY hτ he h1];omega
   generalize hnw:(((akE (r*1)).map fun j=>rdv {w with drawn:=w.drawn+1} bd (0+j)).toArray)=nw at hrun
   have hns:nw.size=r:=by rw[←hnw];simp
   generalize hw':({({w with drawn:=w.drawn+1}:World)with heap:=w.heap.push (.cells (#[]++nw++zz) e)}:World)=w' at hrun
   have hheap:w'.heap=w.heap.push (.cells (#[]++nw++zz) e):=by rw[←hw']
   have hbelow:Bel w w':=by
    refine .block w.heap.size (by rw[←hw']) (by rw[←hw']) (by rw[←hw']) (by rw[←hw'];simp) (fun b' hb'=>by rw[hheap,akz,if_neg hb']) (by rw[akx (aku _)];exact ji) (by rw[hheap];simp;exact dU _ _)
   have hat:w'.heap[w.heap.size]? =some (.cells (#[]++nw++zz) e (0,0)):=by rw[hheap];simp
   have hasz:(#[]++nw++zz).size=cap':=by simp[hns,hzs];omega
   obtain⟨X,M',le,K',T⟩:=M.matNew hg hno hbdk hbelow hat (fun b hb=>by rw[hheap,akz,if_neg qqO]) qqO (fun i hi=>by
    obtain⟨a,n2,c2,hrd⟩:=hsl i hi;rw[akD,alH (by simp[hns];exact hi),alL,←hnw]
    simp only[alB,alJ];rw[alK qqO];simp only[akC,alo,akS];show some (rdv w bd i)=_;rw[rdv,hrd];rfl)
   have hio:(ι.setm n w.heap.size X).o n=some w.heap.size:=by simp[Ix.setm]
   rw[akS]at hrun hcap;exact⟨_,S,w',_,hrun,M',le,K',.rsl _ _ _ _ _ _ hio hcap (fun _ j hj=>by rw[aJ hat,akA qqO];rfl),T⟩
  ·rename_i k off m
   rw[bE]at h;obtain⟨ob,hob,h⟩:=h;split at h
   ·rename_i m' rc0
    rw[aK]at h;simp only[akQ,ale]at h;obtain⟨⟨rfl,hrq,hr0,hbd⟩,⟨⟨h1,e0⟩,hkd⟩,h⟩:=h;have h1:=akR h1;have e0:=akR e0;subst hrq;subst e0;have hkd:k≠d:=fun e=>by subst e;simp at hkd
    obtain⟨rc2,h,hkin,hkin2,hrc2⟩:=K8 h;rw[bS]at h;refine⟨_,_,_,_,h.2,fun M hs hx ha hn=>?_⟩;rename_i S w ι H' vs vx;have hno:=hn n qqS;have hg:=(ha d qqS).trans hdq;have hgk:=(ha k qqS).trans hob;obtain⟨bd,xc,rfl,hbdk,hsome,hsl⟩:=src M hg hr0 hx;have hk0:∃b o cap,vs=.slice (some ⟨b,o,none⟩) m cap∧ι.o k=some b∧(m+r≤cap→o=0∧∀j,j<cap→(rd w b j).isSome)∧∀j,j<m*1→(rd w b (o+j)).isSome:=by
     cases hs with
     |rslz _ _ _ b o hk=>exact⟨b,o,0,rfl,hk,fun h=>qqO,fun j hj=>qqO⟩
     |rsl _ _ _ _ b cap hk hc hr=>
      obtain⟨arr,e1,q1,q2,q3⟩:=zn M hgk hk;exact⟨b,0,cap,rfl,hk,fun _=>⟨rfl,hr rfl⟩,fun j hj=>by obtain⟨a,n,c,h⟩:=q3 (0+j) qqO;rw[h];rfl⟩
    obtain⟨b0,o0,cap,rfl,hb0,hfitc,holds⟩:=hk0;obtain⟨arr0,e1,q1,q2,q3⟩:=zn M hgk hb0;by_cases hfit:m+r≤cap
    ·obtain⟨rfl,hrd⟩:=hfitc hfit
     have hcap:cap≤arr0.size:=by
      have:=hrd (cap-1) qqO;rw[aJ q1]at this;rcases akw (cap-1) arr0.size with h1|h1
      ·omega
      ·rw[akx h1]at this;simp at this
     generalize hnw:(((akE (r*1)).map fun j=>rdv w bd (0+j)).toArray)=nw
     have hns:nw.size=r:=by rw[←hnw];simp
     have hnv:∀i,i<r→some (nw.getD i undef)=rd w bd i:=fun i hi=>by
      obtain⟨a,n2,c2,hrd2⟩:=hsl i hi;rw[←hnw,akD];simp only[alB,alJ];rw[alK qqO];simp only[akC,alo,akS];rw[rdv,hrd2];rfl
     have honeV:∀v∈nw.toList,v.oneCell'=true:=by
      intro v hv;obtain⟨i,hi,rfl⟩:=akK hv;have hi':i<r:=by simpa [hns]using hi
      obtain⟨a,n2,c2,hrd2⟩:=hsl i hi';have:=hnv i hi';rw[hrd2,akD,akA qqO]at this;simp only[alo,Option.some.injEq]at this;simp only[alM];rw[this];rfl
     obtain⟨w',r1,uu⟩:=bQ P nw.toList (b:=b0) (o:=m) (i:=0) q1 honeV (by simp[hns];omega)
     have hput:∀j,(putRow arr0 (m+0) nw.toList).getD j undef=if m≤j∧j<m+r then nw.getD (j-m) undef else arr0.getD j undef:=by
      intro j;rw[fA _ _ _ _ (by simp[hns];omega)]
      simp only[akn,ak2,hns];congr 1;simp[akD]
     have hrun:=gU (ty:=ty) (w':=w') hτ ht hu he hd hd' (base:=some ⟨b0,0,none⟩) (sLen:=m) (sCap:=cap) (n:=r) (xb:=some ⟨bd,0,none⟩) (xc:=xc) hfit (new:=nw)
      (by rw[h1,←hnw];exact dw (P:=P) (w:=w) (b:=bd) (off:=0) (n:=r) (size:=1) (len:=r) (cap:=xc) hsome) (by rw[h1];simpa [eT]using r1)
     have hsz':(putRow arr0 (m+0) nw.toList).size=arr0.size:=bW _ _ _;obtain⟨X,M',le,K',T⟩:=M.matApp (bn:=b0) hgk hg hno hkd hb0 hbdk hkin hkin2 hrc2 uu.below uu.here (fun b _ hb=>uu.other b hb) (.inr ⟨rfl,arr0,e1,q1,qqO⟩) qqO (fun i hi=>by
      rw[hput,if_neg qqO,aJ q1,akD,akA qqO];rfl) (fun i hi=>by
      rw[hput,if_pos qqO,show m+i-m=i by omega];exact hnv i hi)
     have hio:(ι.setm n b0 X).o n=some b0:=by simp[Ix.setm]
     exact⟨_,S,w',_,hrun,M',le,K',.rsl _ _ _ _ _ _ hio hfit (fun _ j hj=>by rw[aJ uu.here,akA qqO];rfl),T⟩
    ·obtain⟨cap',hcap,hrun⟩:=run_append_grow (ty:=ty) hτ ht hu he hd hd' (w:=w) (base:=some ⟨b0,o0,none⟩) (sLen:=m) (sCap:=cap) (n:=r) (xb:=some ⟨bd,0,none⟩) (xc:=xc) qqO qqO hby
      (by rw[h1];exact dw (P:=P) (w:={w with drawn:=w.drawn+1}) (b:=b0) (off:=o0) (n:=m) (size:=1) (len:=m) (cap:=cap) holds)
      (by rw[h1];exact dw (P:=P) (w:={w with drawn:=w.drawn+1}) (b:=bd) (off:=0) (n:=r) (size:=1) (len:=r) (cap:=xc) hsome)
     generalize hzz:Builtin.zeroCells te.zero.cells (cap'-(m+r))=zz at hrun
     have hzs:zz.size=cap'-(m+r):=by rw[←hzz,lY hτ he h1]
     generalize hod:(((akE (m*1)).map fun j=>rdv {w with drawn:=w.drawn+1} b0 (o0+j)).toArray)=od at hrun
     generalize hnw:(((akE (r*1)).map fun j=>rdv {w with drawn:=w.drawn+1} bd (0+j)).toArray)=nw at hrun
     have hos:od.size=m:=by rw[←hod];simp
     have hns:nw.size=r:=by rw[←hnw];simp
     have ho0:∀i,i<m→o0=0:=fun i hi=>by
      cases hs with
      |rslz=>omega
      |rsl=>rfl
     generalize hw':({({w with drawn:=w.drawn+1}:World)with heap:=w.heap.push (.cells (od++nw++zz) e)}:World)=w' at hrun
     have hheap:w'.heap=w.heap.push (.cells (od++nw++zz) e):=by rw[←hw']
     have hbelow:Bel w w':=by
      refine .block w.heap.size (by rw[←hw']) (by rw[←hw']) (by rw[←hw']) (by rw[←hw'];simp) (fun b' hb'=>by rw[hheap,akz,if_neg hb']) (by rw[akx (aku _)];exact ji) (by rw[hheap];simp;exact dU _ _)
     have hat:w'.heap[w.heap.size]? =some (.cells (od++nw++zz) e (0,0)):=by rw[hheap];simp
     have hasz:(od++nw++zz).size=cap':=by simp only[aly,hos,hns,hzs];omega
     obtain⟨X,M',le,K',T⟩:=M.matApp (bn:=w.heap.size) hgk hg hno hkd hb0 hbdk hkin hkin2 hrc2 hbelow hat (fun b hb _=>by rw[hheap,akz,if_neg qqO]) (.inl rfl) qqO (fun i hi=>by
      obtain⟨a,n2,c2,hrd⟩:=q3 i hi;rw[akD,alH (by simp only[aly,hos];omega),alH qqO,←hod]
      simp only[alB,alJ];rw[alK qqO];simp only[akC,alo,ho0 i hi,akS];show some (rdv w b0 i)=_;rw[rdv,hrd];rfl) (fun i hi=>by
      obtain⟨a,n2,c2,hrd⟩:=hsl i hi;rw[akD,alH (by simp only[aly,hos,hns];omega),alI qqO,hos,show m+i-m=i by omega,←hnw]
      simp only[alB,alJ];rw[alK qqO];simp only[akC,alo,akS];show some (rdv w bd i)=_;rw[rdv,hrd];rfl)
     have hio:(ι.setm n w.heap.size X).o n=some w.heap.size:=by simp[Ix.setm]
     exact⟨_,S,w',_,hrun,M',le,K',.rsl _ _ _ _ _ _ hio hcap (fun _ j hj=>by rw[aJ hat,akA qqO];rfl),T⟩
   ·exact h.elim
  ·exact h.elim
 ·split at h
  ·rename_i d r q f c hsrc
   obtain⟨rfl,hdq⟩:=O9 hsrc;exact Pb hτ ht hu he hd hd' hby hdq h
  ·exact O8 hτ ht hu he hd hd' hby h
theorem ED {z:Value} {n:Nat} {K:CL→Prop} (h:mkK z n K):z.cells= #[z]∧∃d,K d∧d.cnt=n∧d.esz=1∧∀j,j<n→∀{S:Imm} {w:World} {ι:Ix},Rep S w ι (d.get j) z:=by
 unfold mkK at h;split at h
 ·exact⟨rfl,_,h,by simp[CL.cnt],rfl,fun j hj S w ι=>by simp only[CL.get,akG,alN,if_pos hj,alo];constructor⟩
 ·exact⟨rfl,_,h,by simp[CL.cnt],rfl,fun j hj S w ι=>by simp only[CL.get,akG,alN,if_pos hj,alo];constructor⟩
 ·exact⟨rfl,_,h,by simp[CL.cnt],rfl,fun j hj S w ι=>by simp only[CL.get,akG,alN,if_pos hj,alo];constructor⟩
 ·exact⟨rfl,_,h,by simp[CL.cnt],rfl,fun j hj S w ι=>by simp only[CL.get,akG,alN,if_pos hj,alo];exact .islnil _ _ _ rfl⟩
 ·exact h.elim
theorem Pe (hτ:bB P τ) {t u ty e:TypeId} {tt tu te:TE} (ht:τ t=some tt) (hu:τ u=some tu) (he:τ e=some te) (hd:tt.und=.slice e) {q:IntKind} (hd':tu.und=.int q)
 {H:Hp} {n:Nat} {s x:PV} {K:KR} (h:CO te H n s x K):
 ∃v sets accs news,K v sets accs news∧∀{S:Imm} {w:World} {ι:Ix} {H':Hp} {vs vx:Value},Mem S w ι H'→Rep S w ι s vs→Rep S w ι x vx→(∀k∈accs,aA H' k=aA H k)→(∀k∈news,aA H' k=none)→
  fU P S w ι H' (Builtin.append_ #[t,u] ty #[vs,vx]) v sets:=by
 unfold CO at h;split at h
 ·split at h
  ·rename_i m
   simp only[bS,aK,akQ]at h;obtain⟨hm,⟨e1,e2⟩,hfr,h⟩:=h;have e1:=akR e1;have e2:=akY e2;obtain⟨zc,d,hK,d1,d2,d3⟩:=ED h;refine⟨_,_,_,_,hK,fun{S w ι H'} {vs vx} M hs hx ha hn=>?_⟩;have hno:=hn n qqS;cases hs
   cases hx
   obtain⟨m',rfl⟩:∃m':Nat,m=m':=⟨m.toNat,qqO⟩;simp only[Int.toNat_natCast]at d1 d3⊢;obtain⟨cap',hcap,hrun⟩:=Aq (P:=P) (ty:=ty) (w:=w) hτ ht hu he hd hd' (n:=m') qqO e2 e1;have hEn:d.ncell=m':=by rw[bF,d1,d2,akZ]
   have hzs:∀j,(Builtin.zeroCells te.zero.cells j).size=j:=lY hτ he e1;generalize hzz:Builtin.zeroCells te.zero.cells (cap'-m')=zz at hrun
   have hzl:zz.size=cap'-m':=by rw[←hzz];exact hzs _
   have hsz:(#[]++Builtin.zeroCells te.zero.cells m'++zz).size=cap':=by
    simp only[aly,hzs,hzl];simp;omega
   generalize hw':({({w with drawn:=w.drawn+1}:World)with heap:=w.heap.push (.cells (#[]++Builtin.zeroCells te.zero.cells m'++zz) e)}:World)=w' at hrun
   have hheap:w'.heap=w.heap.push (.cells (#[]++Builtin.zeroCells te.zero.cells m'++zz) e):=by rw[←hw']
   have hbelow:Bel w w':=by
    refine .block w.heap.size (by rw[←hw']) (by rw[←hw']) (by rw[←hw']) (by rw[←hw'];simp) (fun b' hb'=>by rw[hheap,akz,if_neg hb']) (by rw[akx (aku _)];exact ji) (by rw[hheap];simp;exact dU _ _)
   obtain⟨M',K',T⟩:=M.new' hno (c:=d) hheap hbelow qqO (fun j hj=>by
    rw[hEn]at hj;have hg:(#[]++Builtin.zeroCells te.zero.cells m'++zz).getD j undef=te.zero:=by
     rw[akD,alH (by simp only[aly,hzs];simp;exact hj),alL]
     unfold Builtin.zeroCells;rw[Array.getElem?_map,zc];simp[hj];rw[alg];rfl
    rw[hg];exact d3 j hj)
   refine⟨_,S,w',_,hrun,M',jI (M.none_o hno),K',?_,T⟩;exact .rsl _ _ _ _ _ _ (by simp[Ix.seto]) hcap (fun _ j hj=>by
    rw[aJ (arr:= #[]++Builtin.zeroCells te.zero.cells m'++zz) (e:=e) (f:=(0,0)) (by rw[hheap];simp),akA (by rw[hsz];exact hj)];rfl)
  ·exact h.elim
 ·exact h.elim
theorem yS {α:Type} (xs ys:List α) (off so q:Nat) (d:α) (h1:off+q≤xs.length) (h2:so+q≤ys.length) (j:Nat):
 (xs.take off++((ys.drop so).take q++xs.drop (off+q))).getD j d=if off≤j∧j<off+q then ys.getD (so+(j-off)) d else xs.getD j d:=by
 simp only[akG,List.getElem?_append,alm,alO,List.getElem?_take,alP];have e1:min off xs.length=off:=qqO;have e2:min q (ys.length-so)=q:=qqO;rw[e1,e2];by_cases a:j<off
 ·rw[if_pos a,if_pos a,if_neg qqO]
 ·rw[if_neg a]
  by_cases b:j-off<q
  ·rw[if_pos b,if_pos b,if_pos qqO]
  ·rw[if_neg b,if_neg qqO,show off+q+(j-off-q)=j by omega]
theorem Av {α:Type} (xs ys:List α) (off so q:Nat) (h1:off+q≤xs.length) (h2:so+q≤ys.length):
 (xs.take off++((ys.drop so).take q++xs.drop (off+q))).length=xs.length:=by
 simp only[alQ,alm,alO];omega
theorem Pf {es:Nat} {c e:CL} {off so q:Nat} {K:CL→Prop} (h:WL es c e off so q K):
 ∃c',K c'∧c'.ncell=c.ncell∧off+q*es≤c.ncell∧so+q*es≤e.ncell∧(∀j,j<q*es→one (e.get (so+j))=true)∧
  ∀j,j<c.ncell→c'.get j=if off≤j∧j<off+q*es then e.get (so+(j-off))else c.get j:=by
 unfold WL at h;split at h
 ·rename_i k xs
  split at h
  ·rename_i k' ys
   obtain⟨⟨h1,h2⟩,h⟩:=h;rw[aK,akQ]at h;obtain⟨⟨g1,g2⟩,h⟩:=h;have g1:=of_decide_eq_true g1;have g2:=akR g2;subst g1 g2;refine⟨_,h,?_,by simpa [CL.ncell]using h1,by simpa [CL.ncell]using h2,fun j hj=>rfl,fun j hj=>?_⟩
   ·simp only[CL.ncell];exact Av _ _ _ _ _ h1 h2
   ·simp only[CL.get,akZ]
    rw[yS _ _ _ _ _ _ h1 h2];split<;>rfl
  ·exact h.elim
 ·rename_i m rs
  split at h
  ·rename_i m' ss
   obtain⟨⟨h1,h2,h3,h4⟩,h5,h⟩:=h;rw[aK,akQ,akQ]at h;obtain⟨⟨⟨g1,g2⟩,g3⟩,h⟩:=h;have g1:=akR g1;have g2:=akR g2;have g3:=akY g3;subst g1 g2;obtain⟨a,ha⟩:∃a,off=a*es:=⟨off / es,by have:=alb off es;rw[h1]at this;rw[akT];omega⟩
   obtain⟨b,hb⟩:∃b,so=b*es:=⟨so / es,by have:=alb so es;rw[h2]at this;rw[akT];omega⟩
   subst ha hb;rw[alR _ g3]at h3 h;rw[alR _ g3]at h4 h;have e1:a*es+q*es=(a+q)*es:=(ak7 _ _ _).symm;have e2:b*es+q*es=(b+q)*es:=(ak7 _ _ _).symm;have hone:=(sU (d:=.recs es ss) (K:=True) ⟨h5,trivial⟩).2;have i2:(b+q)*es≤ss.length*es:=ak6 _ h4;refine⟨_,h,?_,?_,?_,fun j hj=>hone _ (by simp only[CL.ncell];omega),fun j hj=>?_⟩
   ·simp only[CL.ncell];rw[Av _ _ _ _ _ h3 h4]
   ·simp only[CL.ncell,e1];exact ak6 _ h3
   ·simp only[CL.ncell,e2];exact i2
   ·simp only[CL.get]
    rw[yS _ _ _ _ _ _ h3 h4,e1];have k1:a≤j / es↔a*es≤j:=Nat.le_div_iff_mul_le g3;have k2:j / es<a+q↔j<(a+q)*es:=ala g3;by_cases hc:a*es≤j∧j<(a+q)*es
    ·rw[if_pos hc,if_pos ⟨k1.2 hc.1,k2.2 hc.2⟩]
     obtain⟨d,rfl⟩:∃d,j=a*es+d:=⟨j-a*es,qqO⟩;clear k1 k2;rw[show a*es+d-a*es=d by omega,akT a es,akT b es,akU g3,akU g3,akW,akW,show a+d / es-a=d / es from alS ..]
    ·rw[if_neg hc,if_neg fun hd=>hc ⟨k1.1 hd.1,k2.1 hd.2⟩]
  ·exact h.elim
 ·exact h.elim
theorem K9 {H:Hp} {x:PV} {K:CL→Nat→Nat→List Nat→Prop} (h:OG H x K):∃e so m acc,K e so m acc∧
 ∀{S:Imm} {w:World} {ι:Ix} {H':Hp} {vx:Value},Mem S w ι H'→(∀k∈acc,aA H' k=aA H k)→Rep S w ι x vx→0<m→∃b o cap,vx=.slice (some ⟨b,o,none⟩) m cap∧
  ∀j,so+j<e.ncell→(rd w b (o+j)).isSome∧Rep S w noI (e.get (so+j)) (rdv w b (o+j)):=by
 unfold OG at h;split at h
 ·rename_i c t
  rw[dJ]at h;refine⟨_,_,_,_,h,fun M ha hr hm=>?_⟩;cases hr with
  |islnil _ _ _ hc=>omega
  |isl _ _ _ b off cap hc hs hh hf ho=>exact⟨b,off,cap,rfl,fun j hj=>by rw[akS]at hj⊢;exact⟨M.imm _ _ (hs j hj),hh j hj⟩⟩
 ·rename_i k off n
  rw[bE]at h;obtain⟨o,ho,h⟩:=h;split at h
  ·rename_i c fz
   obtain⟨d,h,d1,d2,d3⟩:=gX h;refine⟨_,_,_,_,h,fun M ha hr hm=>?_⟩;rename_i S w ι H' vx;have hobj:=(ha k qqS).trans ho;cases hr with
   |rslz=>omega
   |rsl _ _ _ _ b cap hkb hcap hrd=>
   refine⟨b,off,cap,rfl,fun j hj=>?_⟩;have hl:=M.lies hobj hkb (off+j) qqO;rw[akS]at hl;exact⟨hl.1,d3 (off+j) qqO hl.2⟩
  ·exact h.elim
 ·exact h.elim
theorem Pg (hτ:bB P τ) {t u ty e:TypeId} {tt te:TE} (ht:τ t=some tt) (he:τ e=some te) (hd:tt.und=.slice e)
 {H:Hp} {d s:PV} {K:KR} (h:OH te H d s K):
 ∃v sets accs news,K v sets accs news∧∀{S:Imm} {w:World} {ι:Ix} {H':Hp} {vs vx:Value},Mem S w ι H'→Rep S w ι d vs→Rep S w ι s vx→(∀k∈accs,aA H' k=aA H k)→
  fU P S w ι H' (Builtin.copy_ #[t,u] ty #[vs,vx]) v sets:=by
 unfold OH at h;split at h
 ·rename_i k off n
  rw[bE]at h;obtain⟨ob,hob,h⟩:=h;split at h
  ·rename_i c fz
   split at h
   ·exact h.elim
   ·obtain⟨e',so,m,acc,h,hs⟩:=K9 h
    obtain⟨⟨hm,hn⟩,h⟩:=h;obtain⟨c',hK,p1,p2,p3,p4,p5⟩:=Pf h;refine⟨_,_,_,_,hK,fun{S w ι H' vs vx} M hr hx ha=>?_⟩;have hobj:=(ha k qqS).trans hob;obtain⟨bs,os,xc,rfl,hcell⟩:=hs M (fun k' hk'=>ha k' (by simp[hk'])) hx hm
    obtain⟨b,arr,e9,g1,g2,g3,g4,g5⟩:=M.obj k _ hobj;cases hr with
    |rslz=>omega
    |rsl _ _ _ _ b' cap hkb hcap hrd=>
    rw[g1]at hkb;cases hkb
    have hq:min m n=alT m n:=rfl;generalize alT m n=q at hq
    rw[hq]at p2 p3 p4 p5⊢;have hfc:=dw (P:=P) (w:=w) (b:=bs) (off:=os) (n:=q) (size:=te.size) (len:=m) (cap:=xc) (fun j hj=>(hcell j qqO).1);generalize hvals:((akE (q*te.size)).map fun j=>rdv w bs (os+j)).toArray=vals at hfc
    have hvs:vals.size=q*te.size:=by rw[←hvals];simp
    have hvg:∀j,j<q*te.size→Rep S w noI (e'.get (so+j)) (vals.getD j undef):=fun j hj=>by
     have:=(hcell j qqO).2;rw[←hvals];simpa [akD,hj]using this
    have hone:∀v∈vals.toList,v.oneCell'=true:=by
     intro v hv;obtain⟨i,hi,rfl⟩:=akK hv;have hi':i<q*te.size:=by rw[←hvs];simpa using hi
     have:=(hvg i hi').oneCell (p4 i hi');simpa [akD,akA (show i<vals.size by simpa using hi)]using this
    obtain⟨w',r1,uu⟩:=bQ P vals.toList (o:=off) (i:=0) g2 hone (by simp[hvs];omega)
    have hc':∀j,j<c'.ncell→Rep S w ι (c'.get j) ((putRow arr (off+0) vals.toList).getD j undef):=by
     intro j hj;rw[fA _ _ _ _ (by simp[hvs];omega),p5 j qqO]
     simp only[akn,ak2,hvs];split
     ·rename_i hin
      have:=(hvg (j-off) qqO).up ι;simpa [akD]using this
     ·have:=g4 j qqO
      simpa using this
    obtain⟨M',T⟩:=M.write hobj g1 g2 uu (by rw[bW];exact aku _) (by rw[bW];omega) hc'
    refine⟨goInt q,S,w',ι,?_,M',.refl _,(T 0).keeps,.int _ _ _,T⟩;have hq':alT m n=q:=hq;simp only[Builtin.copy_,Builtin.lenOf,alB,List.getElem?_cons_zero,List.getElem?_cons_succ,Sem.run_bind,Sem.run_pure,Result.andThen,run_underlying (hτ.und _ _ ht),hd,bI hτ he,hq',hfc,r1]
  ·exact h.elim
 ·exact h.elim
variable {P:Program} {r:Option Nat} {τ:TypeId→Option TE}
theorem iR {o:Oper} {a:Act} {b:Builtin} {args:Array Operand} {ats:Array TypeId} (ho:o.op=.call ⟨.builtin b,args,ats⟩) {w w':World} {val:Value} {s:Sem Value}
 (hb:∀cs,builtin b ats o.type cs (args.map a.eval)=(do pure (.value (←s)):Sem Next)) (h:s.run P w=.ok val w'):(execOp a.eval o).run P w=.ok (.value val) w':=by
 simp only[execOp,ho,resolve,Sem.run_bind,Sem.run_pure,Result.andThen,invoke];rw[hb];exact dW h
theorem vE (b:Bool):∀(r:List PV) (x:PV) {K:PV→Prop},mH 0 b x r K→∃v,K v∧∀{S:Imm} {w:World} {ι:Ix} {vx:Value} {vs:List Value},Rep S w ι x vx→vs.length=r.length→(∀i,i<r.length→Rep S w ι (aH r i) (vs.getD i undef))→
 ∃val,(vs.foldlM (if b then Builtin.max2 else Builtin.min2) vx:Sem Value).run P w=.ok val w∧Rep S w ι v val:=by
 intro r;induction r with
 |nil=>intro x K h;exact⟨x,h,fun hx hl _=>by simp at hl;subst hl;exact⟨_,rfl,hx⟩⟩
 |cons y r ih=>
  intro x K h;cases x<;>(try exact h.elim)<;>cases y<;>(try exact h.elim)
  ·rename_i k p k' q
   simp only[mH]at h;rw[aK]at h;have hk:=of_decide_eq_true h.1;subst hk;have step:∃m,mH 0 b (.int k m) r K∧∀w,((if b then Builtin.max2 else Builtin.min2) (.int k p) (.int k q):Sem Value).run P w=.ok (.int k m) w:=by
    cases b with
    |true=>
     refine⟨_,h.2,fun w=>?_⟩;simp only[if_true,Builtin.max2,Sem.run_pure];congr 2;split<;>omega
    |false=>
     refine⟨_,h.2,fun w=>?_⟩;simp only[als,if_false,Builtin.min2,Sem.run_pure];congr 2;split<;>omega
   obtain⟨m,hm,hrun⟩:=step;obtain⟨v,hK,hs⟩:=ih _ hm;refine⟨v,hK,fun hx hl hr=>?_⟩;rename_i S w ι vx vs;cases vs with
   |nil=>simp at hl
   |cons vy vs=>
    have hy:=hr 0 qqS;simp only[aH,alU]at hy;cases hx;cases hy
    obtain⟨val,h1,h2⟩:=hs (S:=S) (w:=w) (ι:=ι) (.int _ _ _) (by simpa using hl) (fun i hi=>by simpa [aH]using hr (i+1) (by simpa using hi))
    refine⟨val,?_,h2⟩;rw[List.foldlM_cons,Sem.run_bind,hrun];exact h1
theorem F9 (hτ:bB P τ) {md rf CP YP} {o:Oper} {ρ:Operand→PV} {H:Hp} {n:Nat} {c:Call} {b:Builtin} (ho:o.op=.call c) (hc:c.callee=.builtin b) {K:KR}
 (h:opK τ md rf CP YP ρ H n o.dst o.op K):∃v sets accs news,K v sets accs news∧bH P r o ρ H v sets accs news:=by
 obtain⟨callee,args,ats⟩:=c;simp only at hc;subst hc;rw[ho]at h;simp only[opK]at h;have hd:∀c,o.op≠ .defer c:=fun c e=>by rw[ho]at e;cases e
 have hargs:∀{S:Imm} {w:World} {ι:Ix} {a:Act},(∀x∈o.op.operands.toList,Rep S w ι (ρ x) (a.eval x))→bG S w ι (kK ρ args.toList) (args.map a.eval):=by
  intro S w ι a hr;exact kX args (fun x hx=>hr x (by simp[ho,Op.operands,Call.operands];simpa using hx))
 unfold Sv at h;split at h
 ·
  rename_i hb';split at h
  ·rename_i t hats
   rw[bU]at h;obtain⟨te,ht,h⟩:=h;have hats':ats= #[t]:=by rw[←alV];simpa using hats
   subst hats';split at h
   ·rename_i x hx
    have one':∀{S:Imm} {w:World} {ι:Ix} {a:Act},(∀x∈o.op.operands.toList,Rep S w ι (ρ x) (a.eval x))→∃vx,args.map a.eval= #[vx]∧Rep S w ι x vx:=by
     intro S w ι a hr;obtain⟨h1,h2⟩:=hargs hr;rw[hx]at h1 h2;have h0:=h2 0 qqS;refine⟨(args.map a.eval).getD 0 undef,?_,h0⟩;have hsz:(args.map a.eval).size=1:=h1.symm;apply alW
     ·simp[hsz]
     ·intro i hi1 hi2
      have:i=0:=qqO;subst this;simp[akD,akA hi1]
    have key:∀{m:Nat},K (.int .i64 m) [] [] []→(∀{S:Imm} {w:World} {ι:Ix} {vx:Value},Rep S w ι x vx→(Builtin.len_ #[t] o.type #[vx]).run P w=.ok (goInt m) w)→
     ∃v sets accs news,K v sets accs news∧bH P r o ρ H v sets accs news:=by
     intro m hK hrun;refine⟨_,_,_,_,hK,aY hd fun S w ι H' a M hr ha=>?_⟩;obtain⟨vx,e1,e2⟩:=one' hr;exact⟨_,iR ho (fun _=>rfl) (by rw[e1];exact hrun e2),.int _ _ _⟩
    split at h
    ·rename_i e hu
     have sl:∀(m:Nat) (vx:Value) (w:World),(∃ad cap,vx=.slice ad m cap)→(Builtin.len_ #[t] o.type #[vx]).run P w=.ok (goInt m) w:=by
      rintro m vx w ⟨ad,cap,rfl⟩
      simp[Builtin.len_,run_underlying (hτ.und _ _ ht),hu,Result.andThen]
     split at h
     ·rw[dJ]at h
      exact key h fun hr=>sl _ _ _ hr.islSlice
     ·exact key h fun hr=>sl _ _ _ hr.rslSlice
     ·exact key (m:=0) h fun hr=>sl _ _ _ (by cases hr;exact⟨_,_,rfl⟩)
     ·exact key h fun hr=>sl _ _ _ (by cases hr;exact⟨_,_,rfl⟩)
     ·exact key h fun hr=>sl _ _ _ (by cases hr;exact⟨_,_,rfl⟩)
     ·exact key h fun hr=>sl _ _ _ (by cases hr;exact⟨_,_,rfl⟩)
     ·exact h.elim
    ·rename_i hu
     split at h
     ·exact key h fun hr=>by cases hr;simp[Builtin.len_,run_underlying (hτ.und _ _ ht),hu,Result.andThen]
     ·exact h.elim
    ·rename_i m e hu
     exact key h fun hr=>by simp[Builtin.len_,run_underlying (hτ.und _ _ ht),hu,Result.andThen]
    ·exact h.elim
   ·exact h.elim
  ·exact h.elim
 ·split at h
  ·rename_i s x hx
   split at h
   ·rename_i t u hats
    have hats':ats= #[t,u]:=by rw[←alV];simpa using hats
    subst hats';rw[bU]at h;obtain⟨tt,ht,h⟩:=h;split at h
    ·rename_i e hue
     simp only[bU]at h;obtain⟨te',he,tu,hu,h⟩:=h;split at h
     ·rename_i e' hue'
      rw[aK,akQ]at h;obtain⟨⟨h1,h2⟩,h⟩:=h;obtain⟨v,sets,accs,news,hK,hs⟩:=Pd (P:=P) (ty:=o.type) hτ ht hu he hue hue' (akY h2) h;refine⟨v,sets,accs,news,hK,fun S w ι H' a next Q M hr ha hn hk=>?_⟩;obtain⟨g1,g2⟩:=hargs hr;rw[hx]at g1 g2;have e1:args.map a.eval= #[(args.map a.eval).getD 0 undef,(args.map a.eval).getD 1 undef]:=by
       have hsz:(args.map a.eval).size=2:=g1.symm;apply alW
       ·simp[hsz]
       ·intro i hi1 hi2
        have:i=0∨i=1:=qqO;rcases this with rfl|rfl<;>simp only[akD,akA (show _<(args.map a.eval).size by omega)]<;>rfl
      obtain⟨val,S',w',ι',r1,M',L',K',R',T⟩:=hs M (g2 0 qqS) (g2 1 qqS) ha hn;exact cB hd (iR ho (fun _=>rfl) (by rw[e1];exact r1)) (hk val S' w' ι' M' L' K' R' T)
     ·rename_i k' hue'
      obtain⟨v,sets,accs,news,hK,hs⟩:=Pe (P:=P) (ty:=o.type) hτ ht hu he hue hue' h;refine⟨v,sets,accs,news,hK,fun S w ι H' a next Q M hr ha hn hk=>?_⟩;obtain⟨g1,g2⟩:=hargs hr;rw[hx]at g1 g2;have e1:args.map a.eval= #[(args.map a.eval).getD 0 undef,(args.map a.eval).getD 1 undef]:=by
       have hsz:(args.map a.eval).size=2:=g1.symm;apply alW
       ·simp[hsz]
       ·intro i hi1 hi2
        have:i=0∨i=1:=qqO;rcases this with rfl|rfl<;>simp only[akD,akA (show _<(args.map a.eval).size by omega)]<;>rfl
      obtain⟨val,S',w',ι',r1,M',L',K',R',T⟩:=hs M (g2 0 qqS) (g2 1 qqS) ha hn;exact cB hd (iR ho (fun _=>rfl) (by rw[e1];exact r1)) (hk val S' w' ι' M' L' K' R' T)
     ·exact h.elim
    ·exact h.elim
   ·exact h.elim
  ·exact h.elim
 ·
  split at h
  ·rename_i x hx
   split at h
   ·rename_i t hats
    rw[bU]at h;obtain⟨te,ht,h⟩:=h;have hats':ats= #[t]:=by rw[←alV];simpa using hats
    subst hats';split at h
    ·rename_i e hu
     split at h
     ·refine⟨_,_,_,_,h,aY hd fun S w ι H' a M hr ha=>?_⟩
      obtain⟨g1,g2⟩:=hargs hr;rw[hx]at g1 g2;have h0:=g2 0 qqS;have hsz:(args.map a.eval).size=1:=g1.symm;have e1:args.map a.eval= #[(args.map a.eval).getD 0 undef]:=by
       apply alW
       ·simp[hsz]
       ·intro i hi1 hi2
        have:i=0:=qqO;subst this;simp[akD,akA hi1]
      simp only[aH]at h0;have h0':(args.map a.eval).getD 0 undef=.slice none 0 0:=by
       generalize(args.map a.eval).getD 0 undef=v at h0
       cases h0;rfl
      refine⟨_,iR ho (fun _=>rfl) (s:=Builtin.cap_ #[t] o.type (args.map a.eval)) (val:=goInt 0) ?_,.int _ _ _⟩;rw[e1,h0'];simp[Builtin.cap_,run_underlying (hτ.und _ _ ht),hu,Result.andThen]
     ·exact h.elim
    ·exact h.elim
   ·exact h.elim
  ·exact h.elim
 ·split at h
  ·rename_i x rr hx
   obtain⟨v,hK,hs⟩:=vE (P:=P) true _ _ h;refine⟨v,_,_,_,hK,aY hd fun S w ι H' a M hr ha=>?_⟩;obtain⟨h1,h2⟩:=hargs hr;rw[hx]at h1 h2;obtain⟨vx,vs,hvs⟩:∃vx vs,(args.map a.eval).toList=vx::vs:=by
    cases e:(args.map a.eval).toList with
    |nil=>rw[←ak2,e]at h1;simp at h1
    |cons vx vs=>exact⟨vx,vs,rfl⟩
   have hget:∀i,(args.map a.eval).getD i undef=(vx::vs).getD i undef:=fun i=>by rw[←hvs];simp[akD]
   have hlen:vs.length=rr.length:=by rw[←ak2,hvs]at h1;simpa using h1.symm
   obtain⟨val,g1,g2⟩:=hs (S:=S) (w:=w) (ι:=ι) (vx:=vx) (vs:=vs) (by have:=h2 0 qqS;rw[hget]at this;simpa [aH]using this) hlen
    (fun i hi=>by have:=h2 (i+1) (by simp;omega);rw[hget]at this;simpa [aH]using this)
   refine⟨val,iR ho (fun _=>rfl) ?_,g2⟩;simp only[Builtin.max_,hvs];exact g1
  ·exact h.elim
 ·split at h
  ·rename_i x rr hx
   obtain⟨v,hK,hs⟩:=vE (P:=P) false _ _ h;refine⟨v,_,_,_,hK,aY hd fun S w ι H' a M hr ha=>?_⟩;obtain⟨h1,h2⟩:=hargs hr;rw[hx]at h1 h2;obtain⟨vx,vs,hvs⟩:∃vx vs,(args.map a.eval).toList=vx::vs:=by
    cases e:(args.map a.eval).toList with
    |nil=>rw[←ak2,e]at h1;simp at h1
    |cons vx vs=>exact⟨vx,vs,rfl⟩
   have hget:∀i,(args.map a.eval).getD i undef=(vx::vs).getD i undef:=fun i=>by rw[←hvs];simp[akD]
   have hlen:vs.length=rr.length:=by rw[←ak2,hvs]at h1;simpa using h1.symm
   obtain⟨val,g1,g2⟩:=hs (S:=S) (w:=w) (ι:=ι) (vx:=vx) (vs:=vs) (by have:=h2 0 qqS;rw[hget]at this;simpa [aH]using this) hlen
    (fun i hi=>by have:=h2 (i+1) (by simp;omega);rw[hget]at this;simpa [aH]using this)
   refine⟨val,iR ho (fun _=>rfl) ?_,g2⟩;simp only[Builtin.min_,hvs];exact g1
  ·exact h.elim
 ·
  split at h
  ·rename_i d s hx
   split at h
   ·rename_i t u hats
    have hats':ats= #[t,u]:=by rw[←alV];simpa using hats
    subst hats';rw[bU]at h;obtain⟨tt,ht,h⟩:=h;split at h
    ·rename_i e hue
     rw[bU]at h;obtain⟨te',he,h⟩:=h;obtain⟨v,sets,accs,news,hK,hs⟩:=Pg (P:=P) (t:=t) (u:=u) (ty:=o.type) hτ ht he hue h;refine⟨v,sets,accs,news,hK,fun S w ι H' a next Q M hr ha hn hk=>?_⟩;obtain⟨g1,g2⟩:=hargs hr;rw[hx]at g1 g2;have e1:args.map a.eval= #[(args.map a.eval).getD 0 undef,(args.map a.eval).getD 1 undef]:=by
      have hsz:(args.map a.eval).size=2:=g1.symm;apply alW
      ·simp[hsz]
      ·intro i hi1 hi2
       have:i=0∨i=1:=qqO;rcases this with rfl|rfl<;>simp only[akD,akA (show _<(args.map a.eval).size by omega)]<;>rfl
     obtain⟨val,S',w',ι',r1,M',L',K',R',T⟩:=hs M (g2 0 qqS).dropP (g2 1 qqS).dropP ha;exact cB hd (iR ho (fun _=>rfl) (by rw[e1];exact r1)) (hk val S' w' ι' M' L' K' R' T)
    ·exact h.elim
   ·exact h.elim
  ·exact h.elim
 ·exact h.elim
variable {P:Program} {r:Option Nat} {τ:TypeId→Option TE}
def Obj.plain:Obj→Bool
 |.cells _ _ _=>false
 |_=>true
theorem iT {w:World} {b:Nat} {o:Obj} (h:w.heap[b]? =some o) (hp:Obj.plain o=true) (j:Nat):rd w b j=none:=by
 unfold rd;rw[h];cases o<;>simp_all[Obj.plain]
theorem Ml {ι:Ix} {k b:Nat} {o:AO} (hT:o.isTok=false) (hE:o.isExt=false) (hX:o.excl=true) (hb:ι.o k=some b) (b':Nat):o.has ι k b'↔b'=b:=by
 have e:o.has ι k b'↔ι.o k=some b':=by
  cases o with
  |cells c fz=>cases fz with
   |true=>simp[AO.excl]at hX
   |false=>exact Iff.rfl
  |_=>first|exact Iff.rfl|(simp[AO.isTok]at hT;done)|(simp[AO.isExt]at hE;done)
 rw[e,hb];exact⟨fun h=>(Option.some.inj h).symm,fun h=>by rw[h]⟩
theorem pI {ι:Ix} {k b:Nat} {o:AO} (h:o.has ι k b):o.excl=true:=by
 cases o with
 |cells c fz=>cases fz with
  |true=>exact h.elim
  |false=>rfl
 |_=>rfl
theorem nO {ι ι1:Ix} {k k1:Nat} {o o1:AO} (eo:ι1.o k1=ι.o k) (et:ι1.t k1=ι.t k) (ex:ι1.x k1=ι.x k) (hT:o1.isTok=o.isTok) (hE:o1.isExt=o.isExt) (hX:o1.excl=o.excl) (b:Nat):o1.has ι1 k1 b↔o.has ι k b:=by
 have key:∀{ι:Ix} {k:Nat} {o:AO},o.has ι k b↔(match o.isTok with|true=>∃n,ι.t k=some (b,n)|false=>match o.isExt with|true=>ι.x k b|false=>match o.excl with|true=>ι.o k=some b|false=>False):=by
  intro ι k o;cases o with
  |cells c fz=>cases fz<;>exact Iff.rfl
  |_=>exact Iff.rfl
 rw[key,key,hT,hE,hX,eo,et,ex]
theorem Ij {ι:Ix} {k b:Nat} {o:AO} (hT:o.isTok=false) (hE:o.isExt=false) (hb:ι.o k=some b) (b':Nat) (h:o.has ι k b'):b'=b:=by
 cases hX:o.excl with
 |true=>exact(Ml hT hE hX hb b').1 h
 |false=>cases o with
  |cells c fz=>cases fz with
   |true=>exact h.elim
   |false=>simp[AO.excl]at hX
  |_=>simp[AO.excl]at hX
theorem gQ {o:Obj} (h:Obj.plain o=true):Unf (some o):=by cases o<;>first|(simp[Obj.plain]at h;done)|exact fun _=>rfl
theorem Mem.putObj {S:Imm} {w w':World} {ι:Ix} {H:Hp} (M:Mem S w ι H) {k b:Nat} {o o':AO} {x y:Obj} (ho:aA H k=some o) (hx:o.excl=true) (hoT:o.isTok=false) (hoT':o'.isTok=false) (hoE:o.isExt=false) (hoE':o'.isExt=false)
 (hb:ι.o k=some b) (hw:w.heap[b]? =some x) (hpx:Obj.plain x=true) (hpy:Obj.plain y=true) (below:Bel w w') (here:w'.heap[b]? =some y) (other:∀b',b'≠b→w'.heap[b']? =w.heap[b']?)
 (hobj:∀S',Keeps S w S' w'→gM S' w' ι k o'):Mem S w' ι (aO H k o')∧Keeps S w S w'∧∀p,Tr p S w ι H S w' ι (aO H k o'):=by
 have hbl:o.has ι k b:=(Ml hoT hoE hx hb b).2 rfl;have hbl':∀b',o'.has ι k b'→b'=b:=Ij hoT' hoE' hb;have hnS:∀j,¬S b j:=fun j hs=>by have:=M.imm b j hs;rw[iT hw hpx]at this;simp at this
 have hkeep:Keeps S w S w':=by
  refine⟨fun b' j hs=>⟨hs,?_⟩,fun b' j hs=>?_⟩
  ·by_cases e:b'=b
   ·subst e;exact absurd hs (hnS j)
   ·exact dD (other b' e) j
  ·by_cases e:b'=b
   ·subst e;rw[iT hw hpx]at hs;simp at hs
   ·rw[dD (other b' e) j];exact hs
 have ht:ι.t k=none:=by
  cases et:ι.t k with
  |none=>rfl
  |some x=>obtain⟨o,g1,g2⟩:=M.liveT k x et;rw[ho]at g1;cases g1;rw[hoT]at g2;cases g2
 obtain⟨m,t⟩:=M.step1 (b:=b) (k:=k) (o':=o') below (fun b' _ hb'=>other b' hb') hkeep (fun b' j h=>.inl h) (fun j hs=>absurd hs (hnS j)) (.refl _) (fun _ _=>rfl) (fun _ _=>rfl) rfl
  (.inr ⟨o,ho,hx,hbl⟩) hbl' (fun h=>by rw[hoT']at h;cases h) (fun _=>ht) (hobj S hkeep)
 exact⟨m,hkeep,t⟩
theorem Mem.newObj {S:Imm} {w:World} {ι:Ix} {H:Hp} (M:Mem S w ι H) {k:Nat} (hk:aA H k=none) {o':AO} {y:Obj} (hoT:o'.isTok=false) (hoE:o'.isExt=false) (hy:Obj.plain y=true)
 (hobj:∀w',Keeps S w S w'→w'.heap[w.heap.size]? =some y→gM S w' (ι.seto k w.heap.size) k o'):
 Mem S {w with heap:=w.heap.push y} (ι.seto k w.heap.size) (aO H k o')∧∀p,Tr p S w ι H S {w with heap:=w.heap.push y} (ι.seto k w.heap.size) (aO H k o'):=by
 have ho:=M.none_o hk;have hkeep:=jY M.imm (w:=w) y;have hnoS:∀j,¬S w.heap.size j:=fun j hs=>by have:=dZ (M.imm _ _ hs);omega
 refine M.step1 (b:=w.heap.size) (iI _ _ (gQ hy)) (fun b' hb' _=>iD hb') hkeep (fun b' j h=>.inl h) (fun j h=>absurd h (hnoS j))
  (jI ho) (fun k' h=>by simp[Ix.seto,h]) (fun _ _=>rfl) rfl (.inl (aku _)) (Ij hoT hoE (by simp[Ix.seto])) (fun h=>by rw[hoT]at h;cases h) (fun _=>M.none_t hk) (hobj _ hkeep (gJ _ _))
theorem Ga {md rf CP YP} {o:Oper} {ρ:Operand→PV} {H:Hp} {n:Nat} {t:TypeId} {x:Option Operand} (ho:o.op=.makeMap t x) {K:KR}
 (h:opK τ md rf CP YP ρ H n o.dst o.op K):∃v sets accs news,K v sets accs news∧bH P r o ρ H v sets accs news:=by
 have hd:∀c,o.op≠ .defer c:=fun c e=>by rw[ho]at e;cases e
 rw[ho]at h;cases x with
 |some x=>exact h.elim
 |none=>
  simp only[opK,bS]at h;refine⟨_,_,_,_,h.2,fun S w ι H' a next Q M hr ha hn hk=>?_⟩;have hno:=hn n qqS;obtain⟨M',T⟩:=M.newObj (y:=.map #[] 0) (o':=.map []) hno rfl rfl rfl (fun w' hk' hh=>⟨w.heap.size, #[],0,by simp[Ix.seto],hh,rfl,fun i h=>by simp at h⟩)
  refine cB hd (w':={w with heap:=w.heap.push (.map #[] 0)}) (val:=.map (some w.heap.size)) ?_ (hk _ S _ _ M' (jI (M.none_o hno)) (jY M.imm _) (.rm _ _ _ (by simp[Ix.seto])) T)
  simp only[execOp,ho];refine dW ?_;simp[Instr.makeMap,Result.andThen]
theorem Aw (hτ:bB P τ) {md rf CP YP} {o:Oper} {ρ:Operand→PV} {H:Hp} {n:Nat} {t:TypeId} {l c:Operand} (ho:o.op=.makeSlice t l c) {K:KR}
 (h:opK τ md rf CP YP ρ H n o.dst o.op K):∃v sets accs news,K v sets accs news∧bH P r o ρ H v sets accs news:=by
 have hd:∀c,o.op≠ .defer c:=fun c e=>by rw[ho]at e;cases e
 rw[ho]at h;simp only[opK,bU]at h;obtain⟨te,ht,h⟩:=h;split at h
 ·rename_i e hu
  obtain⟨te',he,h⟩:=h;split at h
  ·rename_i x hl
   split at h
   ·rename_i y hc
    obtain⟨⟨h1,h2,h3,h4⟩,h⟩:=h;have hxy:x≤y∧y*te'.bytes≤281474976710656∧inR .i64 y:=by
     rcases h4 with rfl|h4
     ·exact⟨Int.le_refl _,h2,h3⟩
     ·exact h4
    clear h2 h4;obtain⟨h4,h2,h5⟩:=hxy;have hN:x.toNat≤y.toNat:=qqO;rw[bS]at h;obtain⟨hfr,h⟩:=h;have hrun:∀{S:Imm} {w:World} {ι:Ix} {a:Act},(∀x∈o.op.operands.toList,Rep S w ι (ρ x) (a.eval x))→
     ∃arr,(execOp a.eval o).run P w=.ok (.value (.slice (some ⟨w.heap.size,0,none⟩) x.toNat y.toNat)) {w with heap:=w.heap.push (.cells arr e)}∧
      arr=(alA (y.toNat*te'.size)).map (te'.zero.cells[·% te'.zero.cells.size]!):=by
     intro S w ι a hr;have r1:=hr l (by simp[ho,Op.operands])
     have r2:=hr c (by simp[ho,Op.operands])
     rw[hl]at r1;rw[hc]at r2;cases e1:a.eval l<;>rw[e1]at r1<;>cases r1
     cases e2:a.eval c<;>rw[e2]at r2<;>cases r2
     obtain⟨i,hi,hz,hs,hb⟩:=jG hτ he w;refine⟨_,?_,rfl⟩;simp only[execOp,ho];refine dW ?_;simp only[Instr.makeSlice,Sem.run_bind,run_underlying (hτ.und _ _ ht),hu,Result.andThen,e1,e2,asInt,asIntOf,Sem.run_pure,hi,oG h3,oG h5,hb];have hmul:(te'.bytes:Int)*y≤281474976710656:=by rw[Int.mul_comm];exact h2
     rw[if_neg (by
      simp only[alX,decide_eq_true_eq];have:(2:Int) ^ 48=281474976710656:=qqD;rw[this];omega)]
     simp only[Sem.run_bind,run_askRoom,Result.andThen,bI hτ he];by_cases h0:y.toNat*te'.size=0
     ·rw[if_pos h0]
      have e0:∀f g:Nat→Value,(alA 0).map f=(alA 0).map g:=fun f g=>by apply alW<;>simp
      simp[h0,Result.andThen,newRow];rw[e0]
     ·rw[if_neg h0]
      simp[gT hτ he,Result.andThen,newRow]
    have hget:∀{j:Nat},j<y.toNat*te'.size→((alA (y.toNat*te'.size)).map (te'.zero.cells[·% te'.zero.cells.size]!)).getD j undef=te'.zero.cells.getD (j % te'.size) undef:=by
     intro j hj;have hz:=hτ.zsz _ _ he;have hpos:0<te'.size:=by rcases alp te'.size with h|h;(rw[h]at hj;simp at hj);exact h
     have hm:j % te'.size<te'.zero.cells.size:=by rw[hz];exact alc _ hpos
     simp[akD,hj,hz,getElem!_pos,hm,alc _ hpos]
    have hle:x.toNat*te'.size≤y.toNat*te'.size:=ak6 _ hN;split at h
    ·rw[bP,aK,akQ]at h
     obtain⟨⟨g1,g2⟩,h⟩:=h;have g1:=akR g1;have g2:=akY g2;have hcell:∀{S:Imm} {w:World} {ι:Ix} {arr:Array Value},arr=(alA (y.toNat*te'.size)).map (te'.zero.cells[·% te'.zero.cells.size]!)→∀j,j<(CL.recs te'.size (akP x.toNat (mD te'.zero.cells.toList))).ncell→Rep S w ι ((CL.recs te'.size (akP x.toNat (mD te'.zero.cells.toList))).get j) (arr.getD j undef):=by
      intro S w ι arr r2 j hj;simp only[CL.ncell,List.length_replicate]at hj;rw[r2,hget (Nat.lt_of_lt_of_le hj hle)];have hd':j / te'.size<x.toNat:=by rw[ala g2];exact hj
      have hm:j % te'.size<te'.zero.cells.toList.length:=by simp[hτ.zsz _ _ he];exact alc _ g2
      simp only[CL.get,akG,alN,if_pos hd',alo];have:=sP (S:=S) (w:=w) (ι:=ι) te'.zero.cells.toList (j % te'.size) hm;simpa [akD]using this
     split at h
     ·refine⟨_,_,_,_,h,jR hd fun S w ι H' a M hr ha=>?_⟩
      obtain⟨arr,r1,r2⟩:=hrun hr;exact⟨_,arr,e,r1,by rw[r2];simpa [CL.ncell]using hle,hcell r2,fun S' w' ι' hi hw=>.rsc _ _ _ _ _ _ hi hN g2 (fun j hj=>by
       have hs:arr.size=y.toNat*te'.size:=by rw[r2];simp
       rw[aJ hw,akA qqO];rfl)⟩
     ·refine⟨_,_,_,_,h,jR hd fun S w ι H' a M hr ha=>?_⟩
      obtain⟨arr,r1,r2⟩:=hrun hr;exact⟨_,arr,e,r1,by rw[r2];simpa [CL.ncell]using hle,hcell r2,fun S' w' ι' hi hw=>.rsl _ _ _ _ _ _ hi hN (fun _ j hj=>by
       have:=Nat.le_mul_of_pos_right y.toNat g2;have hs:arr.size=y.toNat*te'.size:=by rw[r2];simp
       rw[aJ hw,akA qqO];rfl)⟩
    ·rw[aK]at h
     obtain⟨g1,h⟩:=h;have g1:=akR g1;obtain⟨zc,d,h,d1,d2,d3⟩:=ED h;refine⟨_,_,_,_,h,jR hd fun S w ι H' a M hr ha=>?_⟩;obtain⟨arr,r1,r2⟩:=hrun hr;have hnc:d.ncell=x.toNat:=by rw[bF,d1,d2,akZ]
     refine⟨_,arr,e,r1,by rw[r2,hnc];simp only[alz,Array.size_range,g1,akZ];exact hN,fun j hj=>?_,fun S' w' ι' hi hw=>.rsl _ _ _ _ _ _ hi hN (fun _ j hj=>by
      have hs:arr.size=y.toNat:=by rw[r2];simp[g1]
      rw[aJ hw,akA qqO];rfl)⟩
     rw[hnc]at hj;rw[r2,hget (by rw[g1];omega),g1,alg,zc]
     exact d3 j hj
   ·exact h.elim
  ·exact h.elim
 ·exact h.elim
def CU (S:Imm) (w:World) (ι:Ix) (es:List (PV × PV)) (ents:List MapEntry):Prop:=
 ents.length=es.length∧∀i (h:i<es.length) (h':i<ents.length),Rep S w ι es[i].1 ents[i].key∧Rep S w ι es[i].2 ents[i].val
theorem CU.cons {S:Imm} {w:World} {ι:Ix} {k v:PV} {es:List (PV × PV)} {ents:List MapEntry} (h:CU S w ι ((k,v)::es) ents):
 ∃e ents',ents=e::ents'∧Rep S w ι k e.key∧Rep S w ι v e.val∧CU S w ι es ents':=by
 obtain⟨h1,h2⟩:=h;cases ents with
 |nil=>simp at h1
 |cons e ents=>
  have h0:=h2 0 qqS qqS;exact⟨e,ents,rfl,h0.1,h0.2,by simpa using h1,fun i hi hi'=>h2 (i+1) (by simpa using hi) (by simpa using hi')⟩
theorem rD (s t:ByteArray):Instr.sameNow .string (.string s) (.string t)=some (decide (s=t)):=by
 simp only[Instr.sameNow,Option.some.injEq];by_cases h:s=t
 ·rw[decide_eq_true h];exact(MapKept.bytes_beq s t).2 h
 ·rw[decide_eq_false h]
  cases e:(s==t)with
  |false=>rfl
  |true=>exact absurd ((MapKept.bytes_beq s t).1 e) h
theorem vG {S:Imm} {w:World} {ι:Ix} {s:ByteArray}:∀(es:List (PV × PV)) (ents:List MapEntry) (i:Nat),Ae s es→CU S w ι es ents→Instr.findNow .string (.string s) ents i=some none:=by
 intro es;induction es with
 |nil=>
  intro ents i h he;have:ents=[]:=alY.1 he.1;subst this;rfl
 |cons x es ih=>
  intro ents i h he;obtain⟨k,v⟩:=x;obtain⟨e,ents',rfl,h1,h2,h3⟩:=he.cons;cases k<;>first|exact h.elim|skip
  obtain⟨hne,h⟩:=h;generalize hkk:e.key=kk at h1
  cases h1
  simp only[Instr.findNow,hkk,rD,decide_eq_false hne];exact ih ents' (i+1) h h3
theorem La {s:ByteArray} {z:PV} {ok:Bool} {K:PV→Prop}:∀(es:List (PV × PV)),Gs s z ok es K→∃v,K v∧∀{S:Imm} {w:World} {ι:Ix} {ents:List MapEntry} {zv:Value},CU S w ι es ents→Rep S w ι z zv→
 ∃res:Option Value,(∀i,∃j,Instr.findNow .string (.string s) ents i=some (res.map fun v=>(j,v)))∧Rep S w ι v (if ok then .tuple #[res.getD zv,.bool res.isSome]else res.getD zv):=by
 have fin:∀(p:PV) (b:Bool),K (match ok with|true=>.tup [p,.bool b]|false=>p)→∃v,K v∧∀{S:Imm} {w:World} {ι:Ix} {val:Value},Rep S w ι p val→Rep S w ι v (if ok then .tuple #[val,.bool b]else val):=by
  intro p b h;refine⟨_,h,fun hr=>?_⟩;cases ok with
  |false=>exact hr
  |true=>
   refine .tup _ _ _ rfl (fun i hi=>?_);simp at hi;have:i=0∨i=1:=qqO;rcases this with rfl|rfl
   ·exact hr
   ·exact .bool _ _
 intro es;induction es with
 |nil=>
  intro h;simp only[Gs,bL]at h;obtain⟨v,hK,hv⟩:=fin _ _ h;refine⟨v,hK,fun he hz=>⟨none,fun i=>⟨0,?_⟩,hv hz⟩⟩;have:=alY.1 he.1;subst this;rfl
 |cons x es ih=>
  intro h;obtain⟨k,u⟩:=x;cases k<;>first|exact h.elim|skip
  rename_i t;obtain⟨ha,hb⟩:=h;by_cases e:s=t
  ·have ha:=ha e
   rw[bL]at ha;obtain⟨v,hK,hv⟩:=fin _ _ ha;refine⟨v,hK,fun he hz=>?_⟩;obtain⟨en,ents',rfl,h1,h2,h3⟩:=he.cons;refine⟨some en.val,fun i=>⟨i,?_⟩,hv h2⟩;generalize hkk:en.key=kk at h1
   cases h1
   simp[Instr.findNow,hkk,rD,e]
  ·obtain⟨v,hK,hv⟩:=ih (hb e)
   refine⟨v,hK,fun he hz=>?_⟩;obtain⟨en,ents',rfl,h1,h2,h3⟩:=he.cons;obtain⟨res,g1,g2⟩:=hv h3 hz;refine⟨res,fun i=>?_,g2⟩;obtain⟨j,hj⟩:=g1 (i+1);refine⟨j,?_⟩;generalize hkk:en.key=kk at h1
   cases h1
   simp only[Instr.findNow,hkk,rD,decide_eq_false e];exact hj
theorem Mem.map {S:Imm} {w:World} {ι:Ix} {H:Hp} (M:Mem S w ι H) {k b:Nat} {es:List (PV × PV)} (h:aA H k=some (.map es)) (hb:ι.o k=some b):
 ∃ents clock,w.heap[b]? =some (.map ents clock)∧CU S w ι es ents.toList:=by
 obtain⟨b',ents,clock,h1,h2,h3,h4⟩:=M.obj k _ h;rw[hb]at h1;cases h1
 exact⟨ents,clock,h2,by simpa using h3,fun i hi hi'=>by simpa using h4 i hi (by simpa using hi')⟩
theorem Lb {te:TE} {K:PV→Prop} (h:OI te K):∃z,K z∧∀S w ι,Rep S w ι z te.zero:=by
 unfold OI at h;split at h
 ·rename_i cs hz
  rw[bP]at h;refine⟨_,h,fun S w ι=>?_⟩;rw[hz];refine .agg _ _ _ (by simp[mI]) (fun i hi=>?_)
  rw[mI]at hi;have:=sP (S:=S) (w:=w) (ι:=ι) cs.toList i hi;simpa [akD]using this
 ·rw[bL]at h
  exact⟨_,h,fun S w ι=>CQ _⟩
theorem Ik (hτ:bB P τ) {md rf CP YP} {o:Oper} {ρ:Operand→PV} {H:Hp} {n:Nat} {t:TypeId} {m k:Operand} {ok:Bool} (ho:o.op=.lookup t m k ok) {K:KR}
 (h:opK τ md rf CP YP ρ H n o.dst o.op K):∃v sets accs news,K v sets accs news∧bH P r o ρ H v sets accs news:=by
 have hd:∀c,o.op≠ .defer c:=fun c e=>by rw[ho]at e;cases e
 rw[ho]at h;simp only[opK,bU]at h;obtain⟨te,ht,h⟩:=h;split at h
 ·rename_i kt et hu
  obtain⟨tk,hk,h⟩:=h;split at h
  ·rename_i huk
   obtain⟨tz,hz,h⟩:=h;split at h
   ·rename_i i hm
    split at h
    ·rename_i s hs
     rw[bE]at h;obtain⟨ob,hob,h⟩:=h;split at h
     ·rename_i es
      obtain⟨z,h,hz'⟩:=Lb h;obtain⟨v,hK,hv⟩:=La _ h;refine⟨v,_,_,_,hK,aY hd fun S w ι H' a M hr ha=>?_⟩;have r1:=hr m (by simp[ho,Op.operands])
      have r2:=hr k (by simp[ho,Op.operands])
      rw[hm]at r1;rw[hs]at r2;cases e1:a.eval m<;>rw[e1]at r1<;>cases r1
      cases e2:a.eval k<;>rw[e2]at r2<;>cases r2
      rename_i b hb;obtain⟨ents,clock,g1,g2⟩:=M.map ((ha i qqS).trans hob) hb;obtain⟨res,q1,q2⟩:=hv g2 (hz' S w ι);obtain⟨j,hj⟩:=q1 0;refine⟨_,?_,q2⟩;simp only[execOp,ho];refine dW ?_;have hu':P.underlying kt=some .string:=by rw[hτ.und _ _ hk,huk]
      simp only[Instr.lookup,Sem.run_bind,run_underlying (hτ.und _ _ ht),hu,Result.andThen,e1,e2,MapKept.run_getObj_map g1,Sem.run_pure,
       MapKept.run_checkKey (w:=w) (k:=.string s) hu' trivial _ 9999,MapKept.run_findKey hu' hj]
      cases res with
      |none=>simp[gT hτ hz,Result.andThen]
      |some x=>simp[Result.andThen]
     ·exact h.elim
    ·exact h.elim
   ·exact h.elim
  ·exact h.elim
 ·exact h.elim
theorem Il (hτ:bB P τ) {md rf CP YP} {o:Oper} {ρ:Operand→PV} {H:Hp} {n:Nat} {t:TypeId} {m k u:Operand} (ho:o.op=.insert t m k u) {K:KR}
 (h:opK τ md rf CP YP ρ H n o.dst o.op K):∃v sets accs news,K v sets accs news∧bH P r o ρ H v sets accs news:=by
 have hd:∀c,o.op≠ .defer c:=fun c e=>by rw[ho]at e;cases e
 rw[ho]at h;simp only[opK,bU]at h;obtain⟨te,ht,h⟩:=h;split at h
 ·rename_i kt et hu
  obtain⟨tk,hk,h⟩:=h;split at h
  ·rename_i huk
   split at h
   ·rename_i i hm
    split at h
    ·rename_i s hs
     rw[bL,bE]at h;obtain⟨ob,hob,h⟩:=h;split at h
     ·rename_i es
      obtain⟨hnk,hK⟩:=h;refine⟨_,_,_,_,hK,fun S w ι H' a next Q M hr ha hn hkk=>?_⟩;have r1:=hr m (by simp[ho,Op.operands])
      have r2:=hr k (by simp[ho,Op.operands])
      have r3:=hr u (by simp[ho,Op.operands])
      rw[hm]at r1;rw[hs]at r2;cases e1:a.eval m<;>rw[e1]at r1<;>cases r1
      cases e2:a.eval k<;>rw[e2]at r2<;>cases r2
      rename_i b hb;have hob':=(ha i qqS).trans hob;obtain⟨ents,clock,g1,g2⟩:=M.map hob' hb;have hu':P.underlying kt=some .string:=by rw[hτ.und _ _ hk,huk]
      have hf:=vG es ents.toList 0 hnk g2;have hnew:=MapKept.heap_set (o':=.map (ents.push {key:=.string s,val:=a.eval u,born:=clock}) (clock+1)) g1;obtain⟨M',K',T⟩:=M.putObj (o':=.map (es++[(.str s,ρ u)])) (y:=.map (ents.push {key:=.string s,val:=a.eval u,born:=clock}) (clock+1)) (w':={w with heap:=w.heap.setIfInBounds b (.map (ents.push {key:=.string s,val:=a.eval u,born:=clock}) (clock+1))})
       hob' rfl rfl rfl rfl rfl hb g1 rfl rfl (.block b rfl rfl rfl qqS hnew.2 (by rw[g1];exact gQ rfl) (by rw[hnew.1];exact gQ rfl) (fun _=>by simp[bsz,g1,hnew.1])) hnew.1 hnew.2 (fun S' hk'=>by
        refine⟨b,_,_,hb,hnew.1,by simp[g2.1,←ak2],fun i hi hi'=>?_⟩
        have hl:ents.size=es.length:=by simpa using g2.1
        simp only[alQ,akq,akm,akS]at hi;by_cases hlt:i<es.length
        ·have:=g2.2 i hlt (by simpa [hl]using hlt)
         rw[alZ hlt,al0 qqO];exact⟨this.1.mono hk' _ (.refl _),this.2.mono hk' _ (.refl _)⟩
        ·have:i=es.length:=qqO
         subst this;rw[al1 (aku _)];simp only[←hl,al2,ak0,al3];exact⟨.str _ _,r3.mono hk' _ (.refl _)⟩)
      refine eG hd ?_ (hkk undef S _ ι M' (.refl _) K' (.any _ _) T);simp only[execOp,ho];refine kU ?_;simp only[Instr.mapUpdate,Sem.run_bind,run_underlying (hτ.und _ _ ht),hu,Result.andThen,e1,e2,MapKept.run_getObj_map g1,
       MapKept.run_checkKey (w:=w) (k:=.string s) hu' trivial _ 9999,MapKept.run_findKey hu' hf,MapKept.run_setObj_map _ g1]
     ·exact h.elim
    ·exact h.elim
   ·exact h.elim
  ·exact h.elim
 ·exact h.elim
theorem Ay (hτ:bB P τ) {md rf CP YP} {o:Oper} {ρ:Operand→PV} {H:Hp} {n:Nat} {t:TypeId} {m k u:Operand} (ho:o.op=.mapUpdate t m k u) {K:KR}
 (h:opK τ md rf CP YP ρ H n o.dst o.op K):∃v sets accs news,K v sets accs news∧bH P r o ρ H v sets accs news:=by
 have hd:∀c,o.op≠ .defer c:=fun c e=>by rw[ho]at e;cases e
 rw[ho]at h;simp only[opK,bU]at h;obtain⟨te,ht,h⟩:=h;split at h
 ·rename_i kt et hu
  obtain⟨tk,hk,h⟩:=h;split at h
  ·rename_i huk
   split at h
   ·rename_i i hm
    split at h
    ·rename_i s hs
     rw[bL,bE]at h;obtain⟨ob,hob,h⟩:=h;split at h
     ·rename_i es
      obtain⟨hnk,hK⟩:=h;refine⟨_,_,_,_,hK,fun S w ι H' a next Q M hr ha hn hkk=>?_⟩;have r1:=hr m (by simp[ho,Op.operands])
      have r2:=hr k (by simp[ho,Op.operands])
      have r3:=hr u (by simp[ho,Op.operands])
      rw[hm]at r1;rw[hs]at r2;cases e1:a.eval m<;>rw[e1]at r1<;>cases r1
      cases e2:a.eval k<;>rw[e2]at r2<;>cases r2
      rename_i b hb;have hob':=(ha i qqS).trans hob;obtain⟨ents,clock,g1,g2⟩:=M.map hob' hb;have hu':P.underlying kt=some .string:=by rw[hτ.und _ _ hk,huk]
      have hf:=vG es ents.toList 0 hnk g2;have hnew:=MapKept.heap_set (o':=.map (ents.push {key:=.string s,val:=a.eval u,born:=clock}) (clock+1)) g1;obtain⟨M',K',T⟩:=M.putObj (o':=.map (es++[(.str s,ρ u)])) (y:=.map (ents.push {key:=.string s,val:=a.eval u,born:=clock}) (clock+1)) (w':={w with heap:=w.heap.setIfInBounds b (.map (ents.push {key:=.string s,val:=a.eval u,born:=clock}) (clock+1))})
       hob' rfl rfl rfl rfl rfl hb g1 rfl rfl (.block b rfl rfl rfl qqS hnew.2 (by rw[g1];exact gQ rfl) (by rw[hnew.1];exact gQ rfl) (fun _=>by simp[bsz,g1,hnew.1])) hnew.1 hnew.2 (fun S' hk'=>by
        refine⟨b,_,_,hb,hnew.1,by simp[g2.1,←ak2],fun i hi hi'=>?_⟩
        have hl:ents.size=es.length:=by simpa using g2.1
        simp only[alQ,akq,akm,akS]at hi;by_cases hlt:i<es.length
        ·have:=g2.2 i hlt (by simpa [hl]using hlt)
         rw[alZ hlt,al0 qqO];exact⟨this.1.mono hk' _ (.refl _),this.2.mono hk' _ (.refl _)⟩
        ·have:i=es.length:=qqO
         subst this;rw[al1 (aku _)];simp only[←hl,al2,ak0,al3];exact⟨.str _ _,r3.mono hk' _ (.refl _)⟩)
      refine eG hd ?_ (hkk undef S _ ι M' (.refl _) K' (.any _ _) T);simp only[execOp,ho];refine kU ?_;simp only[Instr.mapUpdate,Sem.run_bind,run_underlying (hτ.und _ _ ht),hu,Result.andThen,e1,e2,MapKept.run_getObj_map g1,
       MapKept.run_checkKey (w:=w) (k:=.string s) hu' trivial _ 9999,MapKept.run_findKey hu' hf,MapKept.run_setObj_map _ g1]
     ·exact h.elim
    ·exact h.elim
   ·exact h.elim
  ·exact h.elim
 ·exact h.elim
variable {P:Program} {r:Option Nat} {τ:TypeId→Option TE}
theorem Mem.freeze {S:Imm} {w:World} {ι:Ix} {H:Hp} (M:Mem S w ι H) {k:Nat} {c c':CL} (h:aA H k=some (.cells c false)) (hn:c'.ncell=c.ncell)
 (hc:∀j,j<c.ncell→∀{S:Imm} {w:World} {ι:Ix} {v:Value},Rep S w ι (c.get j) v→Rep S w noI (c'.get j) v):
 ∃S',Mem S' w ι (aO H k (.cells c' true))∧Keeps S w S' w∧(∀p,Tr p S w ι H S' w ι (aO H k (.cells c' true)))∧
  ∀b,ι.o k=some b→∀j,j<c'.ncell→S' b j∧Rep S' w noI (c'.get j) (rdv w b j):=by
 obtain⟨b,arr,e,h1,h2,h3,h4,h5⟩:=M.obj k _ h
 let S':Imm:=fun b' j=>S b' j∨(b'=b∧j<c'.ncell)
 have hk:Keeps S w S' w:=⟨fun b' j hs=>⟨.inl hs,rfl⟩,fun b' j hs=>hs⟩;have hrep:∀j,j<c'.ncell→Rep S' w noI (c'.get j) (arr.getD j undef):=fun j hj=>by
  have:=h4 j qqO;exact(hc j qqO this).mono hk _ (.refl _)
 have ht:ι.t k=none:=by
  cases et:ι.t k with
  |none=>rfl
  |some x=>obtain⟨o,g1,g2⟩:=M.liveT k x et;rw[h]at g1;cases g1;simp[AO.isTok]at g2
 obtain⟨M',T⟩:=M.step1 (S':=S') (w':=w) (ι':=ι) (k:=k) (o':=.cells c' true) (b:=b) (Bel.refl _) (fun _ _ _=>rfl) hk (fun b' j hs=>by rcases hs with h|⟨h,_⟩;exact .inl h;exact .inr h)
  (fun j hs=>by
    rcases hs with h|⟨_,h⟩
    ·exact absurd h (h5 j)
    ·rw[aJ h2,akA qqO];rfl) (.refl _) (fun _ _=>rfl) (fun _ _=>rfl) rfl (.inr ⟨_,h,rfl,h1⟩) (fun b' h=>h.elim) (by simp[AO.isTok]) (fun _=>ht)
  ⟨b,h1,fun j hj=>⟨.inr ⟨rfl,hj⟩,by have:=hrep j hj;rw[akD]at this;rw[rdv,aJ h2];exact this⟩⟩
 refine⟨S',M',hk,T,fun b' hb' j hj=>?_⟩;rw[h1]at hb';cases hb'
 refine⟨.inr ⟨rfl,hj⟩,?_⟩;have:=hrep j hj;rw[rdv,aJ h2];rw[akD]at this;exact this
theorem Im (hτ:bB P τ) {md rf CP YP} {o:Oper} {ρ:Operand→PV} {H:Hp} {n:Nat} {t:TypeId} {x y:Operand} (ho:o.op=.store t x y) (hfz:OM rf x=true) {K:KR}
 (h:opK τ md rf CP YP ρ H n o.dst o.op K):∃v sets accs news,K v sets accs news∧bH P r o ρ H v sets accs news:=by
 rw[ho]at h;simp only[opK,bU,hfz]at h;obtain⟨te,ht,h⟩:=h;have hd:∀c,o.op≠ .defer c:=fun c e=>by rw[ho]at e;cases e
 unfold L8 at h;split at h
 ·rename_i k off hρ
  rw[bL]at h;obtain⟨cs,h,hs⟩:=pE h;rw[bE]at h;obtain⟨ob,hob,h⟩:=h;split at h
  ·rename_i c fz
   split at h
   ·exact h.elim
   ·obtain⟨c',h,hn1,hn2,hget⟩:=Ew h
    obtain⟨d,hK,d1,d2,d3⟩:=gX h;refine⟨_,_,_,_,hK,?_⟩;intro S w ι H' a next Q M hr ha hn hk;have hob':=(ha k qqS).trans hob;have hr1:=hr x (by simp[ho,Op.operands])
    obtain⟨e1,e2,e3⟩:=hs (hr y (by simp[ho,Op.operands]))
    rw[hρ]at hr1;obtain⟨b,arr,e,g1,g2,g3,g4,g5⟩:=M.obj k _ hob';cases hev:a.eval x<;>rw[hev]at hr1<;>cases hr1
    rename_i b' hb';rw[g1]at hb';cases hb'
    have hone:∀v∈(a.eval y).cells.toList,v.oneCell'=true:=by
     intro v hv;obtain⟨i,hi,rfl⟩:=akK hv;have h0:=e3 i (by rw[e2];simpa using hi)
     have:=h0.1.oneCell h0.2;simpa [akD,akA (show i<(a.eval y).cells.size by simpa using hi)]using this
    have hsz:off+0+(a.eval y).cells.toList.length≤arr.size:=by simp[←e2];omega
    obtain⟨w',r1,u⟩:=bQ P (a.eval y).cells.toList g2 hone hsz;have hc':∀j,j<c'.ncell→Rep S w ι (c'.get j) ((putRow arr (off+0) (a.eval y).cells.toList).getD j undef):=by
     intro j hj;refine hget j S w ι _ ?_ qqO;rw[fA _ _ _ _ (by simp[←e2];omega)]
     simp only[akn,ak2,←e2];split
     ·rename_i hin
      have:=(e3 (j-off) qqO).1;simpa [akD]using this
     ·have:=g4 j qqO
      simpa using this
    obtain⟨M',T⟩:=M.write hob' g1 g2 u (by rw[bW];exact aku _) (by rw[bW];omega) hc'
    obtain⟨S1,M1,K1,T1,_⟩:=M'.freeze (k:=k) (c:=c') (c':=d) (by rw[aX,if_pos rfl]) d2 (fun j hj=>by intro S w ι v hr;exact d3 j hj hr)
    have hHH:∀k',aA (aO (aO H' k (.cells c' false)) k (.cells d true)) k'=aA (aO H' k (.cells d true)) k':=fun k'=>by
     rw[aX,aX,aX];by_cases e:k'=k
     ·rw[if_pos e,if_pos e]
     ·rw[if_neg e,if_neg e,if_neg e]
    refine eG hd (w':=w') ?_ (hk undef S1 w' ι (M1.congr hHH) (.refl _) ((T 0).keeps.trans K1) (.any _ _) (fun p=>((T p).trans (T1 p)).congr' hHH));simp only[execOp,ho];refine kU ?_;simp only[Instr.storeAt,hev,Instr.sureAddr,Sem.run_bind,Sem.run_pure,Result.andThen,storeVar,bI hτ ht];rw[if_neg (by simp[←e2,e1])]
    simpa [Result.andThen]using r1
  ·exact h.elim
 ·exact h.elim
theorem Mem.frozen {S:Imm} {w:World} {ι:Ix} {H:Hp} (M:Mem S w ι H) {k b:Nat} {c:CL} (h:aA H k=some (.cells c true)) (hb:ι.o k=some b):
 ∀j,j<c.ncell→S b j∧Rep S w noI (c.get j) (rdv w b j):=by
 obtain⟨b',h1,h2⟩:=M.obj k _ h;rw[hb]at h1;cases h1
 exact h2
theorem Ph:∀(ps:List PV) {H:Hp} {K:List PV→List (Nat × AO)→List Nat→Prop},sO H ps K→∃cs sets acc,K cs sets acc∧
 ∀{S:Imm} {w:World} {ι:Ix} {H':Hp} {vs:List Value},Mem S w ι H'→(∀k∈acc,aA H' k=aA H k)→ps.length=vs.length→(∀i,i<ps.length→Rep S w ι (aH ps i) (vs.getD i undef))→
  ∃S',Mem S' w ι (bC H' sets)∧Keeps S w S' w∧(∀p,Tr p S w ι H' S' w ι (bC H' sets))∧cs.length=vs.length∧∀i,i<cs.length→Rep S' w ι (aH cs i) (vs.getD i undef):=by
 intro ps;induction ps with
 |nil=>
  intro H K h;exact⟨_,_,_,h,fun M ha hl hr=>⟨_,M,.refl _ _,fun p=>.refl _ _ _ _ _,hl,fun i hi=>by simp at hi⟩⟩
 |cons p ps ih=>
  intro H K h;have keep:∀{H:Hp} {K:List PV→List (Nat × AO)→List Nat→Prop},(sO H ps fun cs sets acc=>K (p::cs) sets acc)→∃cs sets acc,K cs sets acc∧
   ∀{S:Imm} {w:World} {ι:Ix} {H':Hp} {vs:List Value},Mem S w ι H'→(∀k∈acc,aA H' k=aA H k)→(p::ps).length=vs.length→(∀i,i<(p::ps).length→Rep S w ι (aH (p::ps) i) (vs.getD i undef))→
    ∃S',Mem S' w ι (bC H' sets)∧Keeps S w S' w∧(∀p,Tr p S w ι H' S' w ι (bC H' sets))∧cs.length=vs.length∧∀i,i<cs.length→Rep S' w ι (aH cs i) (vs.getD i undef):=by
   intro H K h;obtain⟨cs,sets,acc,hK,hs⟩:=ih h;refine⟨_,_,_,hK,fun M ha hl hr=>?_⟩;rename_i S w ι H' vs;cases vs with
   |nil=>simp at hl
   |cons v vs=>
    obtain⟨S',M',k',T,hl',hr'⟩:=hs (vs:=vs) M ha (by simpa using hl) (fun i hi=>by simpa [aH]using hr (i+1) (by simpa using hi))
    refine⟨S',M',k',T,by simp[hl'],fun i hi=>?_⟩
    cases i with
    |zero=>exact(hr 0 qqS).mono k' _ (.refl _)
    |succ i=>simpa [aH]using hr' i (by simpa using hi)
  unfold sO at h;split at h
  ·rename_i k off
   rw[bE]at h;obtain⟨ob,hob,h⟩:=h;split at h
   ·rename_i ds fz
    split at h
    ·obtain⟨cs,sets,acc,hK,hs⟩:=ih h
     refine⟨_,_,_,hK,fun M ha hl hr=>?_⟩;rename_i S w ι H' vs;cases vs with
     |nil=>simp at hl
     |cons v vs=>
      have hob':=(ha k qqS).trans hob;obtain⟨S',M',k',T,hl',hr'⟩:=hs (vs:=vs) M (fun k' hk'=>ha k' (by simp[hk'])) (by simpa using hl) (fun i hi=>by simpa [aH]using hr (i+1) (by simpa using hi))
      refine⟨S',M',k',T,by simp[hl'],fun i hi=>?_⟩
      cases i with
      |zero=>
       have h0:=hr 0 qqS;simp only[aH,alU]at h0⊢;cases h0 with
       |rp _ _ _ b hb=>
        have hf:=M.frozen hob' hb;have:=Rep.ip (S:=S) (w:=w) ι (.pv ds) off b 0 (fun j hj=>by rw[akS];exact(hf j hj).1) (fun j hj=>by rw[akS];exact(hf j hj).2)
        rw[akS]at this;exact this.mono k' _ (.refl _)
      |succ i=>simpa [aH]using hr' i (by simpa using hi)
    ·split at h
     ·rename_i es hes
      rw[bP,kW]at h;obtain⟨cs,sets,acc,hK,hs⟩:=ih h;refine⟨_,_,_,hK,fun M ha hl hr=>?_⟩;rename_i S w ι H' vs;cases vs with
      |nil=>simp at hl
      |cons v vs=>
       have hob':=(ha k qqS).trans hob;obtain⟨q1,q2⟩:=kQ hes;obtain⟨S1,M1,k1,T1,F1⟩:=M.freeze (c':=.pv es) hob' q1 (fun j hj=>by intro S w ι v hr;exact q2 j hj hr)
       obtain⟨S',M',k',T,hl',hr'⟩:=hs (vs:=vs) M1 (fun k' hk'=>by
        rw[aX,aX];by_cases e:k'=k
        ·simp[e]
        ·rw[if_neg e,if_neg e];exact ha k' (by simp[hk'])) (by simpa using hl)
        (fun i hi=>by have:=(hr (i+1) (by simpa using hi)).mono k1 _ (.refl _);simpa [aH]using this)
       refine⟨S',M',k1.trans k',fun p=>(T1 p).trans (T p),by simp[hl'],fun i hi=>?_⟩
       cases i with
       |zero=>
        have h0:=hr 0 qqS;simp only[aH,alU]at h0⊢;cases h0 with
        |rp _ _ _ b hb=>
         have hf:=F1 b hb;have:=Rep.ip (S:=S1) (w:=w) ι (.pv es) off b 0 (fun j hj=>by rw[akS];exact(hf j hj).1) (fun j hj=>by rw[akS];exact(hf j hj).2)
         rw[akS]at this;exact this.mono k' _ (.refl _)
       |succ i=>simpa [aH]using hr' i (by simpa using hi)
     ·exact keep h
   ·exact keep h
  ·rw[bL]at h;exact keep h
theorem CV {md rf CP YP} {o:Oper} {ρ:Operand→PV} {H:Hp} {n:Nat} {fn:Fn} {fs cs:Array Operand} (ho:o.op=.makeFunc fn fs cs) {K:KR}
 (h:opK τ md rf CP YP ρ H n o.dst o.op K):∃v sets accs news,K v sets accs news∧bH P r o ρ H v sets accs news:=by
 rw[ho]at h;have hd:∀c,o.op≠ .defer c:=fun c e=>by rw[ho]at e;cases e
 simp only[opK,bP]at h;split at h
 ·refine⟨_,_,_,_,h,aY hd fun S w ι H' a M hr ha=>?_⟩
  have h1:=kX (a:=a) fs (fun x hx=>hr x (by simp[ho,Op.operands]at hx⊢;exact .inl hx))
  have h2:=kX (a:=a) cs (fun x hx=>hr x (by simp[ho,Op.operands]at hx⊢;exact .inr hx))
  exact⟨.func fn (fs.map a.eval) (cs.map a.eval),by simp only[execOp,ho];exact dW rfl,.fn _ _ _ _ _ _ h1.1 h2.1 h1.2 h2.2⟩
 ·obtain⟨ds,sets,acc,hK,hs⟩:=Ph _ h
  refine⟨_,_,_,_,hK,fun S w ι H' a next Q M hr ha hn hk=>?_⟩;have h1:=kX (a:=a) fs (fun x hx=>hr x (by simp[ho,Op.operands]at hx⊢;exact .inl hx))
  have h2:=kX (a:=a) cs (fun x hx=>hr x (by simp[ho,Op.operands]at hx⊢;exact .inr hx))
  obtain⟨S',M',k',T,hl,hr'⟩:=hs (vs:=(cs.map a.eval).toList) M ha (by simpa using h2.1) (fun i hi=>by have:=h2.2 i hi;simpa [akD]using this)
  refine cB hd (w':=w) (val:=.func fn (fs.map a.eval) (cs.map a.eval)) (by simp only[execOp,ho];exact dW rfl) (hk _ S' w ι M' (.refl _) k' ?_ T)
  exact .fn _ _ _ _ _ _ h1.1 (by simpa using hl) (fun i hi=>(h1.2 i hi).mono k' _ (.refl _)) (fun i hi=>by have:=hr' i hi;simpa [akD]using this)
def SI (P:Program) (g:FuncId) (args:List PV) (v:PV):Prop:=
 ∀(S:Imm) (w:World) (ι:Ix) (vs:Array Value),bG S w ι args vs→∃val,(callFunc g vs).run P w=.ok (.value val) w∧Rep S w ι v val
def ou (P:Program) (B:Imm→World→Prop) (g:FuncId) (args:List PV) (H0:Hp) (v:PV) (sets:List (Nat × AO)) (accs news:List Nat):Prop:=
 ((∀vs w,(callFunc g vs).run P w=.ok (.enter g vs) w)∧
 ∀(S:Imm) (w:World) (ι:Ix) (H:Hp) (vs:Array Value),B S w→Mem S w ι H→bG S w ι args vs→(∀k∈accs,aA H k=aA H0 k)→(∀k∈news,aA H k=none)→
  CallsIn (Fw none) 0 P g vs w fun e w'=>∃val S' ι',e=.returned val∧Mem S' w' ι' (bC H sets)∧ι.le ι'∧Keeps S w S' w'∧Rep S' w' ι' v val∧∀p,Tr p S w ι H S' w' ι' (bC H sets))∨
 (sets=[]∧SI P g args v)
def sV:Imm→World→Prop:=gB
def iJ (P:Program) (g:FuncId) (args:List PV) (H0:Hp) (v:PV) (sets:List (Nat × AO)) (accs news:List Nat):Prop:=ou P sV g args H0 v sets accs news
theorem iJ.up {P:Program} {g:FuncId} {args:List PV} {H0:Hp} {v:PV} {sets:List (Nat × AO)} {accs news:List Nat} (h:iJ P g args H0 v sets accs news) (B:Imm→World→Prop) (hg:∀S w,B S w→gB S w):ou P B g args H0 v sets accs news:=
 h.imp (fun h=>⟨h.1,fun S w ι H vs hb=>h.2 S w ι H vs (hg _ _ hb)⟩) id
def jO (P:Program) (B:Imm→World→Prop) (CP:CPT):Prop:=∀g args n H K,CP g args n H K→∃v sets accs news,K v sets accs news∧ou P B g args H v sets accs news
def bD (P:Program) (CP:CPT):Prop:=jO P sV CP
theorem bD.up {P:Program} {CP:CPT} (h:bD P CP) (B:Imm→World→Prop) (hg:∀S w,B S w→gB S w:=by first|exact fun _ _ h=>h|exact fun _ _ h=>h.2|exact fun _ _ h=>h.2.2):jO P B CP:=fun g args n H K hk=>by
 obtain⟨v,sets,accs,news,h1,h2⟩:=h g args n H K hk;exact⟨v,sets,accs,news,h1,iJ.up h2 B hg⟩
abbrev YPT:=Fn→Array Value→Array Value→List PV→Nat→Hp→KR→Prop
def WU (P:Program) (r:Option Nat) (B:Imm→World→Prop) (f:Fn) (us vs:Array Value) (args:List PV) (H0:Hp) (v:PV) (sets:List (Nat × AO)) (accs news:List Nat):Prop:=
 ∀(S:Imm) (w:World) (ι:Ix) (H:Hp) (o:Oper) (c:Call) (a:Act) (next:Act→World→Prop) (Q:Exit→Act→World→Prop) (vals:Array Value),o.op=.call c→
  B S w→Mem S w ι H→bG S w ι args vals→(∀k∈accs,aA H k=aA H0 k)→(∀k∈news,aA H k=none)→
  (∀(val:Value) (S':Imm) (w':World) (ι':Ix),Mem S' w' ι' (bC H sets)→ι.le ι'→Keeps S w S' w'→Rep S' w' ι' v val→(∀p,Tr p S w ι H S' w' ι' (bC H sets))→next (a.put o.dst val) w')→
  o.uponIn (Fw r) 0 P a next Q ((invoke (.fn f vs) (us++vals)).run P w)
def mJ (P:Program) (r:Option Nat) (B:Imm→World→Prop) (YP:YPT):Prop:=
 ∀f us vs args n H K,YP f us vs args n H K→∃v sets accs news,K v sets accs news∧WU P r B f us vs args H v sets accs news
def lZ (P:Program) (r:Option Nat) (B:Imm→World→Prop) (o:Oper) (ρ:Operand→PV) (H0:Hp) (v:PV) (sets:List (Nat × AO)) (accs news:List Nat):Prop:=
 ∀(S:Imm) (w:World) (ι:Ix) (H:Hp) (a:Act) (next:Act→World→Prop) (Q:Exit→Act→World→Prop),
  B S w→Mem S w ι H→(∀x∈o.op.operands.toList,Rep S w ι (ρ x) (a.eval x))→(∀k∈accs,aA H k=aA H0 k)→(∀k∈news,aA H k=none)→
  (∀(val:Value) (S':Imm) (w':World) (ι':Ix),Mem S' w' ι' (bC H sets)→ι.le ι'→Keeps S w S' w'→Rep S' w' ι' v val→(∀p,Tr p S w ι H S' w' ι' (bC H sets))→next (a.put o.dst val) w')→
  o.wpIn (Fw r) 0 P a w next Q
theorem bH.toB {B:Imm→World→Prop} {o:Oper} {ρ:Operand→PV} {H0:Hp} {v:PV} {sets:List (Nat × AO)} {accs news:List Nat} (h:bH P r o ρ H0 v sets accs news):lZ P r B o ρ H0 v sets accs news:=
 fun S w ι H a next Q _=>h S w ι H a next Q
theorem Az {n:Nat} {f:FuncId} {args:Array Value} {w:World} {R:Ending→World→Prop} (h:CallsIn (Fw none) n P f args w R):CallsIn (Fw r) n P f args w R:=h
theorem fV {S:Imm} {w:World} {ι:Ix} {ps qs:List PV} {us vs:Array Value} (h:bG S w ι ps us) (g:bG S w ι qs vs):bG S w ι (ps++qs) (us++vs):=by
 refine⟨by simp[h.1,g.1],fun i hi=>?_⟩
 rw[akD];by_cases e:i<ps.length
 ·rw[(nC ps qs i).1 e,alH (by rw[←h.1];exact e),←akD]
  exact h.2 i e
 ·obtain⟨d,rfl⟩:∃d,i=ps.length+d:=⟨i-ps.length,qqO⟩
  rw[(nC ps qs d).2,alI (by rw[←h.1];omega),←h.1,alS,←akD]
  exact g.2 d (by simp at hi;omega)
theorem AA {md rf CP YP} {B:Imm→World→Prop} (hC:jO P B CP) (hY:mJ P r B YP) {o:Oper} {ρ:Operand→PV} {H:Hp} {n:Nat} {f:Operand} {args:Array Operand} {ats:Array TypeId} (ho:o.op=.call ⟨.value f,args,ats⟩) {K:KR}
 (h:opK τ md rf CP YP ρ H n o.dst o.op K):∃v sets accs news,K v sets accs news∧lZ P r B o ρ H v sets accs news:=by
 rw[ho]at h;simp only[opK]at h;have hd:∀c,o.op≠ .defer c:=fun c e=>by rw[ho]at e;cases e
 have hargs:∀{S:Imm} {w:World} {ι:Ix} {a:Act},(∀x∈o.op.operands.toList,Rep S w ι (ρ x) (a.eval x))→bG S w ι (kK ρ args.toList) (args.map a.eval):=by
  intro S w ι a hr;exact kX args (fun x hx=>hr x (by simp[ho,Op.operands,Call.operands]at hx⊢;exact .inr hx))
 have hf:∀{S:Imm} {w:World} {ι:Ix} {a:Act},(∀x∈o.op.operands.toList,Rep S w ι (ρ x) (a.eval x))→Rep S w ι (ρ f) (a.eval f):=fun hr=>hr f (by simp[ho,Op.operands,Call.operands])
 split at h
 ·rename_i g fs cs hρ
  rw[bP]at h;obtain⟨v,sets,accs,news,hK,hsd⟩:=hC _ _ _ _ _ h;refine⟨v,sets,accs,news,hK,fun S w ι H' a next Q hBw M hr ha hn hk=>?_⟩;have h1:=hargs hr;have h2:=hf hr;rw[hρ]at h2;generalize hv:a.eval f=fv at h2
  cases h2 with
  |fn _ _ _ _ us vs hkk hl hu hvs=>
   rcases hsd with⟨hent,hs⟩|⟨rfl,hl0⟩
   rotate_left
   ·obtain⟨val,hrun,hrep⟩:=hl0 S w ι _ (fV (fV ⟨hkk,hu⟩ h1) ⟨hl,hvs⟩)
    exact cB hd (by simp only[execOp,ho,resolve,hv,Deferred.ofValue,Sem.run_bind,Sem.run_pure,Result.andThen,invoke,hrun]) (hk val S w ι M (.refl _) (.refl _ _) hrep (fun p=>.refl _ _ _ _ _))
   have hres:(execOp a.eval o).run P w=.ok (.enter g (us++args.map a.eval++vs)) w:=by
    simp only[execOp,ho,resolve,hv,Deferred.ofValue,Sem.run_bind,Sem.run_pure,Result.andThen,invoke,hent]
   refine⟨fun _ _=>trivial,?_⟩;rw[Oper.semAt_eq _ _ _ hd,hres,Oper.uponIn_enter];refine⟨fun h=>by simp[Fw,Fence.wide]at h,Az ((hs S w ι H' _ hBw M (fV (fV ⟨hkk,hu⟩ h1) ⟨hl,hvs⟩) ha hn).mono ?_)⟩
   rintro e w' ⟨val,S',ι',rfl,M',L',K',R',T'⟩
   exact hk val S' w' ι' M' L' K' R' T'
 ·rename_i g us vs hρ
  rw[bP]at h;obtain⟨v,sets,accs,news,hK,hs⟩:=hY _ _ _ _ _ _ _ h;refine⟨v,sets,accs,news,hK,fun S w ι H' a next Q hB M hr ha hn hk=>?_⟩;have h1:=hargs hr;have h2:=hf hr;rw[hρ]at h2;generalize hv:a.eval f=fv at h2
  cases h2
  have hres:(execOp a.eval o).run P w=(invoke (.fn g vs) (us++args.map a.eval)).run P w:=by
   simp only[execOp,ho,resolve,hv,Deferred.ofValue,Sem.run_bind,Sem.run_pure,Result.andThen]
  refine⟨fun _ _=>trivial,?_⟩;rw[Oper.semAt_eq _ _ _ hd,hres];exact hs S w ι H' o _ a next Q _ ho hB M h1 ha hn hk
 ·exact h.elim
theorem Lc:∀{ms:List Method} {s:String} {g:Nat},Ah ms s=some g→∃m,ms.find? (fun m=>m.name==s)=some m∧m.path.toList=[]∧m.func=some (g,false):=by
 intro ms;induction ms with
 |nil=>intro s g h;cases h
 |cons m r ih=>
  intro s g h;unfold Ah at h;split at h
  ·rename_i hb
   split at h
   ·rename_i hp
    split at h
    ·rename_i g' hf
     cases h
     exact⟨m,by simp[al4,hb],hp,hf⟩
    ·cases h
   ·cases h
  ·rename_i hb
   obtain⟨m',h1,h2⟩:=ih h;exact⟨m',by simp[al4,hb,h1],h2⟩
theorem Pj (hτ:bB P τ) {t:TypeId} {te:TE} (ht:τ t=some te) (hp:Hz te.und=true) {name:String} {g:Nat} (hm:Ah te.meths name=some g) (v:Value) (w:World) (n:Nat):
 (method (n+1) t v name).run P w=.ok (g,v) w:=by
 obtain⟨i,hi,hms⟩:=hτ.meth t te ht;obtain⟨m,h1,h2,h3⟩:=Lc hm;have h4:i.methods.find? (fun m=>m.name==name)=some m:=by rw[←hms]at h1;rw[←Array.find?_toList];exact h1
 unfold method;simp only[Sem.run_bind,run_typeInfo w hi,Result.andThen,h4,h2,follow,Sem.run_pure,h3,receiverAt,run_underlying (hτ.und _ _ ht)];generalize te.und=d at hp⊢
 cases d<;>first|(simp[Hz]at hp;done)|(simp only[Place.get,Sem.run_pure,Result.andThen];done)|(simp[Place.get,Result.andThen];done)
theorem Gb (hτ:bB P τ) {md rf CP YP} {o:Oper} {ρ:Operand→PV} {H:Hp} {n:Nat} {t:TypeId} {x:Operand} (ho:o.op=.makeInterface t x) {K:KR}
 (h:opK τ md rf CP YP ρ H n o.dst o.op K):∃v sets accs news,K v sets accs news∧bH P r o ρ H v sets accs news:=by
 rw[ho]at h;simp only[opK,bU,aK,bL]at h;obtain⟨te,ht,hni,hK⟩:=h;refine⟨_,_,_,_,hK,aY (fun c e=>by rw[ho]at e;cases e) fun S w ι H' a M hr ha=>⟨.iface t (a.eval x),?_,.ifc _ _ _ _ (hr x (by simp[ho,Op.operands]))⟩⟩
 simp only[execOp,ho];refine dW ?_;simp only[Instr.makeInterface,Sem.run_bind,run_underlying (hτ.und _ _ ht),Result.andThen];cases hu:te.und<;>first|(rw[hu]at hni;simp[Sz]at hni;done)|rfl
theorem Io (hτ:bB P τ) {md rf CP YP} {B:Imm→World→Prop} (hC:jO P B CP) {o:Oper} {ρ:Operand→PV} {H:Hp} {n:Nat} {f:Operand} {name:String} {args:Array Operand} {ats:Array TypeId} (ho:o.op=.call ⟨.invoke f name,args,ats⟩) {K:KR}
 (h:opK τ md rf CP YP ρ H n o.dst o.op K):∃v sets accs news,K v sets accs news∧lZ P r B o ρ H v sets accs news:=by
 rw[ho]at h;simp only[opK]at h;have hd:∀c,o.op≠ .defer c:=fun c e=>by rw[ho]at e;cases e
 have hargs:∀{S:Imm} {w:World} {ι:Ix} {a:Act},(∀x∈o.op.operands.toList,Rep S w ι (ρ x) (a.eval x))→bG S w ι (kK ρ args.toList) (args.map a.eval):=by
  intro S w ι a hr;exact kX args (fun x hx=>hr x (by simp[ho,Op.operands,Call.operands]at hx⊢;exact .inr hx))
 have hf:∀{S:Imm} {w:World} {ι:Ix} {a:Act},(∀x∈o.op.operands.toList,Rep S w ι (ρ x) (a.eval x))→Rep S w ι (ρ f) (a.eval f):=fun hr=>hr f (by simp[ho,Op.operands,Call.operands])
 split at h
 ·rename_i t p hρ
  rw[bU]at h;obtain⟨te,ht,h⟩:=h;rw[aK]at h;obtain⟨hp,h⟩:=h;split at h
  ·rename_i g hg
   rw[bP]at h;obtain⟨v,sets,accs,news,hK,hsd⟩:=hC _ _ _ _ _ h;refine⟨v,sets,accs,news,hK,fun S w ι H' a next Q hBw M hr ha hn hk=>?_⟩;have h1:=hargs hr;have h2:=hf hr;rw[hρ]at h2;generalize hv:a.eval f=fv at h2
   cases h2 with
   |ifc _ _ _ u hu=>
    have h3:bG S w ι [p] #[u]:=⟨rfl,fun i hi=>by simp at hi;subst hi;exact hu⟩
    have hres:(execOp a.eval o).run P w=(callFunc g (#[u]++args.map a.eval)).run P w:=by
     obtain⟨d,hd⟩:∃d,P.types.size+Made.depth=d+1:=⟨P.types.size+Made.depth-1,by unfold Made.depth;omega⟩
     simp only[execOp,ho,resolve,hv,Sem.run_bind,Sem.run_pure,Result.andThen,invoke];have hx:(args.map a.eval).extract 0 args.size=args.map a.eval:=by
      have:=Array.extract_size (xs:=args.map a.eval)
      rwa [alz]at this
     simp only[Array.getElem?_append,aly];simp[callMethod,run_program,hd,Pj hτ ht hp hg,Result.andThen,hx]
    rcases hsd with⟨hent,hs⟩|⟨rfl,hl0⟩
    rotate_left
    ·obtain⟨val,hrun,hrep⟩:=hl0 S w ι _ (fV h3 h1)
     exact cB hd (hres.trans hrun) (hk val S w ι M (.refl _) (.refl _ _) hrep (fun p=>.refl _ _ _ _ _))
    refine⟨fun _ _=>trivial,?_⟩;rw[Oper.semAt_eq _ _ _ hd,hres,hent,Oper.uponIn_enter];refine⟨fun h=>by simp[Fw,Fence.wide]at h,Az ((hs S w ι H' _ hBw M (fV h3 h1) ha hn).mono ?_)⟩
    rintro e w' ⟨val,S',ι',rfl,M',L',K',R',T'⟩
    exact hk val S' w' ι' M' L' K' R' T'
  ·exact h.elim
 ·exact h.elim
theorem SK (hτ:bB P τ) {md rf CP YP} {B:Imm→World→Prop} (hC:jO P B CP) (hY:mJ P r B YP) {o:Oper} {ρ:Operand→PV} {H:Hp} {n:Nat} {K:KR}
 (h:opK τ md rf CP YP ρ H n o.dst o.op K):∃v sets accs news,K v sets accs news∧lZ P r B o ρ H v sets accs news:=by
 have up:(∃v sets accs news,K v sets accs news∧bH P r o ρ H v sets accs news)→∃v sets accs news,K v sets accs news∧lZ P r B o ρ H v sets accs news:=
  fun⟨v,sets,accs,news,h1,h2⟩=>⟨v,sets,accs,news,h1,h2.toB⟩
 cases ho:o.op with
 |move x=>exact up (Ak (.inl ho) h)
 |assign x=>exact up (Ak (.inr ho) h)
 |pick c x y=>exact up (O1 ho h)
 |alloc t=>exact up (KM hτ ho h)
 |box t x=>exact up (SB hτ ho h)
 |build t ps=>exact up (KT hτ ho h)
 |buildSlice t l ps=>exact up (zl hτ ho h)
 |insert t m k u=>exact up (Il hτ ho h)
 |mapUpdate t m k u=>exact up (Ay hτ ho h)
 |load t x=>exact up (OQ hτ ho h)
 |store t x y=>
  cases hfz:OM rf x with
  |false=>exact up (KO hτ ho hfz h)
  |true=>exact up (Im hτ ho hfz h)
 |nilCheck x=>exact up (CS ho h)
 |binOp op t x y u=>exact up (SE hτ ho h)
 |unOp op t x=>exact up (WS hτ ho h)
 |convert s d x=>exact up (KZ hτ ho h)
 |makeInterface t x=>exact up (Gb hτ ho h)
 |makeFunc f fs cs=>exact up (CV ho h)
 |makeMap t x=>exact up (Ga ho h)
 |makeSlice t l c=>exact up (Aw hτ ho h)
 |slice t x lo hi mx=>exact up (KW hτ ho h)
 |fieldAddr t x f=>exact up (Am hτ ho h)
 |field t x f=>exact up (KU hτ ho h)
 |indexAddr t x i=>exact up (Ao hτ ho h)
 |index t x i=>exact up (KV hτ ho h)
 |lookup t m k ok=>exact up (Ik hτ ho h)
 |extract x i=>exact up (F6 ho h)
 |call c=>
  obtain⟨cal,args,ats⟩:=c;cases cal with
  |value f=>exact AA hC hY ho h
  |invoke x m=>exact Io hτ hC ho h
  |builtin b=>exact up (F9 hτ ho rfl h)
 |_=>rw[ho]at h;exact h.elim
variable {P:Program} {r:Option Nat} {τ:TypeId→Option TE} {B:Imm→World→Prop}
structure Ent where
 run:Bool
 v:PV
 sets:List (Nat × AO)
 accs:List Nat
 news:List Nat
instance:Inhabited Ent:=⟨⟨true,.any,[],[],[]⟩⟩
def fT (env:Env) (dst:Option Nat) (v:PV):Env:=match dst with|none=>env|some d=>env.set d v
def keys:List (Nat × AO)→List Nat
 | []=>[]
 |(k,_)::r=>k::keys r
theorem vH (l:List PV) (i:Nat) (h:¬i<l.length):aH l i=.any:=by
 induction l generalizing i with
 |nil=>rfl
 |cons x xs ih=>cases i with
  |zero=>simp at h
  |succ i=>exact ih i (by simpa using h)
theorem Ip {a:Array Bool} {i j:Nat} {v d:Bool} (h:j≠i):(a.setIfInBounds i v).getD j d=a.getD j d:=by
 simp[akD,al5,Ne.symm h]
theorem oJ {S:Imm} {w:World} {ι:Ix} {env:Env} {a:Act} (h:bG S w ι env a.tmps) (x:Operand) (hx:∀g,x≠ .global g):Rep S w ι (eo env x) (a.eval x):=by
 cases x with
 |tmp t=>
  simp only[eo,Act.eval];by_cases ht:t<env.length
  ·exact h.2 t ht
  ·rw[vH _ _ ht];exact .any _ _
 |const v=>exact CQ v
 |global g=>exact absurd rfl (hx g)
 |func f=>exact .fn _ _ _ _ _ _ rfl rfl (fun i hi=>by simp at hi) (fun i hi=>by simp at hi)
theorem afy {S:Imm} {w:World} {ι:Ix} {env:Env} {a:Act} (hg:gB S w) (h:bG S w ι env a.tmps) (x:Operand):Rep S w ι (eo env x) (a.eval x):=by
 cases x with
 |global g=>
  simp only[eo,Act.eval];cases hc:xJ g with
  |none=>exact .any _ _
  |some c=>
   have:=Rep.ip (S:=S) (w:=w) ι c 0 g 0 (fun j hj=>by rw[akS];exact((hg g c hc).2 j hj).1) (fun j hj=>by rw[akS];exact((hg g c hc).2 j hj).2)
   exact this
 |_=>exact oJ h _ (fun g e=>by cases e)
theorem zo {S:Imm} {w:World} {ι:Ix} {env:Env} {a:Act} (h:bG S w ι env a.tmps) (dst:Option Nat) {v:PV} {val:Value} (hv:Rep S w ι v val):bG S w ι (fT env dst v) (a.put dst val).tmps:=by
 cases dst with
 |none=>exact h
 |some d=>
  refine⟨by simp[fT,Act.put,h.1],fun i hi=>?_⟩
  simp only[fT,List.length_set]at hi;simp only[fT,Act.put,pq,akD,al5];by_cases e:i=d
  ·subst e
   rw[if_pos ⟨rfl,hi⟩,if_pos rfl];simp only[←h.1,hi,if_true,alo];exact hv
  ·rw[if_neg (fun hh=>e hh.1),if_neg (Ne.symm e),←akD]
   exact h.2 i hi
theorem put_defers (a:Act) (dst:Option Nat) (v:Value):(a.put dst v).defers=a.defers:=by cases dst<;>rfl
def GOK (ops:Array Oper) (env:Env) (o:Oper) (b:Bool):Prop:=
 match o.guard with
 |none=>b=true
 |some (j,want)=>∃d t,(ops[j]?).bind (·.dst)=some d∧(aH env d=.bp t∨aH env d=.bool t∨(aH env d=.tup []∧t=!want))∧b=(t==want)
theorem GOK.wanted {ops:Array Oper} {env:Env} {o:Oper} {b:Bool} (h:GOK ops env o b) {S:Imm} {w:World} {ι:Ix} {a:Act} (hr:bG S w ι env a.tmps):Region.wanted o (yielded ops a.tmps)=b:=by
 unfold GOK at h;unfold Region.wanted;cases hg:o.guard with
 |none=>rw[hg]at h;exact h.symm
 |some jw=>
  obtain⟨j,want⟩:=jw;rw[hg]at h;obtain⟨d,t,h1,h2,h3⟩:=h;have hlt:d<env.length:=by
   by_cases hd:d<env.length
   ·exact hd
   ·rw[vH _ _ hd]at h2;rcases h2 with h2|h2|⟨h2,_⟩<;>cases h2
  have hd:=hr.2 d hlt;rw[akD,akA (by rw[←hr.1];exact hlt),alo]at hd
  have he:a.tmps[d]? =some (a.tmps[d]'(by rw[←hr.1];exact hlt)):=akA _
  rcases h2 with h2|h2|⟨h2,ht⟩
  ·have hv:a.tmps[d]? =some (.bool t):=by rw[he];rw[h2]at hd;generalize a.tmps[d]'(by rw[←hr.1];exact hlt)=x at hd;cases hd;rfl
   simp only[yielded,h1,al6,hv];rw[h3];cases t<;>cases want<;>rfl
  ·have hv:a.tmps[d]? =some (.bool t):=by rw[he];rw[h2]at hd;generalize a.tmps[d]'(by rw[←hr.1];exact hlt)=x at hd;cases hd;rfl
   simp only[yielded,h1,al6,hv];rw[h3];cases t<;>cases want<;>rfl
  ·have hv:∃vs,a.tmps[d]? =some (.tuple vs):=by rw[he];rw[h2]at hd;generalize a.tmps[d]'(by rw[←hr.1];exact hlt)=x at hd;cases hd;exact⟨_,rfl⟩
   obtain⟨vs,hv⟩:=hv;simp only[yielded,h1,al6,hv];rw[h3,ht];cases want<;>rfl
def kr (P:Program) (r:Option Nat) (B:Imm→World→Prop) (ops:Array Oper) (env:Env) (H:Hp) (o:Oper) (e:Ent):Prop:=
 GOK ops env o e.run∧(e.run=true→lZ P r B o (eo env) H e.v e.sets e.accs e.news)∧(∀k∈e.news,aA H k=none)∧
 (e.run=false→e.v=.tup []∧e.sets=[]∧e.accs=[]∧e.news=[])
def Chain (P:Program) (r:Option Nat) (B:Imm→World→Prop) (ops:Array Oper) (es:Nat→Ent):List Nat→Env→Hp→(Env→Hp→Prop)→Prop
 | [],env,H,K=>K env H
 |i::R,env,H,K=>∃o,ops[i]? =some o∧kr P r B ops env H o (es i)∧Chain P r B ops es R (fT env o.dst (es i).v) (bC H (es i).sets) K
def looks (ops:Array Oper) (o:Oper):List Nat:=
 (o.op.operands.toList.filterMap fun|.tmp t=>some t|_=>none)++(match o.guard with|some (j,_)=>((ops[j]?).bind (·.dst)).toList|none=>[])
structure Apart (ops:Array Oper) (p o:Oper):Prop where
 po:∀d,p.dst=some d→d∉looks ops o
 op:∀d,o.dst=some d→d∉looks ops p
 dd:∀d,p.dst=some d→o.dst≠some d
structure vI (e f:Ent):Prop where
 ef:∀k∈keys e.sets,k∉f.accs∧k∉keys f.sets
 fe:∀k∈keys f.sets,k∉e.accs∧k∉e.news
theorem jS {sets:List (Nat × AO)}:∀{H:Hp} {k:Nat},k∉keys sets→aA (bC H sets) k=aA H k:=by
 induction sets with
 |nil=>intro H k h;rfl
 |cons x xs ih=>
  intro H k h;obtain⟨i,a⟩:=x;simp only[keys,al7,not_or]at h;simp only[bC];rw[ih h.2,aX,if_neg h.1]
theorem Pk {sets:List (Nat × AO)}:∀{H:Hp} {k:Nat},aA (bC H sets) k=none→aA H k=none:=by
 induction sets with
 |nil=>intro H k h;exact h
 |cons x xs ih=>
  intro H k h;obtain⟨i,a⟩:=x;have:=ih (H:=aO H i a) h;rw[aX]at this;split at this
  ·cases this
  ·exact this
theorem SL {sets:List (Nat × AO)}:∀{H:Hp} {i:Nat} {a:AO},i∉keys sets→bC (aO H i a) sets=aO (bC H sets) i a:=by
 induction sets with
 |nil=>intro H i a h;rfl
 |cons x xs ih=>
  intro H i a h;obtain⟨j,c⟩:=x;simp only[keys,al7,not_or]at h;simp only[bC];rw[Sl _ _ _ _ _ h.1,ih h.2]
theorem Pn {A C:List (Nat × AO)}:∀{H:Hp},(∀k∈keys A,k∉keys C)→bC (bC H A) C=bC (bC H C) A:=by
 induction A with
 |nil=>intro H h;rfl
 |cons x xs ih=>
  intro H h;obtain⟨i,a⟩:=x;simp only[keys,al7]at h;simp only[bC];rw[ih (fun k hk=>h k (.inr hk)),SL (h i (.inl rfl))]
theorem WV {ops:Array Oper} {o:Oper} {t:Nat} (h:Operand.tmp t∈o.op.operands.toList):t∈looks ops o:=by
 unfold looks;exact List.mem_append_left _ (List.mem_filterMap.2 ⟨_,h,rfl⟩)
theorem EF {env:Env} {dst:Option Nat} {v:PV} {t:Nat} (h:∀d,dst=some d→t≠d):aH (fT env dst v) t=aH env t:=by
 cases dst with
 |none=>rfl
 |some d=>rw[fT,pq,if_neg (fun hh=>h d rfl hh.1)]
theorem Mq {ops:Array Oper} {o:Oper} {env:Env} {dst:Option Nat} {v:PV} (h:∀d,dst=some d→d∉looks ops o) {x:Operand} (hx:x∈o.op.operands.toList):eo (fT env dst v) x=eo env x:=by
 cases x with
 |tmp t=>exact EF fun d hd e=>h d hd (by subst e;exact WV hx)
 |const v=>rfl
 |global g=>rfl
 |func f=>rfl
theorem Iq {ops:Array Oper} {o:Oper} {env:Env} {dst:Option Nat} {v:PV} {b:Bool} (h:∀d,dst=some d→d∉looks ops o):GOK ops (fT env dst v) o b↔GOK ops env o b:=by
 unfold GOK;cases hg:o.guard with
 |none=>exact Iff.rfl
 |some jw=>
  obtain⟨j,want⟩:=jw;simp only;have:∀d',(ops[j]?).bind (·.dst)=some d'→aH (fT env dst v) d'=aH env d':=fun d' hd'=>EF fun d hd e=>h d hd (by
   subst e;unfold looks;rw[hg];exact List.mem_append_right _ (by simp[hd']))
  constructor
  ·rintro⟨d,t,h1,h2,h3⟩;exact⟨d,t,h1,by rwa [this d h1]at h2,h3⟩
  ·rintro⟨d,t,h1,h2,h3⟩;exact⟨d,t,h1,by rwa [this d h1],h3⟩
theorem lZ.congr {o:Oper} {ρ ρ':Operand→PV} {H H':Hp} {v:PV} {sets:List (Nat × AO)} {accs news:List Nat} (h:lZ P r B o ρ H v sets accs news)
 (hρ:∀x∈o.op.operands.toList,∀S w ι val,Rep S w ι (ρ' x) val→Rep S w ι (ρ x) val) (hH:∀k∈accs,aA H' k=aA H k):lZ P r B o ρ' H' v sets accs news:=
 fun S w ι H1 a next Q hB M hr ha hn hk=>h S w ι H1 a next Q hB M (fun x hx=>hρ x hx _ _ _ _ (hr x hx)) (fun k hk'=>(ha k hk').trans (hH k hk')) hn hk
theorem SN {env:Env} {d d':Option Nat} {v v':PV} (h:∀x,d=some x→d'≠some x):fT (fT env d v) d' v'=fT (fT env d' v') d v:=by
 cases d with
 |none=>rfl
 |some x=>cases d' with
  |none=>rfl
  |some y=>simp only[fT];exact List.set_comm _ _ (fun e=>h x rfl (by rw[e]))
theorem kr.back {ops:Array Oper} {p o:Oper} {e f:Ent} {env:Env} {H:Hp} (hs:Apart ops p o) (hd:vI e f) (h:kr P r B ops (fT env p.dst e.v) (bC H e.sets) o f):kr P r B ops env H o f:=by
 obtain⟨h1,h2,h3,h4⟩:=h;refine⟨(Iq hs.po).1 h1,fun hr=>(h2 hr).congr (fun x hx S w ι val hh=>by rw[Mq hs.po hx];exact hh) (fun k hk=>(jS (fun hk'=>(hd.ef k hk').1 hk)).symm),fun k hk=>Pk (h3 k hk),h4⟩
theorem kr.forth {ops:Array Oper} {p o:Oper} {e f:Ent} {env:Env} {H:Hp} (hs:Apart ops p o) (hd:vI e f) (h:kr P r B ops env H p e):kr P r B ops (fT env o.dst f.v) (bC H f.sets) p e:=by
 obtain⟨h1,h2,h3,h4⟩:=h;refine⟨(Iq hs.op).2 h1,fun hr=>(h2 hr).congr (fun x hx S w ι val hh=>by rw[Mq hs.op hx]at hh;exact hh) (fun k hk=>jS (fun hk'=>(hd.fe k hk').1 hk)),fun k hk=>?_,h4⟩
 rw[jS (fun hk'=>(hd.fe k hk').2 hk)];exact h3 k hk
theorem Chain.pull {ops:Array Oper} {es:Nat→Ent} {K:Env→Hp→Prop} {i:Nat} {post:List Nat}:∀(pre:List Nat) {env:Env} {H:Hp},Chain P r B ops es (pre++i::post) env H K→
 (∀p∈pre,∀op oi,ops[p]? =some op→ops[i]? =some oi→Apart ops op oi∧vI (es p) (es i))→
 ∃o,ops[i]? =some o∧kr P r B ops env H o (es i)∧Chain P r B ops es (pre++post) (fT env o.dst (es i).v) (bC H (es i).sets) K:=by
 intro pre;induction pre with
 |nil=>intro env H h _;exact h
 |cons p pre ih=>
  intro env H h hi;obtain⟨op,ho,he,hc⟩:=h;obtain⟨oi,hoi,hei,hci⟩:=ih hc (fun q hq=>hi q (by simp[hq]))
  obtain⟨a,d⟩:=hi p qqS op oi ho hoi;refine⟨oi,hoi,hei.back a d,op,ho,he.forth a d,?_⟩;rw[SN (fun x hx hx'=>a.dd x hx' hx),Pn (fun k hk hk'=>(d.ef k hk').2 hk)];exact hci
structure At (B:Imm→World→Prop) (p:Nat) (S0:Imm) (w0:World) (ι0:Ix) (H0:Hp) (env:Env) (H:Hp) (a:Act) (w:World):Prop where
 ex:∃S ι,B S w∧Mem S w ι H∧bG S w ι env a.tmps∧xK w ι H a.defers∧(∀d∈a.defers,∀b,d.target=.collected b→w0.heap.size≤b)∧Tr p S0 w0 ι0 H0 S w ι H
structure BOK (B:Imm→World→Prop):Prop where
 mono:∀S w S' w',Keeps S w S' w'→Bel w w'→B S w→B S' w'
 glob:∀S w,B S w→gB S w
instance {B:Imm→World→Prop}:CoeFun (BOK B) (fun _=>∀S w S' w',Keeps S w S' w'→Bel w w'→B S w→B S' w'):=⟨BOK.mono⟩
theorem Ir (hB:BOK B) {ops:Array Oper} {o:Oper} {e:Ent} {env:Env} {H:Hp} (he:kr P r B ops env H o e) {p:Nat} {S0:Imm} {w0:World} {ι0:Ix} {H0:Hp} {a:Act} {w:World}
 (h:At B p S0 w0 ι0 H0 env H a w) {i:Nat} (hi:ops[i]? =some o) {Q:Exit→Act→World→Prop} {K:Act→World→Prop}
 (hk:∀a' w',At B p S0 w0 ι0 H0 (fT env o.dst e.v) (bC H e.sets) a' w'→K a' w'):wpOpIn (Fw r) 0 P ops Q i K a w:=by
 obtain⟨S,ι,hb,M,R,hds,hdn,T⟩:=h.ex;obtain⟨h1,h2,h3,h4⟩:=he;unfold wpOpIn;simp only[hi];rw[h1.wanted R];cases hrun:e.run with
 |true=>
  simp only[if_true];refine h2 hrun S w ι H a K Q hb M (fun x hx=>afy (hB.glob _ _ hb) R x) (fun _ _=>rfl) h3 (fun val S' w' ι' M' L' K' R' T'=>hk _ _ ⟨S',ι',hB _ _ _ _ K' (T' 0).below hb,M',?_,by rw[put_defers];exact hds.tr (T' 0),by rw[put_defers];exact hdn,T.trans (T' p)⟩)
  exact zo (R.mono K' L') _ R'
 |false=>
  obtain⟨g1,g2,g3,g4⟩:=h4 hrun;simp only[als,if_false];refine⟨fun _ _=>trivial,hk _ _ ⟨S,ι,hb,by rw[g2];exact M,?_,by rw[put_defers,g2];exact hds,by rw[put_defers];exact hdn,by rw[g2];exact T⟩⟩
  rw[g1];exact zo R _ (.tup _ _ _ rfl (fun i hi=>by simp at hi))
theorem Po (hB:BOK B) {ops:Array Oper} {es:Nat→Ent} {K:Env→Hp→Prop} {p:Nat} {S0:Imm} {w0:World} {ι0:Ix} {H0:Hp} {Q:Exit→Act→World→Prop}
 (hQ:∀env H a w,K env H→At B p S0 w0 ι0 H0 env H a w→Q .normal a w):∀(R:List Nat) (env:Env) (H:Hp) (a:Act) (w:World),Chain P r B ops es R env H K→At B p S0 w0 ι0 H0 env H a w→
  wpOpsIn (Fw r) 0 P ops Q R a w:=by
 intro R;induction R with
 |nil=>intro env H a w h hA;exact hQ _ _ _ _ h hA
 |cons i R ih=>
  intro env H a w h hA;obtain⟨o,ho,he,hc⟩:=h;rw[wpOpsIn_cons];exact Ir hB he hA ho fun a' w' hA'=>ih _ _ a' w' hc hA'
inductive Bef (ops:Array Oper):Nat→Nat→Prop where
 |edge {i j:Nat} {o:Oper} {e:Edge} (h:ops[j]? =some o) (he:e∈o.after) (hb:Region.binds .any e=true) (hi:e.on=i):Bef ops i j
 |trans {i j k:Nat}:Bef ops i j→Bef ops j k→Bef ops i k
theorem SQ (hB:BOK B) {ops:Array Oper} {es:Nat→Ent} {K:Env→Hp→Prop} {p:Nat} {S0:Imm} {w0:World} {ι0:Ix} {H0:Hp} {Q:Exit→Act→World→Prop}
 (hQ:∀env H a w,K env H→At B p S0 w0 ι0 H0 env H a w→Q .normal a w)
 (hback:∀(j:Nat) (o:Oper) (e:Edge),ops[j]? =some o→e∈o.after→Region.binds .any e=true→e.on<j)
 (hind:∀i j op oj,i<j→ops[i]? =some op→ops[j]? =some oj→¬Bef ops i j→Apart ops op oj∧vI (es i) (es j)):
 ∀(fuel:Nat) (listed:Array Bool) (R:List Nat) (env:Env) (H:Hp) (a:Act) (w:World),R.Pairwise (·< ·)→(∀i,i∈R↔listed.getD i true=false)→listed.size=ops.size→
  (∀i j,Bef ops i j→listed.getD j false=true→listed.getD i false=true)→R.length≤fuel→
  Chain P r B ops es R env H K→At B p S0 w0 ι0 H0 env H a w→wpAnyIn (Fw r) 0 P .any ops Q fuel listed a w:=by
 have hready:∀(listed:Array Bool) (j:Nat),j∈Region.ready .any ops listed→(∀i j,Bef ops i j→listed.getD j false=true→listed.getD i false=true)→∀i,Bef ops i j→listed.getD i false=true:=by
  intro listed j hj hcl i hb;induction hb with
  |edge h he hb hi=>
   obtain⟨_,o,ho,hall⟩:=mem_ready.1 hj;rw[h]at ho;cases ho
   rw[←hi];exact hall _ he hb
  |trans h1 h2 ih1 ih2=>exact hcl _ _ h1 (ih2 hj)
 intro fuel;induction fuel with
 |zero=>
  intro listed R env H a w hs hm hsz hcl hle hc hA;have hR:R=[]:=alY.1 qqO;subst hR;refine⟨?_,hQ _ _ _ _ hc hA⟩;rw[List.eq_nil_iff_forall_not_mem];intro j hj;have:=(hm j).2 (mem_ready.1 hj).1;simp at this
 |succ fuel ih=>
  intro listed R env H a w hs hm hsz hcl hle hc hA;refine⟨fun hnil=>?_,fun i hi=>?_⟩
  ·
   cases R with
   |nil=>exact hQ _ _ _ _ hc hA
   |cons i R=>
    have hi:=(hm i).1 qqS;have hlt:i<listed.size:=by
     rcases akw i listed.size with h|h
     ·exact h
     ·rw[akD,akx h]at hi;simp at hi
    have:i∈Region.ready .any ops listed:=by
     refine mem_ready.2 ⟨hi,ops[i]'qqO,akA qqO,fun e he hb=>?_⟩;have hb':=hback i _ e (akA qqO) he hb;have hnot:¬e.on∈i::R:=by
      intro hmem;rcases al7.1 hmem with h|h
      ·omega
      ·have:=(al8.1 hs).1 _ h;omega
     have h2:¬listed.getD e.on true=false:=fun h=>hnot ((hm e.on).2 h);have hlt':e.on<listed.size:=qqO;simp[akD,hlt']at h2⊢;exact h2
    rw[hnil]at this;cases this
  ·have hiR:=(hm i).2 (mem_ready.1 hi).1
   obtain⟨pre,post,rfl⟩:=List.append_of_mem hiR;have hlt:∀q∈pre,q<i:=fun q hq=>(al9.1 hs).2.2 q hq i qqS;obtain⟨o,ho,he,hc'⟩:=hc.pull pre (fun q hq op oi hop hoi=>hind q i op oi (hlt q hq) hop hoi (fun hb=>by
    have h1:=hready listed i hi hcl q hb;have h2:=(hm q).1 (by simp[hq])
    rw[akD]at h1 h2;cases hq':listed[q]? with
    |none=>rw[hq']at h2;simp at h2
    |some x=>rw[hq']at h1 h2;simp at h1 h2;rw[h1]at h2;cases h2))
   refine Ir hB he hA ho fun a' w' hA'=>ih (listed.setIfInBounds i true) (pre++post) _ _ a' w' ?_ ?_ (by simpa using hsz) ?_ (by simp at hle⊢;omega) hc' hA'
   ·exact List.Pairwise.sublist (List.Sublist.append_left (List.sublist_cons_self i post) pre) hs
   ·intro j
    have hnd:i∉pre++post:=by
     intro hmem;have hp:=hs;rw[al9]at hp;rcases List.mem_append.1 hmem with h|h
     ·have:=hp.2.2 i h i qqS;omega
     ·have:=(al8.1 hp.2.1).1 i h;omega
    by_cases e:j=i
    ·subst e
     have hlt':j<listed.size:=by
      have:=(hm j).1 qqS;rcases akw j listed.size with h|h
      ·exact h
      ·rw[akD,akx h]at this;simp at this
     simp only[hnd,false_iff];simp[akD,hlt']
    ·have:=hm j
     rw[getD_set_ne true (Ne.symm e)];rw[←this];simp[e]
   ·intro x y hb hy
    by_cases e:y=i
    ·subst e
     exact getD_set_true (hready listed y hi hcl x hb)
    ·rw[Ip e]at hy
     exact getD_set_true (hcl x y hb hy)
def qG (acc:List Nat):List Edge→Nat
 | []=>0
 |e::r=>match Region.binds .any e with
  |true=>(2 ^ e.on|||acc.getD e.on 0)|||qG acc r
  |false=>qG acc r
def masks:List Oper→List Nat→List Nat
 | [],acc=>acc
 |o::r,acc=>masks r (acc++[qG acc o.after.toList])
def gy (a b:List Nat):Bool:=
 match a with
 | []=>true
 |x::r=>match gW x b with|true=>false|false=>gy r b
def vJ:Option Nat→List Nat|none=>[]|some d=>[d]
def Iu (ops:Array Oper) (p o:Oper):Bool:=
 gy (vJ p.dst) (looks ops o)&&gy (vJ o.dst) (looks ops p)&&gy (vJ p.dst) (vJ o.dst)
def aia (j:Nat) (es:List Edge):Bool:=es.all fun e=>!Region.binds .any e||Nat.blt e.on j
def xO (ops:Array Oper):Bool:=
 (akE ops.size).all fun j=>match ops[j]? with
  |none=>true
  |some oj=>aia j oj.after.toList&&(akE j).all fun i=>match ops[i]? with
   |none=>true
   |some oi=>ama ((masks ops.toList []).getD j 0) i||Iu ops oi oj
theorem pJ {n:Nat} {l:List Nat}:gW n l=true↔n∈l:=by
 induction l with
 |nil=>simp[gW]
 |cons m l ih=>
  unfold gW;cases h:akM n m with
  |true=>simp[akR h]
  |false=>
   have:n≠m:=amb h;simp[ih,this]
theorem Iw {a b:List Nat}:gy a b=true↔∀x∈a,x∉b:=by
 induction a with
 |nil=>simp[gy]
 |cons x r ih=>
  unfold gy;cases h:gW x b with
  |true=>simp[pJ.1 h]
  |false=>
   have:x∉b:=fun hx=>by rw[pJ.2 hx]at h;cases h
   simp[ih,this]
theorem Iy {ops:Array Oper} {p o:Oper} (h:Iu ops p o=true):Apart ops p o:=by
 unfold Iu at h;simp only[akQ,Iw]at h;exact⟨fun d hd=>h.1.1 d (by simp[hd,vJ]),fun d hd=>h.1.2 d (by simp[hd,vJ]),fun d hd hd'=>h.2 d (by simp[hd,vJ]) (by simp[hd',vJ])⟩
theorem Ld {ops:Array Oper} {j:Nat} {o:Oper} (ho:ops[j]? =some o) {acc:List Nat} (hacc:∀k i,(acc.getD k 0).testBit i=true→Bef ops i k):
 ∀(es:List Edge),(∀e∈es,e∈o.after)→∀i,(qG acc es).testBit i=true→Bef ops i j:=by
 intro es;induction es with
 |nil=>intro _ i h;simp[qG]at h
 |cons e es ih=>
  intro hes i h;have ih:=ih (fun x hx=>hes x (by simp[hx])) i
  unfold qG at h;cases hb:Region.binds .any e with
  |false=>rw[hb]at h;exact ih h
  |true=>
   rw[hb]at h;simp only[Nat.testBit_or,alX,Nat.testBit_two_pow,decide_eq_true_eq]at h;have he:=Bef.edge (i:=e.on) ho (hes e qqS) hb rfl;rcases h with(h|h)|h
   ·subst h;exact he
   ·exact(hacc _ _ h).trans he
   ·exact ih h
theorem yT {ops:Array Oper}:∀(r pre:List Oper) (acc:List Nat),ops.toList=pre++r→acc.length=pre.length→(∀k i,(acc.getD k 0).testBit i=true→Bef ops i k)→
 ∀k i,((masks r acc).getD k 0).testBit i=true→Bef ops i k:=by
 intro r;induction r with
 |nil=>intro pre acc _ _ h;exact h
 |cons o r ih=>
  intro pre acc hops hl h;refine ih (pre++[o]) (acc++[qG acc o.after.toList]) (by simp[hops]) (by simp[hl]) (fun k i hk=>?_)
  rw[akG]at hk;by_cases e:k<acc.length
  ·rw[List.getElem?_append_left e,←akG]at hk
   exact h k i hk
  ·rw[alG qqO]at hk
   by_cases e':k=acc.length
   ·subst e'
    simp at hk;have ho:ops[acc.length]? =some o:=by
     rw[←amc,hops,hl,alG (aku _)];simp
    exact Ld ho h _ (fun e he=>by simpa using he) i hk
   ·rw[List.getElem?_eq_none (by simp;omega)]at hk;simp at hk
structure Lg where
 i:Nat
 ws:List Nat
 as:List Nat
 ns:List Nat
def AB (i:Nat) (sets:List (Nat × AO)) (acc news:List Nat) (log:List Lg):List Lg:=
 match sets,acc,news with
 | [],[],[]=>log
 |_,_,_=>⟨i,keys sets,acc,news⟩::log
def pK (mj:Nat) (fw fa:List Nat):List Lg→Bool
 | []=>true
 |⟨i,ew,ea,en⟩::r=>match ama mj i with
  |true=>pK mj fw fa r
  |false=>match gy ew fa&&gy ew fw&&gy fw ea&&gy fw en with
   |true=>pK mj fw fa r
   |false=>false
def l5 (ms:List Nat):List Lg→Bool
 | []=>true
 |⟨i,fw,fa,_⟩::r=>match pK (ms.getD i 0) fw fa r with
  |true=>l5 ms r
  |false=>false
def kY (es:Nat→Ent):List Nat→List Lg→List Lg
 | [],log=>log
 |i::R,log=>kY es R (AB i (es i).sets (es i).accs (es i).news log)
def mK (e:Ent):Bool:=match e.sets,e.accs,e.news with| [],[],[]=>false|_,_,_=>true
theorem SS (i:Nat) (e:Ent) (log:List Lg):AB i e.sets e.accs e.news log=if mK e then⟨i,keys e.sets,e.accs,e.news⟩::log else log:=by
 obtain⟨run,v,sets,accs,news⟩:=e;cases sets<;>cases accs<;>cases news<;>rfl
theorem abL (es:Nat→Ent):∀(R:List Nat) (log:List Lg),kY es R log=((R.filter fun i=>mK (es i)).reverse.map fun i=>⟨i,keys (es i).sets,(es i).accs,(es i).news⟩)++log:=by
 intro R;induction R with
 |nil=>intro log;rfl
 |cons i R ih=>
  intro log;simp only[kY,ih,SS];cases h:mK (es i)<;>simp[h]
theorem AJ {mj:Nat} {f:Lg} {l:List Lg}:pK mj f.ws f.as l=true↔∀e∈l,mj.testBit e.i=true∨(gy e.ws f.as&&gy e.ws f.ws&&gy f.ws e.as&&gy f.ws e.ns)=true:=by
 induction l with
 |nil=>simp[pK]
 |cons e l ih=>
  unfold pK;cases h1:ama mj e.i with
  |true=>simp[h1,ih]
  |false=>
   simp only[al7,forall_eq_or_imp,h1,als,false_or];split
   ·rename_i h;simp only[h,true_and,ih]
   ·rename_i h;simp[h]
theorem Pp {ms:List Nat} {l:List Lg}:l5 ms l=true↔l.Pairwise fun f e=>(ms.getD f.i 0).testBit e.i=true∨(gy e.ws f.as&&gy e.ws f.ws&&gy f.ws e.as&&gy f.ws e.ns)=true:=by
 induction l with
 |nil=>simp[l5]
 |cons f l ih=>
  unfold l5;cases h:pK (ms.getD f.i 0) f.ws f.as l with
  |true=>simp only[al8,ih];exact⟨fun h'=>⟨AJ.1 h,h'⟩,fun h'=>h'.2⟩
  |false=>
   simp only[al8];refine⟨fun h'=>absurd h' qqS,fun h'=>?_⟩;rw[AJ.2 h'.1]at h;cases h
theorem SV {ops:Array Oper} {es:Nat→Ent} {n:Nat} (h:l5 (masks ops.toList []) (kY es (akE n) [])=true) {i j:Nat} (hij:i<j) (hj:j<n) (hb:¬Bef ops i j):vI (es i) (es j):=by
 rw[abL,List.append_nil,Pp,List.pairwise_map,List.pairwise_reverse,List.pairwise_filter]at h;have hp:=(List.pairwise_iff_getElem.1 h) i j (by simpa using(by omega:i<n)) (by simpa using hj) hij
 simp only[List.getElem_range]at hp;have htriv:∀e:Ent,mK e=false→e.sets=[]∧e.accs=[]∧e.news=[]:=by
  intro e he;obtain⟨run,v,sets,accs,news⟩:=e;cases sets<;>cases accs<;>cases news<;>simp_all[mK]
 cases hi':mK (es i)with
 |false=>
  obtain⟨e1,e2,e3⟩:=htriv _ hi';exact⟨fun k hk=>by rw[e1]at hk;simp[keys]at hk,fun k hk=>by rw[e2,e3];simp⟩
 |true=>
  cases hj':mK (es j)with
  |false=>
   obtain⟨e1,e2,e3⟩:=htriv _ hj';exact⟨fun k hk=>by rw[e1,e2];simp[keys],fun k hk=>by rw[e1]at hk;simp[keys]at hk⟩
  |true=>
   rcases hp hi' hj' with hp|hp
   ·exact absurd (yT ops.toList [] [] rfl rfl (fun k i hk=>by simp at hk) j i hp) hb
   ·simp only[akQ,Iw]at hp
    exact⟨fun k hk=>⟨hp.1.1.1 k hk,hp.1.1.2 k hk⟩,fun k hk=>⟨hp.1.2 k hk,hp.2 k hk⟩⟩
theorem Pq {ops:Array Oper} (h:xO ops=true) (j:Nat) (o:Oper) (e:Edge) (ho:ops[j]? =some o) (he:e∈o.after) (hb:Region.binds .any e=true):e.on<j:=by
 have hj:j<ops.size:=(ako.1 ho).1;unfold xO at h;have:=(amd.1 h) j (by simpa using hj)
 rw[ho]at this;simp only[akQ]at this;have h2:=(amd.1 this.1) e (by simpa using he)
 rw[hb]at h2;simpa [Nat.blt_eq]using h2
theorem Le {ops:Array Oper} (h:xO ops=true) {i j:Nat} {p o:Oper} (hij:i<j) (hi:ops[i]? =some p) (ho:ops[j]? =some o) (hb:¬Bef ops i j):Apart ops p o:=by
 have hj:j<ops.size:=(ako.1 ho).1;unfold xO at h;have:=(amd.1 h) j (by simpa using hj)
 rw[ho]at this;simp only[akQ]at this;have h2:=(amd.1 this.2) i (by simpa using hij)
 rw[hi]at h2;simp only[alX]at h2;rcases h2 with h2|h2
 ·exact absurd (yT ops.toList [] [] rfl rfl (fun k i hk=>by simp at hk) j i h2) hb
 ·exact Iy h2
def vK (H:Hp):List Nat→Prop→Prop
 | [],k=>k
 |n::r,k=>dN H n (vK H r k)
theorem Pt {H:Hp} {l:List Nat} {k:Prop}:vK H l k↔(∀n∈l,aA H n=none)∧k:=by
 induction l with
 |nil=>simp[vK]
 |cons n l ih=>simp only[vK,bS,ih,al7,forall_eq_or_imp,and_assoc]
def idN:Op→Nat
 |.alloc _=>1
 |.box _ _=>1
 |.buildSlice _ _ _=>1
 |.makeMap _ _=>1
 |.makeSlice _ _ _=>1
 |.call c=>match c.callee with
  |.builtin .append=>1
  |.value _=>4
  |_=>0
 |_=>0
def AL (ops:List Oper) (j:Nat):Option Nat:=match ops,j with
 | [],_=>none
 |o::_,0=>o.dst
 |_::r,j+1=>AL r j
def AP (env:Env) (dst:Option Nat) (v:PV) (k:Env→Prop):Prop:=match dst with|none=>k env|some d=>rC env d v k
theorem sW (env:Env) (dst:Option Nat) (v:PV) (k:Env→Prop):AP env dst v k=k (fT env dst v):=by
 cases dst with
 |none=>rfl
 |some d=>exact mq _ _ _ _
section
variable (τ:TypeId→Option TE) (md:Nat) (rf:List Nat) (CP:CPT) (YP:YPT)
def runK (n:Nat) (env:Env) (H:Hp) (o:Oper) (i:Nat) (log:List Lg) (K:Env→Hp→List Lg→Prop):Prop:=
 opK τ md rf CP YP (eo env) H n o.dst o.op fun v sets acc news=>vK H news (AP env o.dst v fun env'=>gV sets H fun H'=>K env' H' (AB i sets acc news log))
def WW (all:List Oper) (o:Oper) (ih:Nat→Nat→Env→Hp→List Lg→(Env→Hp→Nat→List Lg→Prop)→Prop) (i n:Nat) (env:Env) (H:Hp) (log:List Lg) (K:Env→Hp→Nat→List Lg→Prop):Prop:=
 jk (n+idN o.op) fun n'=>jk (i+1) fun i'=>
 match o.guard with
 |none=>runK τ md rf CP YP n env H o i log fun env' H' log'=>ih i' n' env' H' log' K
 |some (j,want)=>match AL all j with
  |none=>False
  |some d=>match aH env d with
   |.bool t=>match Bool.xor t want with
    |false=>runK τ md rf CP YP n env H o i log fun env' H' log'=>ih i' n' env' H' log' K
    |true=>AP env o.dst (.tup []) fun env'=>ih i' n' env' H log K
   |.bp t=>(t=want→rC env d (.bool want) fun env1=>runK τ md rf CP YP n env1 H o i log fun env' H' log'=>ih i' n' env' H' log' K)∧
    (t=ame want→rC env d (.bool (ame want)) fun env1=>AP env1 o.dst (.tup []) fun env'=>ih i' n' env' H log K)
   |.tup vs=>match vs with
    | []=>AP env o.dst (.tup []) fun env'=>ih i' n' env' H log K
    |_=>False
   |_=>False
noncomputable def rE (all:List Oper) (l:List Oper):Nat→Nat→Env→Hp→List Lg→(Env→Hp→Nat→List Lg→Prop)→Prop:=
 List.rec (motive:=fun _=>Nat→Nat→Env→Hp→List Lg→(Env→Hp→Nat→List Lg→Prop)→Prop) (fun i n env H log K=>K env H n log) (fun o _ ih=>WW τ md rf CP YP all o ih) l
theorem SX (all:List Oper) (o:Oper) (r:List Oper):rE τ md rf CP YP all (o::r)=WW τ md rf CP YP all o (rE τ md rf CP YP all r):=rfl
end
def EqE (env env1:Env):Prop:=env.length=env1.length∧∀i,aH env i=aH env1 i∨∃b,aH env i=.bp b∧aH env1 i=.bool b
theorem EqE.refl (env:Env):EqE env env:=⟨rfl,fun _=>.inl rfl⟩
theorem EqE.rep {env env1:Env} (h:EqE env env1) {S:Imm} {w:World} {ι:Ix} {vs:Array Value} (hr:bG S w ι env vs):bG S w ι env1 vs:=by
 refine⟨h.1▸hr.1,fun i hi=>?_⟩;have:=hr.2 i (by rw[h.1];exact hi)
 rcases h.2 i with e|⟨b,e1,e2⟩
 ·rw[←e];exact this
 ·rw[e1]at this
  rw[e2];generalize vs.getD i undef=x at this
  cases this;exact .bool _ _
theorem EqE.eo {env env1:Env} (h:EqE env env1) (x:Operand) {S:Imm} {w:World} {ι:Ix} {v:Value} (hr:Rep S w ι (eo env x) v):Rep S w ι (eo env1 x) v:=by
 cases x with
 |tmp t=>
  simp only[Eng.eo]at hr⊢;rcases h.2 t with e|⟨b,e1,e2⟩
  ·rw[←e];exact hr
  ·rw[e1]at hr;rw[e2];cases hr;exact .bool _ _
 |const v=>exact hr
 |global g=>exact hr
 |func f=>exact hr
theorem EqE.put {env env1:Env} (h:EqE env env1) (dst:Option Nat) (v:PV):EqE (fT env dst v) (fT env1 dst v):=by
 cases dst with
 |none=>exact h
 |some d=>
  refine⟨by simp[fT,h.1],fun i=>?_⟩
  simp only[fT,pq,h.1];split
  ·exact .inl rfl
  ·exact h.2 i
theorem EqE.bool {env:Env} {d:Nat} {t:Bool} (h:aH env d=.bp t):EqE env (env.set d (.bool t)):=by
 refine⟨qqS,fun i=>?_⟩;rw[pq];by_cases e:i=d∧d<env.length
 ·rw[if_pos e];exact .inr ⟨t,by rw[e.1];exact h,rfl⟩
 ·rw[if_neg e];exact .inl rfl
section
variable {P:Program} {r:Option Nat} {τ:TypeId→Option TE} {B:Imm→World→Prop}
theorem kr.eqE {ops:Array Oper} {env env1:Env} {H:Hp} {o:Oper} {e:Ent} (h:EqE env env1) (he:kr P r B ops env1 H o e):kr P r B ops env H o e:=by
 obtain⟨h1,h2,h3,h4⟩:=he;refine⟨?_,fun hr=>(h2 hr).congr (fun x hx S w ι val hh=>h.eo x hh) (fun _ _=>rfl),h3,h4⟩;unfold GOK at h1⊢;cases hg:o.guard with
 |none=>rw[hg]at h1;exact h1
 |some jw=>
  obtain⟨j,want⟩:=jw;rw[hg]at h1;obtain⟨d,t,g1,g2,g3⟩:=h1;refine⟨d,t,g1,?_,g3⟩;rcases h.2 d with e|⟨b,e1,e2⟩
  ·rw[e];exact g2
  ·rw[e2]at g2
   rcases g2 with g2|g2|⟨g2,_⟩
   ·cases g2
   ·cases g2;exact .inl e1
   ·cases g2
theorem Chain.eqE {ops:Array Oper} {es:Nat→Ent} {K:Env→Hp→Prop} (hK:∀env env1 H,EqE env env1→K env1 H→K env H):∀(R:List Nat) {env env1:Env} {H:Hp},EqE env env1→Chain P r B ops es R env1 H K→Chain P r B ops es R env H K:=by
 intro R;induction R with
 |nil=>intro env env1 H h hc;exact hK _ _ _ h hc
 |cons i R ih=>
  intro env env1 H h hc;obtain⟨o,ho,he,hc⟩:=hc;exact⟨o,ho,he.eqE h,ih (h.put _ _) hc⟩
theorem Chain.congrEs {ops:Array Oper} {es es':Nat→Ent} {K:Env→Hp→Prop}:∀(R:List Nat) {env:Env} {H:Hp},(∀i∈R,es i=es' i)→Chain P r B ops es R env H K→Chain P r B ops es' R env H K:=by
 intro R;induction R with
 |nil=>intro env H _ h;exact h
 |cons i R ih=>
  intro env H he h;obtain⟨o,ho,h1,h2⟩:=h;have e:=he i qqS;exact⟨o,ho,e▸h1,e▸ih (fun j hj=>he j (by simp[hj])) h2⟩
theorem Chain.imp {ops:Array Oper} {es:Nat→Ent} {K K':Env→Hp→Prop} (hK:∀env H,K env H→K' env H):∀(R:List Nat) {env:Env} {H:Hp},Chain P r B ops es R env H K→Chain P r B ops es R env H K':=by
 intro R;induction R with
 |nil=>intro env H h;exact hK _ _ h
 |cons i R ih=>intro env H h;obtain⟨o,ho,h1,h2⟩:=h;exact⟨o,ho,h1,ih h2⟩
theorem Chain.fact {ops:Array Oper} {es:Nat→Ent} {K:Env→Hp→Prop} {A:Prop} (hK:∀env H,K env H→A):∀(R:List Nat) {env:Env} {H:Hp},Chain P r B ops es R env H K→A:=by
 intro R;induction R with
 |nil=>intro env H h;exact hK _ _ h
 |cons i R ih=>intro env H h;obtain⟨o,ho,h1,h2⟩:=h;exact ih h2
theorem Pv {es es':Nat→Ent}:∀(R:List Nat) (log:List Lg),(∀i∈R,es i=es' i)→kY es R log=kY es' R log:=by
 intro R;induction R with
 |nil=>intro log _;rfl
 |cons i R ih=>intro log h;simp only[kY];rw[h i qqS,ih _ fun j hj=>h j (by simp[hj])]
theorem SY:∀(l:List Oper) (j:Nat),AL l j=(l[j]?).bind (·.dst):=by
 intro l;induction l with
 |nil=>intro j;rfl
 |cons o l ih=>intro j;cases j with
  |zero=>rfl
  |succ j=>simpa [AL]using ih j
def afz:List Oper→Nat
 | []=>0
 |o::r=>idN o.op+afz r
theorem AQ (hτ:bB P τ) {md rf CP YP} (hC:jO P B CP) (hY:mJ P r B YP) {ops:Array Oper} {K:Env→Hp→Nat→List Lg→Prop} {K':List Lg→Env→Hp→Prop}
 (hK:∀env H n log,K env H n log→K' log env H) (hK':∀log env env1 H,EqE env env1→K' log env1 H→K' log env H):
 ∀(l:List Oper) (i n:Nat) (env:Env) (H:Hp) (log:List Lg),ops.toList.drop i=l→rE τ md rf CP YP ops.toList l i n env H log K→
  ∃es:Nat→Ent,Chain P r B ops es (amf i l.length) env H (K' (kY es (amf i l.length) log)):=by
 intro l;induction l with
 |nil=>intro i n env H log _ h;exact⟨fun _=>default,hK _ _ _ _ h⟩
 |cons o l ih=>
  intro i n env H log hl h;have ho:ops[i]? =some o:=by
   have:(ops.toList.drop i)[0]? =some o:=by rw[hl];rfl
   rw[alP]at this;simpa using this
  have hl':ops.toList.drop (i+1)=l:=by
   have:(ops.toList.drop i).drop 1=l:=by rw[hl];rfl
   rw[List.drop_drop]at this;exact this
  rw[SX]at h;simp only[WW,jJ]at h;have glue:∀{env:Env} {H:Hp} (e:Ent) (es:Nat→Ent),kr P r B ops env H o e→Chain P r B ops es (amf (i+1) l.length) (fT env o.dst e.v) (bC H e.sets) (K' (kY es (amf (i+1) l.length) (AB i e.sets e.accs e.news log)))→
   ∃es:Nat→Ent,Chain P r B ops es (amf i (o::l).length) env H (K' (kY es (amf i (o::l).length) log)):=by
   intro env H e es he hc;have hne:∀j∈amf (i+1) l.length,es j=(if j=i then e else es j):=by
    intro j hj;rw[List.mem_range'_1]at hj;rw[if_neg qqO]
   refine⟨fun j=>if j=i then e else es j,?_⟩;rw[akq,List.range'_succ];refine⟨o,ho,by simpa using he,?_⟩
   simp only[if_true,kY];rw[←Pv _ _ hne];exact Chain.congrEs _ hne hc
  have run:∀{env:Env} {H:Hp},GOK ops env o true→runK τ md rf CP YP n env H o i log (fun env' H' log'=>rE τ md rf CP YP ops.toList l (i+1) (n+idN o.op) env' H' log' K)→
   ∃es:Nat→Ent,Chain P r B ops es (amf i (o::l).length) env H (K' (kY es (amf i (o::l).length) log)):=by
   intro env H hg h;obtain⟨v,sets,accs,news,h,hs⟩:=SK (B:=B) hτ hC hY h;simp only[Pt,sW,iH]at h;obtain⟨hn,h⟩:=h;obtain⟨es,hc⟩:=ih _ _ _ _ _ hl' h;exact glue ⟨true,v,sets,accs,news⟩ es ⟨hg,fun _=>hs,hn,fun hh=>by cases hh⟩ hc
  have skip:∀{env:Env} {H:Hp},GOK ops env o false→rE τ md rf CP YP ops.toList l (i+1) (n+idN o.op) (fT env o.dst (.tup [])) H log K→
   ∃es:Nat→Ent,Chain P r B ops es (amf i (o::l).length) env H (K' (kY es (amf i (o::l).length) log)):=by
   intro env H hg h;obtain⟨es,hc⟩:=ih _ _ _ _ _ hl' h;refine glue ⟨false,.tup [],[],[],[]⟩ es ?_ hc;refine⟨hg,fun hh=>?_,fun k hk=>?_,fun _=>⟨rfl,rfl,rfl,rfl⟩⟩
   ·exact absurd hh qqS
   ·exact absurd hk qqS
  have lift:∀{env env1:Env} {H:Hp},EqE env env1→(∃es:Nat→Ent,Chain P r B ops es (amf i (o::l).length) env1 H (K' (kY es (amf i (o::l).length) log)))→
   ∃es:Nat→Ent,Chain P r B ops es (amf i (o::l).length) env H (K' (kY es (amf i (o::l).length) log)):=
   fun he ⟨es,hc⟩=>⟨es,Chain.eqE (hK' _) _ he hc⟩
  split at h
  ·rename_i hg
   exact run (by unfold GOK;rw[hg]) h
  ·rename_i j want hg
   split at h
   ·exact h.elim
   ·rename_i d hd
    rw[SY,amc]at hd;have gk:∀{env:Env} {t b:Bool},(aH env d=.bp t∨aH env d=.bool t)→b=(t==want)→GOK ops env o b:=by
     intro env t b h1 h2;unfold GOK;rw[hg];exact⟨d,t,hd,h1.imp id .inl,h2⟩
    split at h
    ·rename_i t ht
     split at h
     ·rename_i hx
      exact run (gk (.inr ht) (by cases t<;>cases want<;>simp_all)) h
     ·rename_i hx
      rw[sW]at h;exact skip (gk (.inr ht) (by cases t<;>cases want<;>simp_all)) h
    ·rename_i t ht
     obtain⟨ha,hb⟩:=h;rw[mq]at hb;simp only[mq]at ha;by_cases e:t=want
     ·subst e
      have hq:=EqE.bool ht;refine lift hq (run (gk (t:=t) ?_ qqS) (ha rfl));have:=hq.2 d;rw[ht]at this;rcases this with this|⟨b,e1,e2⟩
      ·exact .inl this.symm
      ·cases e1;exact .inr e2
     ·have e':t=ame want:=by cases t<;>cases want<;>simp_all
      have hq:=EqE.bool ht;rw[e']at hq;have hb:=hb e';rw[sW]at hb;refine lift hq (skip (gk (t:=ame want) ?_ (by cases want<;>rfl)) hb)
      have:=hq.2 d;rw[ht]at this;rcases this with this|⟨b,e1,e2⟩
      ·rw[e']at this;exact .inl this.symm
      ·cases e1;rw[e']at e2;exact .inr e2
    ·rename_i vs ht
     split at h
     ·rw[sW]at h
      refine skip ?_ h;unfold GOK;rw[hg];exact⟨d,!want,hd,.inr (.inr ⟨ht,rfl⟩),by cases want<;>rfl⟩
     ·exact h.elim
    ·exact h.elim
end
def AW (P:Program) (r:Option Nat) (B:Imm→World→Prop) (p:Nat) (c:Code) (Q:Exit→Env→Hp→Prop) (env:Env) (H:Hp):Prop:=
 ∀(S0:Imm) (w0:World) (ι0:Ix) (H0:Hp) (a:Act) (w:World),At B p S0 w0 ι0 H0 env H a w→
  c.wpIn (Fw r) 0 P (fun e a' w'=>∃env' H',Q e env' H'∧At B p S0 w0 ι0 H0 env' H' a' w') a w
section
variable {P:Program} {r:Option Nat} {τ:TypeId→Option TE} {B:Imm→World→Prop} {p:Nat}
theorem At.drawn {S0:Imm} {w0:World} {ι0:Ix} {H0 H:Hp} {env:Env} {a:Act} {w:World} (h:At B p S0 w0 ι0 H0 env H a w) (hB:BOK B):At B p S0 w0 ι0 H0 env H a {w with drawn:=w.drawn+1}:=by
 obtain⟨S,ι,hb,M,R,D,D',T⟩:=h.ex;have hk:Keeps S w S {w with drawn:=w.drawn+1}:=⟨fun b j h=>⟨h,rfl⟩,fun b j h=>h⟩;have hbel:Bel w {w with drawn:=w.drawn+1}:=⟨rfl,rfl,rfl,aku _,fun _ _=>rfl⟩;refine⟨S,ι,hB _ _ _ _ hk hbel hb,⟨fun k o ho=>(M.obj k o ho).mono hk (.refl _) hbel (fun _ _=>rfl) (fun _=>rfl) rfl (fun _ _ _ h=>h),M.liveO,M.liveT,M.dist,M.imm⟩,R.mono hk (.refl _),⟨D.all,D.nodup⟩,D',
  T.trans ⟨hbel,fun _ _ _=>rfl,hk,fun _ _ _ h=>.inl h,fun _ h=>.inl h,fun _ _ _ h=>h,fun _ _ b n h=>⟨b,n,h,.inl ⟨rfl,aku _⟩⟩⟩⟩
theorem AW.eqE {c:Code} {Q:Exit→Env→Hp→Prop} {env env1:Env} {H:Hp} (h:EqE env env1) (ha:AW P r B p c Q env1 H):AW P r B p c Q env H:=by
 intro S0 w0 ι0 H0 a w hA;obtain⟨S,ι,hb,M,R,D,D',T⟩:=hA.ex;exact ha S0 w0 ι0 H0 a w ⟨S,ι,hb,M,h.rep R,D,D',T⟩
theorem AW.mono {c:Code} {Q Q':Exit→Env→Hp→Prop} {env:Env} {H:Hp} (h:AW P r B p c Q env H) (hq:∀e env H,Q e env H→Q' e env H):AW P r B p c Q' env H:=by
 intro S0 w0 ι0 H0 a w hA;refine wpIn_mono (h S0 w0 ι0 H0 a w hA) ?_
 rintro e a w ⟨env',H',q,hA⟩
 exact⟨env',H',hq _ _ _ q,hA⟩
def AK (P:Program) (B:Imm→World→Prop) (p:Nat) (Q:Env→Hp→Prop) (env:Env) (H:Hp):Prop:=
 ∀(S0:Imm) (w0:World) (ι0:Ix) (H0:Hp) (a:Act) (w:World),At B p S0 w0 ι0 H0 env H a w→∃env' H',Q env' H'∧At B p S0 w0 ι0 H0 env' H' a w
theorem AK.of {Q:Env→Hp→Prop} {env:Env} {H:Hp} (h:Q env H):AK P B p Q env H:=fun S0 w0 ι0 H0 a w hA=>⟨env,H,h,hA⟩
theorem AK.eqE {Q:Env→Hp→Prop} {env env1:Env} {H:Hp} (h:EqE env env1) (ha:AK P B p Q env1 H):AK P B p Q env H:=by
 intro S0 w0 ι0 H0 a w hA;obtain⟨S,ι,hb,M,R,D,D',T⟩:=hA.ex;exact ha S0 w0 ι0 H0 a w ⟨S,ι,hb,M,h.rep R,D,D',T⟩
theorem CW (hB:BOK B) (hτ:bB P τ) {md rf CP YP} (hC:jO P B CP) (hY:mJ P r B YP) {id:Nat} {ops:Array Oper} {K:Env→Hp→Nat→List Lg→Prop} {Q:Exit→Env→Hp→Prop} {n:Nat} {env:Env} {H:Hp}
 (hK:∀env H n log,K env H n log→Q .normal env H) (h:rE τ md rf CP YP ops.toList ops.toList 0 n env H [] K):AW P r B p (.region id ops false) Q env H:=by
 intro S0 w0 ι0 H0 a w hA;obtain⟨es,hc⟩:=AQ (K':=fun _ env H=>AK P B p (Q .normal) env H) hτ hC hY (fun env H n log h=>AK.of (hK _ _ _ _ h)) (fun log env env1 H he h=>AK.eqE he h) ops.toList 0 n env H [] rfl h;refine wpIn_region ?_;rw[amg,←ak2];exact Po hB (fun env H a w hk hA=>by obtain⟨env',H',q,hA'⟩:=hk S0 w0 ι0 H0 a w hA;exact⟨env',H',q,hA'⟩) _ _ _ a w hc hA
theorem Gc (hB:BOK B) (hm:P.follows .mixedOrders=true) (hτ:bB P τ) {md rf CP YP} (hC:jO P B CP) (hY:mJ P r B YP) {id:Nat} {ops:Array Oper} {K:Env→Hp→Nat→List Lg→Prop} {Q:Exit→Env→Hp→Prop} {n:Nat} {env:Env} {H:Hp}
 (hok:xO ops=true) (hK:∀env H n log,K env H n log→Q .normal env H) (h:rE τ md rf CP YP ops.toList ops.toList 0 n env H [] fun env H n log=>ifK (l5 (masks ops.toList []) log) (K env H n log)):AW P r B p (.region id ops true) Q env H:=by
 intro S0 w0 ι0 H0 a w hA;obtain⟨es,hc⟩:=AQ (K':=fun log env H=>l5 (masks ops.toList []) log=true∧AK P B p (Q .normal) env H) hτ hC hY (fun env H n log h=>by rw[aK]at h;exact⟨h.1,AK.of (hK _ _ _ _ h.2)⟩) (fun log env env1 H he h=>⟨h.1,AK.eqE he h.2⟩) ops.toList 0 n env H [] rfl h
 have hd:=Chain.fact (fun _ _ h=>h.1) _ hc;have hc':=Chain.imp (K':=AK P B p (Q .normal)) (fun _ _ h=>h.2) _ hc;rw[←amg,ak2]at hd hc';refine wpIn_region_any hm ?_;refine SQ hB (K:=AK P B p (Q .normal)) (fun env H a w hk hA=>by obtain⟨env',H',q,hA'⟩:=hk S0 w0 ι0 H0 a w hA;exact⟨env',H',q,hA'⟩) (fun j o e ho he hb=>Pq hok j o e ho he hb)
  (fun i j op oj hij hi hj hb=>⟨Le hok hij hi hj hb,SV hd hij ((ako.1 hj).1) hb⟩) _ _ (akE ops.size) env H a _ ?_ ?_ qqS ?_ qqS hc' (hA.drawn hB)
 ·exact List.pairwise_lt_range
 ·intro i
  rw[List.mem_range,akD,amh];by_cases e:i<ops.size
  ·simp[e]
  ·simp[e]
 ·intro i j _ hj
  rw[akD,amh]at hj;by_cases e:j<ops.size
  ·simp[e]at hj
  ·simp[e]at hj
theorem afA {x y:Code} {Q:Exit→Env→Hp→Prop} {env:Env} {H:Hp} (h:AW P r B p x (fun e env H=>match e with|.normal=>AW P r B p y Q env H|e=>Q e env H) env H):AW P r B p (.seq x y) Q env H:=by
 intro S0 w0 ι0 H0 a w hA;refine wpIn_seq (wpIn_mono (h S0 w0 ι0 H0 a w hA) ?_)
 rintro e a w ⟨env',H',q,hA⟩
 cases e with
 |normal=>exact q S0 w0 ι0 H0 a w hA
 |_=>exact⟨env',H',q,hA⟩
theorem xP {c:Operand} {x y:Code} {t:Bool} {Q:Exit→Env→Hp→Prop} {env:Env} {H:Hp} (hc:eo env c=.bool t∨eo env c=.bp t) (h:AW P r B p (if t then x else y) Q env H):AW P r B p (.cond c x y) Q env H:=by
 intro S0 w0 ι0 H0 a w hA;obtain⟨S,ι,hb,M,R,D,D',T⟩:=hA.ex;refine wpIn_cond (t:=t) ?_ (h S0 w0 ι0 H0 a w hA);have:=oJ R c (fun g e=>by subst e;simp only[eo]at hc;cases hg:xJ g<;>rw[hg]at hc<;>rcases hc with hc|hc<;>cases hc)
 rcases hc with hc|hc<;>rw[hc]at this<;>generalize a.eval c=v at this<;>cases this<;>rfl
theorem WX {id:Nat} {c:Code} {Q:Exit→Env→Hp→Prop} {env:Env} {H:Hp} (h:AW P r B p c (fun e env H=>match e with|.exit i=>(match akM i id with|true=>Q .normal env H|false=>Q (.exit i) env H)|e=>Q e env H) env H):AW P r B p (.block id c) Q env H:=by
 intro S0 w0 ι0 H0 a w hA;refine wpIn_block (wpIn_mono (h S0 w0 ι0 H0 a w hA) ?_)
 rintro e a w ⟨env',H',q,hA⟩
 cases e with
 |exit i=>
  simp only[Exit.inBlock]at q⊢;cases hb:akM i id with
  |true=>rw[hb]at q;rw[if_pos (akR hb)];exact⟨env',H',q,hA⟩
  |false=>rw[hb]at q;rw[if_neg (amb hb)];exact⟨env',H',q,hA⟩
 |_=>exact⟨env',H',q,hA⟩
theorem jK {P:Program} {b:Frame} {a:Act} {k:List Item} {cs:List Frame} {w:World} {c:Code}:step P (lone (b.atR a (.code (.scope c)::k)) cs w)=.next (lone (b.atR a (.code c:: .inScope c::k)) cs w):=
 step_lone_go (by simp[stepG,stepG.exec,Frame.atR])
theorem Gd {P:Program} {b:Frame} {a:Act} {k:List Item} {cs:List Frame} {w:World} {c:Code}:step P (lone (b.atR a (.inScope c::k)) cs w)=.next (lone (b.atR a k) cs w):=
 step_lone_go (by simp[stepG,stepG.exec,Frame.atR])
theorem Pw {F:Fence} {n:Nat} {P:Program} {c:Code} {Q:Exit→Act→World→Prop} {a:Act} {w:World} (h:c.wpIn F n P (fun e a w=>(∀l,e≠ .goto l)∧Q e a w) a w):(Code.scope c).wpIn F n P Q a w:=by
 intro b k cs hro hb hr;have h0:(lone (b.atR a (.code (.scope c)::k)) cs w).fenced P F:=fenced_calm hb hr rfl;obtain⟨e,a₁,w₁,hq,harr⟩:=h b (.inScope c::k) cs hro hb hr;cases e with
 |normal=>exact⟨.normal,a₁,w₁,hq.2,.head h0 jK (StepsIn.trans harr (.one (fenced_calm hb hr rfl) Gd))⟩
 |exit id'=>
  have hx:exitTo id' (.inScope c::k)=exitTo id' k:=by simp[exitTo]
  exact⟨.exit id',a₁,w₁,hq.2,fun k' hk=>.head h0 jK (harr.1 k' (by rw[hx];exact hk)),
   fun hr' hk=>let⟨k₁,h1,h2⟩:=harr.2 hr' (by rw[hx];exact hk);⟨k₁,h1,.head h0 jK h2⟩⟩
 |goto l=>exact(hq.1 l rfl).elim
 |ret=>exact⟨_,a₁,w₁,hq.2,.of_steps (.one h0 jK) harr⟩
 |panic ch=>exact⟨_,a₁,w₁,hq.2,.of_steps (.one h0 jK) harr⟩
 |outgrown=>exact⟨_,a₁,w₁,hq.2,.of_steps (.one h0 jK) harr⟩
theorem WY {c:Code} {Q:Exit→Env→Hp→Prop} {env:Env} {H:Hp} (h:AW P r B p c (fun e env H=>match e with|.goto _=>False|e=>Q e env H) env H):AW P r B p (.scope c) Q env H:=by
 intro S0 w0 ι0 H0 a w hA;refine Pw (wpIn_mono (h S0 w0 ι0 H0 a w hA) ?_)
 rintro e a w ⟨env',H',q,hA⟩
 cases e with
 |goto l=>exact q.elim
 |_=>exact⟨fun l e=>(by cases e),env',H',q,hA⟩
theorem WZ {l:Nat} {Q:Exit→Env→Hp→Prop} {env:Env} {H:Hp} (h:Q .normal env H):AW P r B p (.label l) Q env H:=fun S0 w0 ι0 H0 a w hA=>wpIn_label ⟨env,H,h,hA⟩
theorem abM {Q:Exit→Env→Hp→Prop} {env:Env} {H:Hp} (h:Q .normal env H):AW P r B p .skip Q env H:=fun S0 w0 ι0 H0 a w hA=>wpIn_skip ⟨env,H,h,hA⟩
theorem abN {id:Nat} {Q:Exit→Env→Hp→Prop} {env:Env} {H:Hp} (h:Q (.exit id) env H):AW P r B p (.exit id) Q env H:=fun S0 w0 ι0 H0 a w hA=>wpIn_exit ⟨env,H,h,hA⟩
theorem afB {Q:Exit→Env→Hp→Prop} {env:Env} {H:Hp} (h:Q .ret env H):AW P r B p .ret Q env H:=fun S0 w0 ι0 H0 a w hA=>wpIn_ret ⟨env,H,h,hA⟩
def Sub (B:Imm→World→Prop) (p:Nat) (env:Env) (H:Hp) (env1:Env) (H1:Hp):Prop:=
 ∀(S0:Imm) (w0:World) (ι0:Ix) (H0:Hp) (a:Act) (w:World),At B p S0 w0 ι0 H0 env H a w→At B p S0 w0 ι0 H0 env1 H1 a w
theorem Gf {F:Fence} {n:Nat} {c:Code} {Q:Exit→Act→World→Prop}:∀(m m':Nat),m≤m'→∀(a:Act) (w:World),Code.roundsIn F n P c Q m a w→Code.roundsIn F n P c Q m' a w:=by
 intro m;induction m with
 |zero=>intro m' _ a w h;exact h.elim
 |succ m ih=>
  intro m' hm a w h;obtain⟨k,rfl⟩:∃k,m'=k+1:=⟨m'-1,qqO⟩;rw[roundsIn_succ]at h⊢;refine wpIn_mono h fun e a w he=>?_;cases e with
  |normal=>exact ih k qqO a w he
  |_=>exact he
theorem Mr {X:Type} (st:X→Env × Hp) (μ:X→Nat) {c:Code} {Q:Exit→Env→Hp→Prop} {env:Env} {H:Hp} (x0:X) (h0:Sub B p env H (st x0).1 (st x0).2)
 (hb:∀x,AW P r B p c (fun e env H=>match e with|.normal=>∃x',μ x'<μ x∧Sub B p env H (st x').1 (st x').2|e=>Q e env H) (st x).1 (st x).2):AW P r B p (.loop c) Q env H:=by
 intro S0 w0 ι0 H0 a w hA;have key:∀m x,μ x=m→∀a w,At B p S0 w0 ι0 H0 (st x).1 (st x).2 a w→Code.roundsIn (Fw r) 0 P c (fun e a' w'=>∃env' H',Q e env' H'∧At B p S0 w0 ι0 H0 env' H' a' w') (m+1) a w:=by
  intro m;induction m using Nat.strongRecOn with
  |_ m ih=>
   intro x hx a w hA;rw[roundsIn_succ];refine wpIn_mono (hb x S0 w0 ι0 H0 a w hA) ?_
   rintro e a' w' ⟨env',H',q,hA'⟩
   cases e with
   |normal=>
    obtain⟨x',hlt,hs⟩:=q;exact Gf (μ x'+1) m qqO _ _ (ih (μ x') qqO x' rfl a' w' (hs _ _ _ _ _ _ hA'))
   |_=>exact⟨env',H',q,hA'⟩
 exact wpIn_loop_rounds _ (key _ x0 rfl a w (h0 _ _ _ _ _ _ hA))
end
def oK (l:List Nat) (K:List Nat→Prop):Prop:=
 match l with
 | []=>K []
 |x::xs=>oK xs fun ys=>K (x::ys)
theorem AV (l:List Nat):∀K,oK l K=K l:=by
 induction l with
 |nil=>intro K;rfl
 |cons x xs ih=>intro K;simp only[oK,ih]
def vL:List Oper→List Nat→(List Nat→Prop)→Prop
 | [],acc,K=>K acc
 |o::r,acc,K=>jk (qG acc o.after.toList) fun m=>oK (acc++[m]) fun acc=>vL r acc K
theorem S9 (l:List Oper):∀acc K,vL l acc K=K (masks l acc):=by
 induction l with
 |nil=>intro acc K;rfl
 |cons o r ih=>intro acc K;simp only[vL,masks,jJ,AV,ih]
structure Lp (md:Nat) (rf:List Nat) (CP:CPT) (YP:YPT) (n:Nat) (q:Prop):Prop where
 get:q
def jq:Code→Nat
 |.region _ ops _=>afz ops.toList
 |.seq a b=>jq a+jq b
 |.cond _ a b=>jq a+jq b
 |.block _ c=>jq c
 |.loop c=>jq c
 |.rangeFunc _ _ a b=>jq a+jq b
 |.scope c=>jq c
 |_=>0
def eu:Code→Bool
 |.region _ ops d=>match d with|true=>xO ops|false=>true
 |.seq a b=>eu a&&eu b
 |.cond _ a b=>eu a&&eu b
 |.block _ c=>eu c
 |.loop c=>eu c
 |.rangeFunc _ _ a b=>eu a&&eu b
 |.scope c=>eu c
 |_=>true
def Px (x:PV) (c:Operand) (env:Env) (A B:Env→Prop):Prop:=
 match x with
 |.bool t=>match t with
  |true=>A env
  |false=>B env
 |.bp t=>(t=true→match c with|.tmp d=>rC env d (.bool true) A|_=>A env)∧
  (t=false→match c with|.tmp d=>rC env d (.bool false) B|_=>B env)
 |_=>False
section
variable (P:Program) (r:Option Nat) (B:Imm→World→Prop) (p:Nat) (τ:TypeId→Option TE) (md:Nat) (rf:List Nat) (CP:CPT) (YP:YPT)
noncomputable def ev (c:Code):Nat→Env→Hp→(Exit→Env→Hp→Nat→Prop)→Prop:=
 Code.rec (motive:=fun _=>Nat→Env→Hp→(Exit→Env→Hp→Nat→Prop)→Prop)
  (fun n env H K=>K .normal env H n)
  (fun id ops d n env H K=>match d with
    |true=>vL ops.toList [] fun ms=>rE τ md rf CP YP ops.toList ops.toList 0 n env H [] fun env H n log=>ifK (l5 ms log) (K .normal env H n)
    |false=>rE τ md rf CP YP ops.toList ops.toList 0 n env H [] fun env H n log=>K .normal env H n)
  (fun a b iha ihb n env H K=>iha n env H fun e env H n=>match e with|.normal=>ihb n env H K|e=>K e env H n)
  (fun c a b iha ihb n env H K=>Px (eo env c) c env (fun env=>iha n env H K) (fun env=>ihb n env H K))
  (fun id c ih n env H K=>ih n env H fun e env H n=>match e with
    |.exit i=>(match akM i id with|true=>K .normal env H n|false=>K (.exit i) env H n)
    |e=>K e env H n)
  (fun c _ n env H K=>jk (n+jq c) fun n'=>Lp md rf CP YP n (AW P r B p (.loop c) (fun e env H=>K e env H n') env H))
  (fun g ps x y _ _ n env H K=>jk (n+jq x+jq y+4) fun n'=>Lp md rf CP YP n (AW P r B p (.rangeFunc g ps x y) (fun e env H=>K e env H n') env H))
  (fun id n env H K=>K (.exit id) env H n)
  (fun _ ih n env H K=>ih n env H fun e env H n=>match e with|.goto _=>False|e=>K e env H n)
  (fun _ n env H K=>K .normal env H n)
  (fun _ _ _ _ _=>False)
  (fun n env H K=>K .ret env H n)
  (fun _ _ _ _ _=>False) c
end
theorem kZ {P:Program} {r:Option Nat} {τ:TypeId→Option TE} {B:Imm→World→Prop} {p:Nat} (hB:BOK B) (hm:P.follows .mixedOrders=true) (hτ:bB P τ) {md rf CP YP} (hC:jO P B CP) (hY:mJ P r B YP):
 ∀(c:Code) (hok:eu c=true) (n:Nat) (env:Env) (H:Hp) (K:Exit→Env→Hp→Nat→Prop),ev P r B p τ md rf CP YP c n env H K→AW P r B p c (fun e env H=>∃n,K e env H n) env H:=by
 intro c;induction c with
 |skip=>intro _ n env H K h;exact abM ⟨n,h⟩
 |exit id=>intro _ n env H K h;exact abN ⟨n,h⟩
 |ret=>intro _ n env H K h;exact afB ⟨n,h⟩
 |region id ops d=>
  intro hok n env H K h;cases d with
  |true=>
   have h:vL ops.toList [] fun ms=>rE τ md rf CP YP ops.toList ops.toList 0 n env H [] fun env H n log=>ifK (l5 ms log) (K .normal env H n):=h;rw[S9]at h;exact Gc hB hm hτ hC hY hok (K:=fun env H n log=>K .normal env H n) (fun env H n log h=>⟨n,h⟩) h
  |false=>exact CW hB hτ hC hY (K:=fun env H n log=>K .normal env H n) (fun env H n log h=>⟨n,h⟩) h
 |seq a b iha ihb=>
  intro hok n env H K h;simp only[eu,akQ]at hok;refine afA ((iha hok.1 n env H _ h).mono ?_)
  rintro e env H ⟨n,h⟩
  cases e with
  |normal=>exact ihb hok.2 n env H K h
  |_=>exact⟨n,h⟩
 |cond c a b iha ihb=>
  intro hok n env H K h;simp only[eu,akQ]at hok;have h:Px (eo env c) c env (fun env=>ev P r B p τ md rf CP YP a n env H K) (fun env=>ev P r B p τ md rf CP YP b n env H K):=h;unfold Px at h;split at h
  ·rename_i t hc
   split at h
   ·exact xP (t:=true) (.inl hc) (iha hok.1 n env H K h)
   ·exact xP (t:=false) (.inl hc) (ihb hok.2 n env H K h)
  ·rename_i t hc
   cases t with
   |true=>
    have h1:=h.1 rfl;refine xP (t:=true) (.inr hc) ?_;simp only[if_true];split at h1
    ·rename_i d
     rw[mq]at h1;exact(iha hok.1 n _ H K h1).eqE (EqE.bool hc)
    ·exact iha hok.1 n _ H K h1
   |false=>
    have h1:=h.2 rfl;refine xP (t:=false) (.inr hc) ?_;simp only[als,if_false];split at h1
    ·rename_i d
     rw[mq]at h1;exact(ihb hok.2 n _ H K h1).eqE (EqE.bool hc)
    ·exact ihb hok.2 n _ H K h1
  ·exact h.elim
 |block id c ih=>
  intro hok n env H K h;refine WX ((ih hok n env H _ h).mono ?_)
  rintro e env H ⟨n,h⟩
  cases e with
  |exit i=>
   simp only at h⊢;cases hb:akM i id<;>rw[hb]at h<;>exact⟨n,h⟩
  |_=>exact⟨n,h⟩
 |loop c ih=>
  intro hok n env H K h;have h:jk (n+jq c) fun n'=>Lp md rf CP YP n (AW P r B p (.loop c) (fun e env H=>K e env H n') env H):=h;rw[jJ]at h;exact h.get.mono fun e env H h=>⟨_,h⟩
 |rangeFunc g ps x y _ _=>
  intro hok n env H K h;have h:jk (n+jq x+jq y+4) fun n'=>Lp md rf CP YP n (AW P r B p (.rangeFunc g ps x y) (fun e env H=>K e env H n') env H):=h;rw[jJ]at h;exact h.get.mono fun e env H h=>⟨_,h⟩
 |scope c ih=>
  intro hok n env H K h;refine WY ((ih hok n env H _ h).mono ?_)
  rintro e env H ⟨n,h⟩
  cases e with
  |goto l=>exact h.elim
  |_=>exact⟨n,h⟩
 |label l=>intro _ n env H K h;exact WZ ⟨n,h⟩
 |_=>intro _ n env H K h;exact h.elim
def Gu:PV→Option PV
 |.agg cs=>match lU cs with|some ds=>some (.agg ds)|none=>none
 |.any=>some .any
 |p=>iQ p
def jH:List PV→Option (List PV)
 | []=>some []
 |x::xs=>match Gu x with
  |some y=>match jH xs with
   |some ys=>some (y::ys)
   |none=>none
  |none=>none
theorem yU {p q:PV} (h:Gu p=some q) {S:Imm} {w:World} {ι:Ix} {v:Value} (hr:Rep S w ι p v):Rep S w noI q v:=by
 unfold Gu at h;split at h
 ·rename_i cs
  split at h
  ·rename_i ds hds
   cases h
   obtain⟨h1,h2⟩:=kQ hds;cases hr with
   |agg _ _ vs hl hh=>exact .agg _ _ _ (h1.trans hl) (fun i hi=>h2 i qqO (hh i qqO))
  ·cases h
 ·cases h;exact .any _ _
 ·exact j6 h hr
theorem gY:∀{ps qs:List PV},jH ps=some qs→qs.length=ps.length∧∀i,i<ps.length→∀{S:Imm} {w:World} {ι:Ix} {v:Value},Rep S w ι (aH ps i) v→Rep S w noI (aH qs i) v:=by
 intro ps;induction ps with
 |nil=>intro qs h;simp[jH]at h;subst h;exact⟨rfl,fun i hi=>by simp at hi⟩
 |cons p ps ih=>
  intro qs h;unfold jH at h;split at h
  ·rename_i y hy
   split at h
   ·rename_i ys hys
    cases h
    obtain⟨h1,h2⟩:=ih hys;refine⟨by simp[h1],fun i hi=>?_⟩
    cases i with
    |zero=>intro S w ι v hr;exact yU hy hr
    |succ i=>exact h2 i (by simpa using hi)
   ·cases h
  ·cases h
def Py (v:PV) (H:Hp) (K:PV→Hp→Prop):Prop:=
 match v with
 |.rsl k off n=>bR H k fun o=>match o with
  |.cells c fz=>lV c fun d=>jM d fun ce=>gu d fun cn=>match akM off 0 with
   |true=>n≤cn∧(match fz with
    |true=>K (.isl (d.sub 0 n) .none) H
    |false=>jh H k (.cells d true) fun H=>K (.isl (d.sub 0 n) .none) H)
   |false=>False
  |_=>False
 |v=>match Gu v with
  |some v=>bN v fun v=>K v H
  |none=>False
def Pz:List PV→Hp→(List PV→Hp→Prop)→Prop
 | [],H,K=>K [] H
 |v::vs,H,K=>Py v H fun u H=>Pz vs H fun us H=>K (u::us) H
def PD (v:PV) (H:Hp) (K:PV→Hp→Prop):Prop:=
 match v with
 |.agg vs=>Pz vs H fun us H=>K (.agg us) H
 |v=>Py v H K
def vN:List PV→Hp→(List PV→Hp→Prop)→Prop
 | [],H,K=>K [] H
 |v::vs,H,K=>PD v H fun u H=>vN vs H fun us H=>K (u::us) H
section
variable {P:Program} {τ:TypeId→Option TE} {B:Imm→World→Prop} {p:Nat}
def Frz (P:Program) (H H':Hp) (R R':Imm→World→Ix→Prop):Prop:=
 ∀{S:Imm} {w:World} {ι:Ix},Mem S w ι H→R S w ι→∃S',Mem S' w ι H'∧Keeps S w S' w∧(∀p,Tr p S w ι H S' w ι H')∧R' S' w ι
theorem AX {v:PV} {H:Hp} {K:PV→Hp→Prop} (h:Py v H K):∃u H',K u H'∧∀val,Frz P H H' (fun S w ι=>Rep S w ι v val) (fun S w ι=>Rep S w noI u val):=by
 unfold Py at h;split at h
 ·rename_i k off n
  rw[bE]at h;obtain⟨ob,hob,h⟩:=h;split at h
  ·rename_i c fz
   have h':=gX h;clear h;obtain⟨d,h,d1,d2,d3⟩:=h';simp only[eY,dJ]at h;split at h
   ·rename_i hoff
    have hoff:=akR hoff;subst hoff;obtain⟨hn,h⟩:=h;have fin:∀{S:Imm} {w:World} {ι:Ix} {c:CL} {val:Value},n≤c.cnt→(∀b,ι.o k=some b→∀j,j<c.ncell→S b j∧Rep S w noI (c.get j) (rdv w b j))→Rep S w ι (.rsl k 0 n) val→Rep S w noI (.isl (c.sub 0 n) .none) val:=by
     intro S w ι c val hn hs hr;cases hr with
     |rsl _ _ _ _ b cap hk hc _=>
      have:=rP (S:=S) (w:=w) (c:=c) (b:=b) (off:=0) (fun j hj=>by rw[akS];exact(hs b hk j hj).1) (fun j hj=>by rw[akS];exact(hs b hk j hj).2) (x:=0) (y:=n) qqO hn (cap:=cap) qqO noI
      simpa using this
     |rslz _ _ _ b o hk=>
      exact nK _ (by rw[j5 _ qqO]) (.inr ⟨b,o,rfl⟩) noI
    split at h
    ·refine⟨_,_,h,fun val S w ι M hr=>⟨S,M,.refl _ _,fun p=>.refl _ _ _ _ _,?_⟩⟩
     exact fin hn (fun b hb j hj=>⟨(M.frozen hob hb j qqO).1,d3 j qqO (M.frozen hob hb j qqO).2⟩) hr
    ·rw[kW]at h
     refine⟨_,_,h,fun val S w ι M hr=>?_⟩;obtain⟨S',M',K',T,F⟩:=M.freeze (c':=d) hob d2 (fun j hj=>by intro S w ι v hr;exact d3 j hj hr)
     exact⟨S',M',K',T,fin hn (fun b hb=>F b hb) (hr.mono K' _ (.refl _))⟩
   ·exact h.elim
  ·exact h.elim
 ·split at h
  ·rename_i u hu
   rw[bL]at h;exact⟨u,H,h,fun val S w ι M hr=>⟨S,M,.refl _ _,fun p=>.refl _ _ _ _ _,yU hu hr⟩⟩
  ·exact h.elim
theorem Lh:∀(vs:List PV) {H:Hp} {K:List PV→Hp→Prop},Pz vs H K→∃us H',K us H'∧us.length=vs.length∧
 ∀(val:Nat→Value),Frz P H H' (fun S w ι=>∀i,i<vs.length→Rep S w ι (aH vs i) (val i)) (fun S w ι=>∀i,i<us.length→Rep S w noI (aH us i) (val i)):=by
 intro vs;induction vs with
 |nil=>intro H K h;exact⟨_,_,h,rfl,fun val S w ι M hr=>⟨S,M,.refl _ _,fun p=>.refl _ _ _ _ _,fun i hi=>by simp at hi⟩⟩
 |cons v vs ih=>
  intro H K h;obtain⟨u,H1,h,h1⟩:=AX (P:=P) h;obtain⟨us,H2,h,hl,h2⟩:=ih h;refine⟨_,_,h,by simp[hl],fun val S w ι M hr=>?_⟩
  obtain⟨S1,M1,K1,T1,R1⟩:=h1 (val 0) M (hr 0 qqS);obtain⟨S2,M2,K2,T2,R2⟩:=h2 (fun i=>val (i+1)) M1 (fun i hi=>by have:=(hr (i+1) (by simpa using hi)).mono K1 _ (.refl _);simpa [aH]using this)
  refine⟨S2,M2,K1.trans K2,fun p=>(T1 p).trans (T2 p),fun i hi=>?_⟩;cases i with
  |zero=>exact R1.mono K2 _ (.refl _)
  |succ i=>simpa [aH]using R2 i (by simpa using hi)
theorem Li {v:PV} {H:Hp} {K:PV→Hp→Prop} (h:PD v H K):∃u H',K u H'∧∀val,Frz P H H' (fun S w ι=>Rep S w ι v val) (fun S w ι=>Rep S w noI u val):=by
 unfold PD at h;split at h
 ·rename_i vs
  obtain⟨us,H',h,hl,hs⟩:=Lh (P:=P) _ h;refine⟨_,_,h,fun val S w ι M hr=>?_⟩;cases hr with
  |agg _ _ ws hw hh=>
   obtain⟨S',M',K',T',R'⟩:=hs (fun i=>ws.getD i undef) M hh;exact⟨S',M',K',T',.agg _ _ _ (hl.trans hw) R'⟩
 ·exact AX h
theorem Iz:∀(vs:List PV) {H:Hp} {K:List PV→Hp→Prop},vN vs H K→∃us H',K us H'∧us.length=vs.length∧
 ∀(val:Nat→Value),Frz P H H' (fun S w ι=>∀i,i<vs.length→Rep S w ι (aH vs i) (val i)) (fun S w ι=>∀i,i<us.length→Rep S w noI (aH us i) (val i)):=by
 intro vs;induction vs with
 |nil=>intro H K h;exact⟨_,_,h,rfl,fun val S w ι M hr=>⟨S,M,.refl _ _,fun p=>.refl _ _ _ _ _,fun i hi=>by simp at hi⟩⟩
 |cons v vs ih=>
  intro H K h;obtain⟨u,H1,h,h1⟩:=Li (P:=P) h;obtain⟨us,H2,h,hl,h2⟩:=ih h;refine⟨_,_,h,by simp[hl],fun val S w ι M hr=>?_⟩
  obtain⟨S1,M1,K1,T1,R1⟩:=h1 (val 0) M (hr 0 qqS);obtain⟨S2,M2,K2,T2,R2⟩:=h2 (fun i=>val (i+1)) M1 (fun i hi=>by have:=(hr (i+1) (by simpa using hi)).mono K1 _ (.refl _);simpa [aH]using this)
  refine⟨S2,M2,K1.trans K2,fun p=>(T1 p).trans (T2 p),fun i hi=>?_⟩;cases i with
  |zero=>exact R1.mono K2 _ (.refl _)
  |succ i=>simpa [aH]using R2 i (by simpa using hi)
end
def og (τ:TypeId→Option TE):List ResultVar→Env→Hp→(List PV→Prop)→Prop
 | [],env,H,K=>K []
 |r::rs,env,H,K=>match r with
  |.tmp t=>bN (aH env t) fun v=>og τ rs env H fun vs=>K (v::vs)
  |.cell a ty=>teK τ ty fun te=>match aH env a with
   |.rp k off=>bR H k fun o=>match o with
    |.cells c _=>rdK te c off fun v=>og τ rs env H fun vs=>K (v::vs)
    |_=>False
   |.ip c off=>rdK te c off fun v=>og τ rs env H fun vs=>K (v::vs)
   |_=>False
def dX (vs:List PV):PV:=match vs with| [v]=>v|vs=>.tup vs
section
variable {P:Program} {τ:TypeId→Option TE}
theorem AY (hτ:bB P τ) {env:Env} {H:Hp}:∀(rs:List ResultVar) {K:List PV→Prop},og τ rs env H K→∃vs,K vs∧∀{S:Imm} {w:World} {ι:Ix} {tmps:Array Value},Mem S w ι H→bG S w ι env tmps→
 ∃vals:List Value,(rs.mapM fun(x:ResultVar)=>(match x with|.tmp t=>pure (tmps.getD t undef)|.cell a t=>do loadVar t (←asAddr (tmps.getD a undef)):Sem Value)).run P w=.ok vals w∧vals.length=vs.length∧
  ∀i,i<vs.length→Rep S w ι (aH vs i) (vals.getD i undef):=by
 intro rs;induction rs with
 |nil=>intro K h;exact⟨_,h,fun M R=>⟨[],rfl,rfl,fun i hi=>by simp at hi⟩⟩
 |cons x rs ih=>
  intro K h;have cons:∀{v:PV} {K:List PV→Prop},(og τ rs env H fun vs=>K (v::vs))→
   (∀{S:Imm} {w:World} {ι:Ix} {tmps:Array Value},Mem S w ι H→bG S w ι env tmps→∃val,((match x with|.tmp t=>pure (tmps.getD t undef)|.cell a t=>do loadVar t (←asAddr (tmps.getD a undef)):Sem Value)).run P w=.ok val w∧Rep S w ι v val)→
   ∃vs,K vs∧∀{S:Imm} {w:World} {ι:Ix} {tmps:Array Value},Mem S w ι H→bG S w ι env tmps→
    ∃vals:List Value,((x::rs).mapM fun(x:ResultVar)=>(match x with|.tmp t=>pure (tmps.getD t undef)|.cell a t=>do loadVar t (←asAddr (tmps.getD a undef)):Sem Value)).run P w=.ok vals w∧vals.length=vs.length∧
     ∀i,i<vs.length→Rep S w ι (aH vs i) (vals.getD i undef):=by
   intro v K h hx;obtain⟨vs,hK,hs⟩:=ih h;refine⟨_,hK,fun M R=>?_⟩;rename_i S w ι tmps;obtain⟨val,r1,r2⟩:=hx M R;obtain⟨vals,q1,q2,q3⟩:=hs M R;refine⟨val::vals,?_,by simp[q2],fun i hi=>?_⟩
   ·rw[List.mapM_cons,Sem.run_bind,r1]
    simp only[Result.andThen,Sem.run_bind,q1,Sem.run_pure]
   ·cases i with
    |zero=>simpa [aH]using r2
    |succ i=>simpa [aH]using q3 i (by simpa using hi)
  unfold og at h;split at h
  ·rename_i t
   rw[bL]at h;refine cons h fun M R=>⟨_,rfl,?_⟩;rename_i S w ι tmps;exact oJ (a:={tmps:=tmps,defers:=[]}) R (.tmp t) (fun g e=>by cases e)
  ·rename_i a ty
   rw[bU]at h;obtain⟨te,ht,h⟩:=h;split at h
   ·rename_i k off hk
    rw[bE]at h;obtain⟨o,ho,h⟩:=h;split at h
    ·obtain⟨v,h,hv⟩:=nJ hτ ht h
     refine cons h fun M R=>?_;rename_i S w ι tmps;have h1:=oJ (a:={tmps:=tmps,defers:=[]}) R (.tmp a) (fun g e=>by cases e)
     simp only[eo,Act.eval,hk]at h1;generalize he:tmps.getD a undef=x at h1
     cases h1 with
     |rp _ _ _ b hb=>
      obtain⟨val,r1,r2⟩:=hv (M.lies ho hb);refine⟨val,?_,r2⟩;rw[akS]at r1;simp only[asAddr,he,Sem.run_bind,Sem.run_pure,Result.andThen];exact r1
    ·exact h.elim
   ·rename_i c off hk
    obtain⟨v,h,hv⟩:=nJ hτ ht h;refine cons h fun M R=>?_;rename_i S w ι tmps;have h1:=oJ (a:={tmps:=tmps,defers:=[]}) R (.tmp a) (fun g e=>by cases e)
    simp only[eo,Act.eval,hk]at h1;generalize he:tmps.getD a undef=x at h1
    cases h1 with
    |ip _ _ _ b o hs hh=>
     obtain⟨val,r1,r2⟩:=hv (pG.of_imm (ι:=ι) M.imm hs hh);refine⟨val,?_,r2⟩;simp only[asAddr,he,Sem.run_bind,Sem.run_pure,Result.andThen];exact r1
   ·exact h.elim
end
end Go.Eng
