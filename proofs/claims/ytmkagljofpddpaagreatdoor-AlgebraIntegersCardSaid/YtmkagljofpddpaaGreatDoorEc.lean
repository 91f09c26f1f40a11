/- An engine that walks through a function of the program with symbolic values, and the proofs that it is sound. No condition. -/
import Derived.MapKept
import Derived.OrdersIn
import Derived.LoopNIn
import Derived.RangeFuncLeaves
import Derived.Test.YtmkagljofpddpaaGreatDoorEb
open Array renaming getElem?_push→alu,size_append→ams,getElem?_eq_none→alr,getD_eq_getD_getElem?→alz,getElem?_append_left→amC,getElem?_append_right→amD,getElem?_eq_getElem→alv,length_toList→alY,empty_append→amG,getElem_toList→amH,toList_inj→amQ,ext→amR,range→amu,size_map→amt,getElem_push_lt→amV,getElem_push_eq→amX,getElem?_setIfInBounds→am0,getElem?_toList→am7,getElem?_eq_some_iff→alh,getElem?_replicate→anc
open Bool renaming and_eq_true→alM,not_eq_true'→ama,false_eq_true→amn,or_eq_true→amS,not→am9
open List renaming getElem_of_mem→alG,getElem?_toArray→amv,getElem?_map→amE,getElem?_range→amF,range→alA,getD_eq_getElem?_getD→alC,getElem?_replicate→amI,length_take→amh,length_drop→amJ,getElem?_drop→amK,length_append→amL,getD_cons_zero→amP,replicate→alL,length_eq_zero_iff→amT,length_cons→alj,length_nil→alf,getElem_append_left→amU,getElem_append_right→amW,getElem_cons_zero→amY,find?→amZ,mem_cons→am2,pairwise_cons→am3,pairwise_append→am4,getElem?_append_right→amB,all_eq_true→am8,range'→ana,range_eq_range'→anb
open Nat renaming le_refl→alo,mul_one→alV,eq_of_beq_eq_true→alN,zero_mul→amo,zero_add→alO,lt_or_ge→alq,add_zero→alg,add_mul→al3,mul_le_mul_right→al2,le_of_ble_eq_true→alU,eq_zero_or_pos→amk,mod_one→amc,div_add_mod→al7,mul_comm→alP,mul_div_cancel→amM,div_lt_iff_lt_mul→al6,mul_add_div→alQ,mul_add_mod→alS,add_sub_cancel_left→amN,min→amO,mod_lt→al8,sub_self→alW,testBit→am5,beq→alI,ne_of_beq_eq_false→am6
open Option renaming map_some→aly,getD_some→amj,bind_some→am1
namespace Go.Eng
open Go.RowKit
set_option linter.unusedSimpArgs false
set_option linter.unusedVariables false
variable {P:Program} {r:Option Nat} {τ:TypeId->Option TE}
abbrev dead:AO:=.cells (.pv []) true
theorem Mem.cells_t {S:Imm} {w:World} {ι:Ix} {H:Hp} (M:Mem S w ι H) {k:Nat} {o:AO} (h:av H k=some o) (ho:o.isTok=false):ι.t k=none:=by
 cases et:ι.t k with
 |none=>rfl
 |some x=>obtain⟨o',g1,g2⟩:=M.liveT k x et;rw[h]at g1;cases g1;rw[ho]at g2;cases g2
theorem Mem.move {S:Imm} {w:World} {ι:Ix} {H:Hp} (M:Mem S w ι H) {k n b:Nat} {c:CL} (hk:av H k=some (.cells c false)) (hn:av H n=none) (hb:ι.o k=some b):
 Mem S w (ι.seto n b) (aP (aP H k dead) n (.cells c false))/\ι.le (ι.seto n b)/\∀p,Tr p S w ι H S w (ι.seto n b) (aP (aP H k dead) n (.cells c false)):=by
 have hno:=M.none_o hn;have hle:ι.le (ι.seto n b):=jS hno;have hkn:k≠n:=λe=>by subst e;rw[hk]at hn;cases hn
 have get:∀k',av (aP (aP H k dead) n (.cells c false)) k'=if k'=n then some (.cells c false)else if k'=k then some dead else av H k':=λk'=>by rw[aW,aW]
 have so:∀k',k'≠n->(ι.seto n b).o k'=ι.o k':=λk' e=>by simp[Ix.seto,e]
 have sn:(ι.seto n b).o n=some b:=by simp[Ix.seto]
 have hhas:∀k' o b',k'≠n->(AO.has (ι.seto n b) k' o b'↔AO.has ι k' o b'):=by
  intro k' o b' e;have et:(ι.seto n b).t k'=ι.t k':=rfl;have ex:(ι.seto n b).x k'=ι.x k':=rfl;cases o<;>simp only[AO.has,so k' e,et,ex]
 refine⟨⟨λk' o ho=>?_,λk' b' h=>?_,λk' x h=>?_,λk1 k2 o1 o2 b' h1 h2 b1 b2=>?_,M.imm⟩,hle,λp=>⟨.refl _,λ_ _ _=>rfl,.refl _ _,λ_ _ _ h=>.inl h,?_,λk' _ b' h=>hle.o k' b' h,λk' _ b' n' h=>hle.t k' b' n' h⟩⟩
 ·rw[get]at ho
  split at ho
  ·rename_i e;subst e;cases ho
   obtain⟨b0,arr,e0,g1,g2,g3,g4,g5⟩:=M.obj k _ hk;rw[hb]at g1;cases g1
   exact⟨b,arr,e0,sn,g2,g3,λj hj=>(g4 j hj).mono (.refl _ _) _ hle,g5⟩
  ·rename_i e
   split at ho
   ·rename_i e2;subst e2;cases ho
    exact⟨b,by rw[so _ e];exact hb,λj hj=>by simp[CL.ncell]at hj⟩
   ·exact(M.obj k' o ho).mono (.refl _ _) hle (.refl _) (λ_ _=>rfl) (λ_=>rfl) rfl (λ_ _ _ h=>h)
 ·rw[get]
  by_cases e:k'=n
  ·rw[if_pos e];exact⟨_,rfl,rfl⟩
  ·rw[if_neg e]
   rw[so _ e]at h;by_cases e2:k'=k
   ·rw[if_pos e2];exact⟨_,rfl,rfl⟩
   ·rw[if_neg e2];exact M.liveO k' b' h
 ·rw[get]
  have h:ι.t k'=some x:=h;by_cases e:k'=n
  ·subst e;have h2:ι.t k'=some x:=h;rw[M.none_t hn]at h2;cases h2
  ·rw[if_neg e]
   by_cases e2:k'=k
   ·subst e2;have h2:ι.t k'=some x:=h;rw[M.cells_t hk rfl]at h2;cases h2
   ·rw[if_neg e2];exact M.liveT k' x h
 ·rw[get]at h1 h2
  have main:∀k2 o2,k2≠n->(if k2=k then some dead else av H k2)=some o2->AO.has (ι.seto n b) k2 o2 b->False:=by
   intro k2 o2 e h2 b2;split at h2
   ·cases h2;exact b2.elim
   ·rename_i e2
    rw[hhas _ _ _ e]at b2;exact e2 (M.dist k2 k o2 _ b h2 hk b2 hb)
  by_cases e1:k1=n
  ·subst e1
   rw[if_pos rfl]at h1;cases h1
   simp only[AO.has,sn]at b1;cases b1
   by_cases e2:k2=k1
   ·exact e2.symm
   ·rw[if_neg e2]at h2;exact(main k2 o2 e2 h2 b2).elim
  ·rw[if_neg e1]at h1
   by_cases e2:k2=n
   ·subst e2
    rw[if_pos rfl]at h2;cases h2
    simp only[AO.has,sn]at b2;cases b2
    exact(main k1 o1 e1 h1 b1).elim
   ·rw[if_neg e2]at h2
    rw[hhas _ _ _ e1]at b1;rw[hhas _ _ _ e2]at b2;split at h1
    ·cases h1;exact b1.elim
    ·split at h2
     ·cases h2;exact b2.elim
     ·exact M.dist k1 k2 o1 o2 b' h1 h2 b1 b2
 ·rintro b' ⟨k',o,h1,h2,h3⟩
  rw[get]at h1;split at h1
  ·rename_i e;subst e;cases h1
   simp only[AO.has,sn]at h3;cases h3
   exact .inl ⟨k,_,hk,rfl,hb⟩
  ·rename_i e
   rw[hhas _ _ _ e]at h3;split at h1
   ·cases h1;exact h3.elim
   ·exact .inl ⟨k',o,h1,h2,h3⟩
theorem Mem.drop {S:Imm} {w:World} {ι:Ix} {H:Hp} (M:Mem S w ι H) {k:Nat} {c:CL} (hk:av H k=some (.cells c false)):
 Mem S w ι (aP H k dead)/\∀p,Tr p S w ι H S w ι (aP H k dead):=by
 obtain⟨b,arr,e,h1,h2,h3,h4,h5⟩:=M.obj k _ hk;exact M.step1 (b:=b) (.refl _) (λ_ _ _=>rfl) (.refl _ _) (λb' j h=>.inl h) (λj hs=>absurd hs (h5 j)) (.refl _) (λ_ _=>rfl) (λ_ _=>rfl) rfl
  (.inr ⟨_,hk,rfl,h1⟩) (λb' h=>h.elim) (by simp[AO.isTok]) (λ_=>M.cells_t hk rfl) ⟨b,h1,λj hj=>by simp[CL.ncell]at hj⟩
theorem Mem.new' {S:Imm} {w w':World} {ι:Ix} {H:Hp} (M:Mem S w ι H) {k:Nat} (hk:av H k=none) {c:CL} {arr:Array Value} {e:TypeId} (hheap:w'.heap=w.heap.push (.cells arr e)) (hbelow:Bel w w')
 (hn:c.ncell≤arr.size) (hc:∀j,j<c.ncell->Rep S w ι (c.get j) (arr.getD j undef)):
 Mem S w' (ι.seto k w.heap.size) (aP H k (.cells c false))/\Keeps S w S w'/\∀p,Tr p S w ι H S w' (ι.seto k w.heap.size) (aP H k (.cells c false)):=by
 have ho:=M.none_o hk;have old:∀b',b'<w.heap.size->w'.heap[b']? =w.heap[b']? :=λb' hb'=>by rw[hheap,alu,if_neg qqO]
 have hkeep:Keeps S w S w':=by
  have:∀b j,(rd w b j).isSome->rd w' b j=rd w b j:=λb j h=>dH (old b (eZ h)) j;exact⟨λb j h=>⟨h,this b j (M.imm b j h)⟩,λb j h=>by rw[this b j h];exact h⟩
 have hnoS:∀j,¬S w.heap.size j:=λj hs=>by have:=eZ (M.imm _ _ hs);omega
 have:=M.step (b:=w.heap.size) (w':=w') (S':=S) (k:=k) (o':=.cells c false) (ι':=ι.seto k w.heap.size) hbelow (λb' hb' _=>old b' hb') hkeep (λb' j h=>.inl h) (λj h=>absurd h (hnoS j))
  (jS ho) (λk' h=>by simp[Ix.seto,h]) (λ_ _=>rfl) rfl (.inl (alo _)) (λb'=>by simp[AO.has,Ix.seto,eq_comm]) (by simp[AO.isTok]) (λ_=>M.none_t hk)
  ⟨w.heap.size,arr,e,by simp[Ix.seto],by rw[hheap];simp,hn,λj hj=>(hc j hj).mono hkeep _ (jS ho),hnoS⟩
 exact⟨this.1,hkeep,this.2⟩
theorem EU (hτ:bC P τ) {t u ty e:TypeId} {tt tu te:TE} (ht:τ t=some tt) (hu:τ u=some tu) (he:τ e=some te) (hd:tt.und=.slice e) {e':TypeId} (hd':tu.und=.slice e')
 {S:Imm} {w:World} {ι:Ix} {H:Hp} (M:Mem S w ι H) {n:Nat} (hno:av H n=none) {base xb:Option Addr} {cn sCap dn xc:Nat}
 (hgrow:sCap<cn+dn) (hbd:cn+dn≤1073741824) (hby:te.bytes≤65536) (h1:te.size=1) {E:CL} (hE:E.cnt=cn+dn) (hEs:E.esz=1)
 {old new:Array Value} (ho:Row S w te.size cn E.get (.slice base cn sCap) old) (hn:Row S w te.size dn (λj=>E.get (cn*te.size+j)) (.slice xb dn xc) new):
 gJ P S w ι H (Builtin.append_ #[t,u] ty #[.slice base cn sCap,.slice xb dn xc]) (.rsl n 0 (cn+dn)) [(n,.cells E false)]:=by
 obtain⟨cap',hcap,hrun⟩:=run_append_grow (ty:=ty) hτ ht hu he hd hd' hgrow hbd hby (ho.run P {w with drawn:=w.drawn+1} rfl) (hn.run P {w with drawn:=w.drawn+1} rfl);have hEn:E.ncell=cn+dn:=by rw[bI,hE,hEs,alV]
 have hzc:te.zero.cells.size=te.size:=hτ.zsz _ _ he;generalize hzz:Builtin.zeroCells te.zero.cells (cap'-(cn+dn))=zz at hrun
 have hzs:zz.size=cap'-(cn+dn):=by
  rw[<-hzz];simp[Builtin.zeroCells,hzc,h1]
 have os:=ho.size;have ns:=hn.size;rw[h1,alV]at os ns;have hsz:(old++new++zz).size=cap':=by
  simp only[ams,os,ns,hzs];omega
 generalize hw':({({w with drawn:=w.drawn+1}:World)with heap:=w.heap.push (.cells (old++new++zz) e)}:World)=w' at hrun
 have hheap:w'.heap=w.heap.push (.cells (old++new++zz) e):=by rw[<-hw']
 have hbelow:Bel w w':=by
  refine .block w.heap.size (by rw[<-hw']) (by rw[<-hw']) (by rw[<-hw']) (by rw[<-hw'];simp) (λb' hb'=>by rw[hheap,alu,if_neg hb']) (by rw[alr (alo _)];exact jy) (by rw[hheap];simp;exact eu _ _)
 obtain⟨M',K',T⟩:=M.new' hno (c:=E) hheap hbelow qqO (λj hj=>by
  rw[hEn]at hj;by_cases h:j<cn
  ·have:=ho.rep j (by rw[h1];omega)
   rw[alz]at this⊢;rw[amC (by simp only[ams,os];omega),amC qqO]
   exact this.up ι
  ·have:=hn.rep (j-cn) (by rw[h1];omega)
   rw[h1,alV,alz,show cn+(j-cn)=j by omega]at this
   rw[alz,amC (by simp only[ams,os,ns];omega),amD qqO,os]
   exact this.up ι)
 refine⟨_,S,w',_,hrun,M',jS (M.none_o hno),K',?_,T⟩;exact .rsl _ _ _ _ _ _ (by simp[Ix.seto]) hcap (λ_ j hj=>by
  rw[aL (arr:=old++new++zz) (e:=e) (f:=(0,0)) (by rw[hheap];simp),alv (by rw[hsz];exact hj)];rfl)
theorem Bt (hτ:bC P τ) {t u ty e:TypeId} {tt tu te:TE} (ht:τ t=some tt) (hu:τ u=some tu) (he:τ e=some te) (hd:tt.und=.slice e) {e':TypeId} (hd':tu.und=.slice e') (hby:te.bytes≤65536)
 {H:Hp} {n:Nat} {x:PV} {K:KR} (h:xS te H n x K) {s0:PV} (hs0:s0=.nils∨∃c,s0=.isl c .full/\c.cnt=0):
 ∃v sets accs news,K v sets accs news/\∀{S:Imm} {w:World} {ι:Ix} {H':Hp} {vs vx:Value},Mem S w ι H'->Rep S w ι s0 vs->Rep S w ι x vx->(∀k∈accs,av H' k=av H k)->(∀k∈news,av H' k=none)->
  gJ P S w ι H' (Builtin.append_ #[t,u] ty #[vs,vx]) v sets:=by
 unfold xS at h;obtain⟨d,acc,h,hd0⟩:=jF h;simp only[dM,fI,bW,aK,alM]at h;obtain⟨⟨hpos,hbd⟩,⟨e1,e2⟩,hfr,hK⟩:=h;have e1:=alN e1;have e2:=alN e2;refine⟨_,_,_,_,hK,λ{S w ι H' vs vx} M hs hx ha hn=>?_⟩;have hno:=hn n qqS;have hsrc:=hd0 M ha hx;obtain⟨ad,cap,vals,rfl,hrow⟩:=hsrc.row;obtain⟨base,rfl,hfc⟩:∃base,vs=.slice base 0 0/\∀(P':Program) w',(Builtin.firstCells te.size 0 (.slice base 0 0)).run P' w'=.ok #[] w':=by
  rcases hs0 with rfl|⟨c,rfl,hc⟩
  ·cases hs;exact⟨_,rfl,λ_ _=>rfl⟩
  ·cases hs with
   |islnil=>exact⟨_,rfl,λ_ _=>mQ⟩
   |isl _ _ _ b off cap hcc hs h hf ho=>
    rw[hf rfl,hc];refine⟨_,rfl,λP' w'=>?_⟩;have:=dx (P:=P') (w:=w') (b:=b) (off:=off) (n:=0) (size:=te.size) (len:=0) (cap:=0) (λj hj=>qqO);simpa using this
 have h1:te.size=1:=qqO;have:=EU (ty:=ty) hτ ht hu he hd hd' M (n:=n) hno (base:=base) (xb:=ad) (cn:=0) (sCap:=0) (dn:=d.cnt) (xc:=cap) qqO qqO hby h1
  (E:=d) qqO e2 (old:= #[]) ⟨qqS,λj hj=>by simp at hj,λP' w' hw=>hfc P' w'⟩ (new:=vals) (by
   rw[e1]at hrow;refine⟨hrow.size,λj hj=>?_,hrow.run⟩;rw[amo,alO];exact hrow.rep j hj)
 rw[alO]at this;exact this
theorem Pf (hτ:bC P τ) {t u ty e:TypeId} {tt tu te:TE} (ht:τ t=some tt) (hu:τ u=some tu) (he:τ e=some te) (hd:tt.und=.slice e) {e':TypeId} (hd':tu.und=.slice e') (hby:te.bytes≤65536)
 {H:Hp} {n k off m:Nat} {x:PV} {K:KR} (h:Dm te H n k off m x K):
 ∃v sets accs news,K v sets accs news/\∀{S:Imm} {w:World} {ι:Ix} {H':Hp} {vs vx:Value},Mem S w ι H'->Rep S w ι (.rsl k off m) vs->Rep S w ι x vx->(∀k∈accs,av H' k=av H k)->(∀k∈news,av H' k=none)->
  gJ P S w ι H' (Builtin.append_ #[t,u] ty #[vs,vx]) v sets:=by
 unfold Dm at h;obtain⟨c,acc,hA,hc0⟩:=jF h;clear h;obtain⟨d,acc',hB,hd0⟩:=jF hA;clear hA;rw[bD]at hB;obtain⟨ob,hob,hC⟩:=hB;split at hC
 ·rename_i c1
  simp only[dM,fI,aK,alM]at hC;obtain⟨⟨hpos,hbd⟩,⟨⟨e0,e1⟩,e2⟩,hD⟩:=hC;have e0:=alN e0;have e1:=alN e1;have e2:=alN e2;subst e0;obtain⟨hE,hone⟩:=tL hD;obtain⟨E,hF,a1,a2,a3,a4,a5⟩:=oL hE;rw[bW]at hF;obtain⟨hfr,hK⟩:=hF;refine⟨_,_,_,_,hK,λM hs hx ha hn=>?_⟩;rename_i S w ι H' vs vx;have hno:=hn n qqS;have hobj:=(ha k qqS).trans hob;have hsrc:=hd0 M (λk' hk'=>ha k' (by simp[hk'])) hx
  obtain⟨ad,xcap,vals,rfl,hrow⟩:=hsrc.row;have hsrc2:=hc0 M (λk' hk'=>ha k' (by simp[hk'])) hs
  obtain⟨ad2,cap,vals2,e3,hrow2⟩:=hsrc2.row;have h1:te.size=1:=qqO;have hcm:c.cnt=m:=by
   obtain⟨ad',cap',e5⟩:=hs.rslSlice;rw[e3]at e5;cases e5;rfl
  have hcn:c.ncell=m:=by rw[bI,e2,alV,hcm]
  have hdn:d.ncell=d.cnt:=by rw[bI,a2,e2,alV]
  have hEn:E.ncell=m+d.cnt:=by rw[bI,a3,a1,e2,alV,hcm]
  have hkn:n≠k:=λe=>by subst e;rw[hobj]at hno;cases hno
  rw[a2,e2]at hrow;rw[e2]at hrow2;subst e3;rw[hcm]at hs hrow2⊢;have rowD:Row S w te.size d.cnt (λj=>E.get (m*te.size+j)) (.slice ad d.cnt xcap) vals:=
   ⟨by rw[h1];exact hrow.size,λj hj=>by rw[h1]at hj;rw[h1,alV,<-hcn,a5 j qqO];exact hrow.rep j hj,by rw[h1];exact hrow.run⟩
  have rowC:Row S w te.size m E.get (.slice ad2 m cap) vals2:=
   ⟨by rw[h1];exact hrow2.size,λj hj=>by rw[h1]at hj;rw[a4 j qqO];exact hrow2.rep j hj,by rw[h1];exact hrow2.run⟩
  by_cases hfit:m+d.cnt≤cap
  ·
   have hin:∃b,ad2=some ⟨b,0,none⟩/\ι.o k=some b/\∀j,j<cap->(rd w b j).isSome:=by
    cases hs with
    |rsl _ _ _ _ b cap hk hc hr=>exact⟨b,rfl,hk,hr rfl⟩
    |rslz _ _ _ b o hk=>omega
   obtain⟨b,rfl,hkb,hrd⟩:=hin;obtain⟨M1,L1,T1⟩:=M.move hobj hno hkb;have hob1:av (aP (aP H' k dead) n (.cells c1 false)) n=some (.cells c1 false):=by rw[aW];simp
   have hb1:(ι.seto n b).o n=some b:=by simp[Ix.seto]
   obtain⟨b',arr,e4,g1,g2,g3,g4,g5⟩:=M.obj k _ hobj;rw[hkb]at g1;cases g1
   have hcap:cap≤arr.size:=by
    have:=hrd (cap-1) qqO;rw[aL g2]at this;rcases alq (cap-1) arr.size with h1|h1
    ·omega
    ·rw[alr h1]at this;simp at this
   have vs:=hrow.size;rw[alV]at vs;have honeV:∀v∈vals.toList,v.oneCell'=true:=by
    intro v hv;obtain⟨i,hi,rfl⟩:=alG hv;have hi':i<d.cnt:=by rw[<-vs];simpa using hi
    have:=(hrow.rep i qqO).oneCell (hone i qqO);simpa [alz,alv (show i<vals.size by simpa using hi)]using this
   obtain⟨w',r1,uu⟩:=bT P vals.toList (o:=m) (i:=0) g2 honeV (by simp[vs];omega)
   have hput:∀j,(putRow arr (m+0) vals.toList).getD j undef=if m≤j/\j<m+d.cnt then vals.getD (j-m) undef else arr.getD j undef:=by
    intro j;rw[fP _ _ _ _ (by simp[vs];omega)]
    simp only[alg,alY,vs];congr 1;simp[alz]
   have hsz':(putRow arr (m+0) vals.toList).size=arr.size:=cK _ _ _;have hrun:=iy (ty:=ty) (w':=w') hτ ht hu he hd hd' (base:=some ⟨b,0,none⟩) (sLen:=m) (sCap:=cap) hfit (rowD.run P w rfl) (by rw[h1];simpa [fQ]using r1)
   have old:∀j,j<m->Rep S w noI (E.get j) (arr.getD j undef):=by
    intro j hj;have hr2:=rowC.rep j (by rw[h1];omega)
    have hh:=rowC.run P w rfl;rw[h1,dx (P:=P) (w:=w) (b:=b) (off:=0) (n:=m) (size:=1) (len:=m) (cap:=cap) (λj hj=>by rw[alO];exact hrd j qqO)]at hh
    cases hh
    rw[alz]at hr2⊢;simp only[alV,amv,amE,amF hj,aly,amj,alO]at hr2;rw[rdv,aL g2]at hr2;exact hr2
   obtain⟨M2,T2⟩:=M1.write (c':=E) hob1 hb1 g2 uu qqO qqO (λj hj=>by
    rw[hput];by_cases hj':j<m
    ·rw[if_neg qqO];exact(old j hj').up _
    ·rw[if_pos qqO]
     have:=rowD.rep (j-m) (by rw[h1];omega)
     rw[h1,alV,show m+(j-m)=j by omega]at this
     exact this.up _)
   have hg:∀k',av (aP (aP (aP H' k dead) n (.cells c1 false)) n (.cells E false)) k'=av (aP (aP H' k dead) n (.cells E false)) k':=λk'=>by
    simp only[aW];split<;>rfl
   have hK2:Keeps S w S w':=(T2 0).keeps;refine⟨_,S,w',_,hrun,M2.congr hg,L1,hK2,?_,λp=>((T1 p).trans (T2 p)).congr' hg⟩;exact .rsl _ _ _ _ _ _ hb1 hfit (λ_ j hj=>hK2.cells _ _ (hrd j hj))
  ·obtain⟨M1,T1⟩:=M.drop hobj
   have hno1:av (aP H' k dead) n=none:=by rw[aW,if_neg hkn];exact hno
   obtain⟨val,S',w',ι',r1,M2,L2,K2,R2,T2⟩:=EU (ty:=ty) hτ ht hu he hd hd' M1 (n:=n) hno1 (base:=ad2) (xb:=ad) (cn:=m) (sCap:=cap) (dn:=d.cnt) (xc:=xcap) qqO hbd hby h1
    (E:=E) qqO qqO rowC rowD
   exact⟨val,S',w',ι',r1,M2,L2,K2,R2,λp=>(T1 p).trans (T2 p)⟩
 ·exact hC.elim
theorem EW (hτ:bC P τ) {t u ty e:TypeId} {tt tu te:TE} (ht:τ t=some tt) (hu:τ u=some tu) (he:τ e=some te) (hd:tt.und=.slice e) {e':TypeId} (hd':tu.und=.slice e')
 {S:Imm} {w:World} {ι:Ix} {H:Hp} (M:Mem S w ι H) (ks:List Nat) (hks:∀k,k∈ks->∃o b,av H k=some o/\o.excl=true/\o.isTok=false/\ι.o k=some b) {n:Nat} (hno:av H n=none) {base xb:Option Addr} {cn sCap dn xc:Nat}
 (hgrow:sCap<cn+dn) (hbd:cn+dn≤1073741824) (hby:te.bytes≤65536) (h1:0<te.size) {E:CL} (hE:E.cnt=cn+dn) (hEs:E.esz=te.size)
 {old new:Array Value} (ho:Row S w te.size cn E.get (.slice base cn sCap) old) (hn:Row S w te.size dn (λj=>E.get (cn*te.size+j)) (.slice xb dn xc) new)
 {sets:List (Nat × AO)} (hH:∀k,av (bE H sets) k=if k=n then some (.rowo E)else if k∈ks then some (.cells (.pv []) true)else av H k):
 gJ P S w ι H (Builtin.append_ #[t,u] ty #[.slice base cn sCap,.slice xb dn xc]) (.rsc n te.size (cn+dn)) sets:=by
 obtain⟨cap',hcap,hrun⟩:=run_append_grow (ty:=ty) hτ ht hu he hd hd' hgrow hbd hby (ho.run P {w with drawn:=w.drawn+1} rfl) (hn.run P {w with drawn:=w.drawn+1} rfl);have hEn:E.ncell=(cn+dn)*te.size:=by rw[bI,hE,hEs]
 have hzc:te.zero.cells.size=te.size:=hτ.zsz _ _ he;generalize hzz:Builtin.zeroCells te.zero.cells (cap'-(cn+dn))=zz at hrun
 have hzs:zz.size=(cap'-(cn+dn))*te.size:=by
  rw[<-hzz];simp[Builtin.zeroCells,hzc]
 have hsz:(old++new++zz).size=cap'*te.size:=by
  simp only[ams,ho.size,hn.size,hzs,<-al3];congr 1;omega
 have hle:(cn+dn)*te.size≤cap'*te.size:=al2 _ hcap;generalize hw':({({w with drawn:=w.drawn+1}:World)with heap:=w.heap.push (.cells (old++new++zz) e)}:World)=w' at hrun
 have hheap:w'.heap=w.heap.push (.cells (old++new++zz) e):=by rw[<-hw']
 have hbelow:Bel w w':=by
  refine .block w.heap.size (by rw[<-hw']) (by rw[<-hw']) (by rw[<-hw']) (by rw[<-hw'];simp) (λb' hb'=>by rw[hheap,alu,if_neg hb']) (by rw[alr (alo _)];exact jy) (by rw[hheap];simp;exact eu _ _)
 have hnew:w'.heap[w.heap.size]? =some (.cells (old++new++zz) e (0,0)):=by rw[hheap];simp
 have hnS:∀j,¬S w.heap.size j:=λj hs=>by have:=eZ (M.imm _ _ hs);omega
 have hval:∀j,j<(cn+dn)*te.size->Rep S w noI (E.get j) ((old++new++zz).getD j undef):=by
  intro j hj;rw[alz];by_cases h:j<cn*te.size
  ·have:=ho.rep j h
   rw[alz]at this;rw[amC (by simp only[ams,ho.size];omega),amC (by rw[ho.size];omega)]
   exact this
  ·have h2:j-cn*te.size<dn*te.size:=by rw[al3]at hj;omega
   have:=hn.rep (j-cn*te.size) h2;rw[alz,show cn*te.size+(j-cn*te.size)=j by omega]at this
   rw[amC (by simp only[ams,ho.size,hn.size];omega),amD (by rw[ho.size];omega),ho.size]
   exact this
 obtain⟨M',le,K',T⟩:=M.gather ks (n:=n) (bn:=w.heap.size) (o':=.rowo E) (X:=λb=>b=w.heap.size) (arrn:=old++new++zz) (en:=e) hks hno rfl (λb=>by simp[AO.has,Ix.setm,eq_comm]) hbelow hnew
  (λb hb _=>by rw[hheap,alu,if_neg qqO]) (.inl (alo _)) hnS (λb hb=>.inl qqO)
  (λhk hl=>⟨w.heap.size,by simp[Ix.setm],old++new++zz,e,hnew,qqO,λj hj=>(hval j qqO).mono hk _ (.refl _),hnS⟩) hH
 refine⟨_,S,w',_,hrun,M',le,K',?_,T⟩;exact .rsc _ _ _ _ _ _ (by simp[Ix.setm]) hcap h1 (λj hj=>by rw[aL hnew,alv qqO];rfl)
theorem K8 (hτ:bC P τ) {t u ty e:TypeId} {tt tu te:TE} (ht:τ t=some tt) (hu:τ u=some tu) (he:τ e=some te) (hd:tt.und=.slice e) {e':TypeId} (hd':tu.und=.slice e') (hby:te.bytes≤65536)
 {H:Hp} {n:Nat} {x:PV} {K:KR} (h:zA te H n x K):
 ∃v sets accs news,K v sets accs news/\∀{S:Imm} {w:World} {ι:Ix} {H':Hp} {vs vx:Value},Mem S w ι H'->Rep S w ι .nils vs->Rep S w ι x vx->(∀k∈accs,av H' k=av H k)->(∀k∈news,av H' k=none)->
  gJ P S w ι H' (Builtin.append_ #[t,u] ty #[vs,vx]) v sets:=by
 unfold zA at h;obtain⟨d,acc,h,hd0⟩:=jF h;simp only[dM,fI,bW,aK,alM]at h;obtain⟨⟨hpos,hbd⟩,⟨e1,e2⟩,hfr,hK⟩:=h;have e1:=alN e1;have e2:=alU e2;refine⟨_,_,_,_,hK,λ{S w ι H' vs vx} M hs hx ha hn=>?_⟩;have hno:=hn n qqS;have hsrc:=hd0 M ha hx;obtain⟨ad,cap,vals,rfl,hrow⟩:=hsrc.row;cases hs
 rw[e1]at hrow e2⊢;have:=EW (ty:=ty) hτ ht hu he hd hd' M [] (λk hk=>by simp at hk) (n:=n) hno (base:=none) (xb:=ad) (cn:=0) (sCap:=0) (dn:=d.cnt) (xc:=cap) qqO qqO hby qqO
  (E:=d) qqO e1 (old:= #[]) ⟨qqS,λj hj=>by simp at hj,λP' w' hw=>rfl⟩ (new:=vals) ⟨hrow.size,λj hj=>by rw[amo,alO];exact hrow.rep j hj,hrow.run⟩
  (sets:=[(n,.rowo d)]) (λk=>by simp only[bE];rw[aW];simp)
 rw[alO]at this;exact this
theorem K9 (hτ:bC P τ) {t u ty e:TypeId} {tt tu te:TE} (ht:τ t=some tt) (hu:τ u=some tu) (he:τ e=some te) (hd:tt.und=.slice e) {e':TypeId} (hd':tu.und=.slice e') (hby:te.bytes≤65536)
 {H:Hp} {n k es m:Nat} {x:PV} {K:KR} (h:zB te H n k es m x K):
 ∃v sets accs news,K v sets accs news/\∀{S:Imm} {w:World} {ι:Ix} {H':Hp} {vs vx:Value},Mem S w ι H'->Rep S w ι (.rsc k es m) vs->Rep S w ι x vx->(∀k∈accs,av H' k=av H k)->(∀k∈news,av H' k=none)->
  gJ P S w ι H' (Builtin.append_ #[t,u] ty #[vs,vx]) v sets:=by
 unfold zB at h;obtain⟨d,acc,hA,hd0⟩:=jF h;clear h;rw[bD]at hA;obtain⟨ob,hob,hC⟩:=hA;split at hC
 ·rename_i c
  simp only[dM,fI,aK,alM]at hC;obtain⟨⟨hcm,hpos,hbd⟩,⟨e0,e1,e2⟩,hD⟩:=hC;have e0:=alN e0;have e1:=alN e1;have e2:=alU e2;obtain⟨hE,hone⟩:=tL hD;obtain⟨E,hF,a1,a2,a3,a4,a5⟩:=oL hE;rw[bW]at hF;obtain⟨hfr,hK⟩:=hF;refine⟨_,_,_,_,hK,λM hs hx ha hn=>?_⟩;rename_i S w ι H' vs vx;have hno:=hn n qqS;have hobj:=(ha k qqS).trans hob;have hsrc:=hd0 M (λk' hk'=>ha k' (by simp[hk'])) hx
  obtain⟨ad,xcap,vals,rfl,hrow⟩:=hsrc.row;have hkn:n≠k:=λe=>by subst e;rw[hobj]at hno;cases hno
  have hts:es=te.size:=qqO;subst hts;have hcn:c.ncell=m*te.size:=by rw[bI,hcm,e0]
  have hdn:d.ncell=d.cnt*te.size:=by rw[bI,a2,e0]
  have hEn:E.ncell=(m+d.cnt)*te.size:=by rw[bI,a3,a1,e0,hcm]
  rw[a2,e0]at hrow;cases hs with
  |rsc _ _ _ _ b cap hkb hcap he0 hrd=>
  obtain⟨b',g1,arr,e9,g2,g3,g4,g5⟩:=M.obj k _ hobj;rw[hkb]at g1;cases g1
  have rowD:Row S w te.size d.cnt (λj=>E.get (m*te.size+j)) (.slice ad d.cnt xcap) vals:=
   ⟨hrow.size,λj hj=>by rw[<-hcn,a5 j qqO];exact hrow.rep j hj,hrow.run⟩
  have hcsz:cap*te.size≤arr.size:=by
   rcases amk (cap*te.size)with h|h
   ·omega
   ·have:=hrd (cap*te.size-1) qqO
    rw[aL g2]at this;rcases alq (cap*te.size-1) arr.size with h1|h1
    ·omega
    ·rw[alr h1]at this;simp at this
  have hsets:∀k',av (bE H' [(k,.cells (.pv []) true),(n,.rowo E)]) k'=if k'=n then some (.rowo E)else if k'∈[k]then some (.cells (.pv []) true)else av H' k':=λk'=>by
   simp only[bE];rw[aW,aW];simp
  have hks:∀k',k'∈[k]->∃o b,av H' k'=some o/\o.excl=true/\o.isTok=false/\ι.o k'=some b:=λk' hk'=>by simp at hk';subst hk';exact⟨_,_,hobj,rfl,rfl,hkb⟩
  by_cases hfit:m+d.cnt≤cap
  ·have hle:(m+d.cnt)*te.size≤cap*te.size:=al2 _ hfit
   have hadd:(m+d.cnt)*te.size=m*te.size+d.cnt*te.size:=al3 _ _ _;have honeV:∀v∈vals.toList,v.oneCell'=true:=by
    intro v hv;obtain⟨i,hi,rfl⟩:=alG hv;have hi':i<d.cnt*te.size:=by rw[<-hrow.size];simpa using hi
    have:=(hrow.rep i hi').oneCell (hone i qqO);simpa [alz,alv (show i<vals.size by simpa using hi)]using this
   obtain⟨w',r1,uu⟩:=bT P vals.toList (o:=m*te.size) (i:=0) g2 honeV (by simp[hrow.size];omega)
   have hput:∀j,(putRow arr (m*te.size+0) vals.toList).getD j undef=if m*te.size≤j/\j<m*te.size+d.cnt*te.size then vals.getD (j-m*te.size) undef else arr.getD j undef:=by
    intro j;rw[fP _ _ _ _ (by simp[hrow.size];omega)]
    simp only[alg,alY,hrow.size];congr 1;simp[alz]
   have hsz':(putRow arr (m*te.size+0) vals.toList).size=arr.size:=cK _ _ _;have hrun:=iy (ty:=ty) (w':=w') hτ ht hu he hd hd' (base:=some ⟨b,0,none⟩) (sLen:=m) (sCap:=cap) hfit (hrow.run P w rfl) (by simpa [fQ]using r1)
   have hval:∀j,j<E.ncell->Rep S w noI (E.get j) ((putRow arr (m*te.size+0) vals.toList).getD j undef):=λj hj=>by
    rw[hput];by_cases hj':j<m*te.size
    ·rw[if_neg qqO,a4 j qqO];exact g4 j qqO
    ·rw[if_pos qqO]
     have:=rowD.rep (j-m*te.size) qqO;rw[show m*te.size+(j-m*te.size)=j by omega]at this
     exact this
   obtain⟨M',le,K',T⟩:=M.gather [k] (n:=n) (bn:=b) (o':=.rowo E) (X:=λb'=>b'=b) (arrn:=putRow arr (m*te.size+0) vals.toList) (en:=e9) hks hno rfl (λb=>by simp[AO.has,Ix.setm,eq_comm]) uu.below uu.here
    (λb' _ hb'=>uu.other b' hb') (.inr ⟨⟨k,_,qqS,hobj,hkb⟩,arr,e9,g2,qqO⟩) g5 (λb' hb'=>.inr ⟨k,_,qqS,hobj,by rw[hb'];exact hkb⟩)
    (λhk hl=>⟨b,by simp[Ix.setm],putRow arr (m*te.size+0) vals.toList,e9,uu.here,qqO,λj hj=>(hval j hj).mono hk _ (.refl _),g5⟩) hsets
   refine⟨_,S,w',_,hrun,M',le,K',?_,T⟩;exact .rsc _ _ _ _ _ _ (by simp[Ix.setm]) hfit he0 (λj hj=>K'.cells _ _ (hrd j hj))
  ·have hsome:∀j,j<m*te.size->(rd w b (0+j)).isSome:=λj hj=>by
    rw[alO];have:=al2 te.size hcap;exact hrd j qqO
   have rowC:Row S w te.size m E.get (.slice (some ⟨b,0,none⟩) m cap) (((alA (m*te.size)).map λj=>rdv w b (0+j)).toArray):=by
    refine⟨qqS,λj hj=>?_,λP' w' hw=>?_⟩
    ·rw[a4 j qqO]
     have:=g4 j qqO;have e:(((alA (m*te.size)).map λj=>rdv w b (0+j)).toArray).getD j undef=arr.getD j undef:=by
      simp only[alz,amv,amE,amF hj,aly,amj,alO];rw[rdv,aL g2]
     rw[e];exact this
    ·have h2:=dx (P:=P') (w:=w') (b:=b) (off:=0) (n:=m) (size:=te.size) (len:=m) (cap:=cap) (λj hj=>by
      have:=hsome j hj;unfold rd at this⊢;rw[hw];exact this)
     rw[h2];congr 2;exact List.map_congr_left λj _=>by unfold rdv rd;rw[hw]
   exact EW (ty:=ty) hτ ht hu he hd hd' M [k] hks (n:=n) hno (base:=some ⟨b,0,none⟩) (xb:=ad) (cn:=m) (sCap:=cap) (dn:=d.cnt) (xc:=xcap) qqO hbd hby he0 qqO qqO rowC rowD hsets
 ·exact hC.elim
theorem Pg (hτ:bC P τ) {t u ty e:TypeId} {tt tu te:TE} (ht:τ t=some tt) (hu:τ u=some tu) (he:τ e=some te) (hd:tt.und=.slice e) {e':TypeId} (hd':tu.und=.slice e') (hby:te.bytes≤65536)
 {H:Hp} {n:Nat} {mu:Bool} {s x:PV} {K:KR} (h:Dp mu te H n s x K):
 ∃v sets accs news,K v sets accs news/\∀{S:Imm} {w:World} {ι:Ix} {H':Hp} {vs vx:Value},Mem S w ι H'->Rep S w ι s vs->Rep S w ι x vx->(∀k∈accs,av H' k=av H k)->(∀k∈news,av H' k=none)->
  gJ P S w ι H' (Builtin.append_ #[t,u] ty #[vs,vx]) v sets:=by
 unfold Dp at h;split at h
 ·exact Pf hτ ht hu he hd hd' hby h
 ·exact K9 hτ ht hu he hd hd' hby h
 ·split at h
  ·split at h
   ·exact Bt hτ ht hu he hd hd' hby h (.inl rfl)
   ·exact K8 hτ ht hu he hd hd' hby h
  ·exact oh hτ ht hu he hd hd' hby h
 ·split at h
  ·split at h
   ·rw[dM]at h
    split at h
    ·rename_i c hc
     exact Bt hτ ht hu he hd hd' hby h (.inr ⟨_,rfl,alN hc⟩)
    ·exact oh hτ ht hu he hd hd' hby h
   ·exact oh hτ ht hu he hd hd' hby h
  ·exact oh hτ ht hu he hd hd' hby h
 ·exact oh hτ ht hu he hd hd' hby h
theorem H9 {H:Hp} {x:PV} {d r q:Nat} {rc:RC} (h:Ho H x=some (d,r,q,rc)):x=.rsl d 0 r/\av H d=some (.pmat q rc):=by
 unfold Ho at h;split at h
 ·split at h
  ·split at h
   ·rename_i o ho
    split at h
    ·cases h;exact⟨rfl,ho⟩
    ·cases h
   ·cases h
  ·cases h
 ·cases h
theorem La {a b:RC} {m:Nat} {K:RC->Prop} (h:OM a m b K):∃c,K c/\a.kin b/\c.kin a/\∀i,c.at i=if i<m then a.at i else b.at (i-m):=by
 unfold OM at h;split at h
 ·split at h
  ·rw[aK]at h
   have e:=of_decide_eq_true h.1;subst e;exact⟨_,h.2,rfl,rfl,λi=>by simp only[RC.at];split<;>rfl⟩
  ·exact h.elim
 ·split at h
  ·rw[aK]at h
   have e:=alN h.1;subst e;exact⟨_,h.2,rfl,rfl,λi=>by simp only[RC.at];split<;>rfl⟩
  ·exact h.elim
 ·exact h.elim
theorem zK {S:Imm} {w:World} {ι:Ix} {H:Hp} (M:Mem S w ι H) {d r b:Nat} {rc:RC} (hd:av H d=some (.pmat r rc)) (hb:ι.o d=some b):
 ∃arr e,w.heap[b]? =some (.cells arr e (0,0))/\r≤arr.size/\∀i,i<r->∃a n cap,rd w b i=some (.slice a n cap):=by
 obtain⟨all,l,rc',⟨b0,arr,e,p1,p2,p3,p4,p5,p6,p7,p8⟩,pk,pl,pn,pall,pa⟩:=M.obj d _ hd;rw[hb]at p1;cases p1
 refine⟨arr,e,p2,qqO,λi hi=>?_⟩;obtain⟨g1,cap,g2,g3⟩:=p8 i qqO;have e2:rd w b i=some (.slice (some ⟨l.getD i 0,0,none⟩) (rc'.at (l.getD i 0)).cnt cap):=by
  rw[aL p2,alv qqO,<-g3,alz,alv qqO];rfl
 exact⟨_,_,_,e2⟩
theorem mq (hτ:bC P τ) {e:TypeId} {te:TE} (he:τ e=some te) (h1:te.size=1) (n:Nat):(Builtin.zeroCells te.zero.cells n).size=n:=by
 have:=hτ.zsz _ _ he;simp[Builtin.zeroCells,this,h1]
theorem Ph {H:Hp} {x:PV} {d r q:Nat} {f:Nat->Nat} {c:Nat->CL} (h:Xa H x=some (d,r,q,f,c)):x=.rsl d 0 r/\av H d=some (.qmat q f c):=by
 unfold Xa at h;split at h
 ·split at h
  ·split at h
   ·rename_i o ho
    split at h
    ·cases h;exact⟨rfl,ho⟩
    ·cases h
   ·cases h
  ·cases h
 ·cases h
theorem Ia {S:Imm} {w:World} {ι:Ix} {H:Hp} (M:Mem S w ι H) {d r b:Nat} {f:Nat->Nat} {c:Nat->CL} (hd:av H d=some (.qmat r f c)) (hb:ι.o d=some b):
 ∃arr e,w.heap[b]? =some (.cells arr e (0,0))/\r≤arr.size/\∀i,i<r->∃v,rd w b i=some v/\(f i=1∨f i=2->v.oneCell'=true):=by
 obtain⟨b0,arr,e,l,p1,p2,p3,p4,p5,p6,p7,p8⟩:=M.obj d _ hd;rw[hb]at p1;cases p1
 refine⟨arr,e,p2,p3,λi hi=>?_⟩;have e1:rd w b i=some (arr.getD i undef):=by rw[aL p2,alv qqO,alz,alv qqO];rfl
 refine⟨_,e1,λhf=>?_⟩;rcases hf with hf|hf
 ·rw[p7 i hi hf];rfl
 ·obtain⟨_,_,_,cap,_,_,g⟩:=p6 i hi hf
  rw[g];rfl
theorem Pj (hτ:bC P τ) {t u ty e:TypeId} {tt tu te:TE} (ht:τ t=some tt) (hu:τ u=some tu) (he:τ e=some te) (hd:tt.und=.slice e) {e':TypeId} (hd':tu.und=.slice e') (hby:te.bytes≤65536)
 {H:Hp} {n:Nat} {s:PV} {d r q:Nat} {f:Nat->Nat} {c:Nat->CL} {K:KR} (hdq:av H d=some (.qmat q f c)) (h:Dn te H n s d r q f c K):
 ∃v sets accs news,K v sets accs news/\∀{S:Imm} {w:World} {ι:Ix} {H':Hp} {vs vx:Value},Mem S w ι H'->Rep S w ι s vs->Rep S w ι (.rsl d 0 r) vx->(∀k∈accs,av H' k=av H k)->(∀k∈news,av H' k=none)->
  gJ P S w ι H' (Builtin.append_ #[t,u] ty #[vs,vx]) v sets:=by
 have src:∀{S:Imm} {w:World} {ι:Ix} {H':Hp} {vx:Value},Mem S w ι H'->av H' d=some (.qmat r f c)->0<r->Rep S w ι (.rsl d 0 r) vx->∃bd xc,vx=.slice (some ⟨bd,0,none⟩) r xc/\ι.o d=some bd/\
  (∀j,j<r*1->(rd w bd (0+j)).isSome)/\∀i,i<r->∃v,rd w bd i=some v/\(f i=1∨f i=2->v.oneCell'=true):=by
  intro S w ι H' vx M hg hr0 hx;cases hx with
  |rslz=>omega
  |rsl _ _ _ _ b cap hk hc hr=>
   obtain⟨arr,e1,q1,q2,q3⟩:=Ia M hg hk;exact⟨b,cap,rfl,hk,λj hj=>by obtain⟨v,h,_⟩:=q3 (0+j) qqO;rw[h];rfl,q3⟩
 unfold Dn at h;split at h
 ·rw[aK,bW]at h
  obtain⟨⟨hrq,hr0,hbd⟩,h1,hfr,hK⟩:=h;have h1:=alN h1;subst hrq;refine⟨_,_,_,_,hK,λM hs hx ha hn=>?_⟩;rename_i S w ι H' vs vx;have hno:=hn n qqS;have hg:=(ha d qqS).trans hdq;obtain⟨bd,xc,rfl,hbdk,hsome,hsl⟩:=src M hg hr0 hx;cases hs
  obtain⟨cap',hcap,hrun⟩:=run_append_grow (ty:=ty) hτ ht hu he hd hd' (w:=w) (base:=none) (sLen:=0) (sCap:=0) (n:=r) (xb:=some ⟨bd,0,none⟩) (xc:=xc) qqO qqO hby
   (old:= #[]) (by simp[Builtin.firstCells]) (by rw[h1];exact dx (P:=P) (w:={w with drawn:=w.drawn+1}) (b:=bd) (off:=0) (n:=r) (size:=1) (len:=r) (cap:=xc) hsome)
  generalize hzz:Builtin.zeroCells te.zero.cells (cap'-(0+r))=zz at hrun
  have hzs:zz.size=cap'-r:=by rw[<-hzz,mq hτ he h1];omega
  generalize hnw:(((alA (r*1)).map λj=>rdv {w with drawn:=w.drawn+1} bd (0+j)).toArray)=nw at hrun
  have hns:nw.size=r:=by rw[<-hnw];simp
  generalize hw':({({w with drawn:=w.drawn+1}:World)with heap:=w.heap.push (.cells (#[]++nw++zz) e)}:World)=w' at hrun
  have hheap:w'.heap=w.heap.push (.cells (#[]++nw++zz) e):=by rw[<-hw']
  have hbelow:Bel w w':=by
   refine .block w.heap.size (by rw[<-hw']) (by rw[<-hw']) (by rw[<-hw']) (by rw[<-hw'];simp) (λb' hb'=>by rw[hheap,alu,if_neg hb']) (by rw[alr (alo _)];exact jy) (by rw[hheap];simp;exact eu _ _)
  have hat:w'.heap[w.heap.size]? =some (.cells (#[]++nw++zz) e (0,0)):=by rw[hheap];simp
  have hasz:(#[]++nw++zz).size=cap':=by simp[hns,hzs];omega
  obtain⟨X,M',le,K',T⟩:=M.qNew hg hno hbdk hbelow hat (λb hb=>by rw[hheap,alu,if_neg qqO]) qqO (λi hi=>by
   obtain⟨v2,hrd,_⟩:=hsl i hi;rw[alz,amC (by simp[hns];exact hi),amG,<-hnw]
   simp only[amv,amE];rw[amF qqO];simp only[aly,amj,alO];show some (rdv w bd i)=_;rw[rdv,hrd];rfl)
  have hio:(ι.setm n w.heap.size X).o n=some w.heap.size:=by simp[Ix.setm]
  rw[alO]at hrun hcap;exact⟨_,S,w',_,hrun,M',le,K',.rsl _ _ _ _ _ _ hio hcap (λ_ j hj=>by rw[aL hat,alv qqO];rfl),T⟩
 ·rename_i k off m
  rw[bD]at h;obtain⟨ob,hob,h⟩:=h;split at h
  ·rename_i m' f0 c0
   rw[aK]at h;simp only[alM,ama]at h;obtain⟨⟨rfl,hrq,hr0,hbd,hf12⟩,⟨⟨h1,e0⟩,hkd⟩,h⟩:=h;have h1:=alN h1;have e0:=alN e0;subst hrq;subst e0;have hkd:k≠d:=λe=>by subst e;simp at hkd
   rw[bW]at h;refine⟨_,_,_,_,h.2,λM hs hx ha hn=>?_⟩;rename_i S w ι H' vs vx;have hno:=hn n qqS;have hg:=(ha d qqS).trans hdq;have hgk:=(ha k qqS).trans hob;obtain⟨bd,xc,rfl,hbdk,hsome,hsl⟩:=src M hg hr0 hx;have hk0:∃b o cap,vs=.slice (some ⟨b,o,none⟩) m cap/\ι.o k=some b/\(m+r≤cap->o=0/\∀j,j<cap->(rd w b j).isSome)/\∀j,j<m*1->(rd w b (o+j)).isSome:=by
    cases hs with
    |rslz _ _ _ b o hk=>exact⟨b,o,0,rfl,hk,λh=>qqO,λj hj=>qqO⟩
    |rsl _ _ _ _ b cap hk hc hr=>
     obtain⟨arr,e1,q1,q2,q3⟩:=Ia M hgk hk;exact⟨b,0,cap,rfl,hk,λ_=>⟨rfl,hr rfl⟩,λj hj=>by obtain⟨v,h,_⟩:=q3 (0+j) qqO;rw[h];rfl⟩
   obtain⟨b0,o0,cap,rfl,hb0,hfitc,holds⟩:=hk0;obtain⟨arr0,e1,q1,q2,q3⟩:=Ia M hgk hb0;by_cases hfit:m+r≤cap
   ·obtain⟨rfl,hrd⟩:=hfitc hfit
    have hcap:cap≤arr0.size:=by
     have:=hrd (cap-1) qqO;rw[aL q1]at this;rcases alq (cap-1) arr0.size with h1|h1
     ·omega
     ·rw[alr h1]at this;simp at this
    generalize hnw:(((alA (r*1)).map λj=>rdv w bd (0+j)).toArray)=nw
    have hns:nw.size=r:=by rw[<-hnw];simp
    have hnv:∀i,i<r->some (nw.getD i undef)=rd w bd i:=λi hi=>by
     obtain⟨v2,hrd2,_⟩:=hsl i hi;rw[<-hnw,alz];simp only[amv,amE];rw[amF qqO];simp only[aly,amj,alO];rw[rdv,hrd2];rfl
    have honeV:∀v∈nw.toList,v.oneCell'=true:=by
     intro v hv;obtain⟨i,hi,rfl⟩:=alG hv;have hi':i<r:=by simpa [hns]using hi
     obtain⟨v2,hrd2,h12⟩:=hsl i hi';have:=hnv i hi';rw[hrd2,alz,alv qqO]at this;simp only[amj,Option.some.injEq]at this;simp only[amH];rw[this];exact h12 (hf12 i hi')
    obtain⟨w',r1,uu⟩:=bT P nw.toList (b:=b0) (o:=m) (i:=0) q1 honeV (by simp[hns];omega)
    have hput:∀j,(putRow arr0 (m+0) nw.toList).getD j undef=if m≤j/\j<m+r then nw.getD (j-m) undef else arr0.getD j undef:=by
     intro j;rw[fP _ _ _ _ (by simp[hns];omega)]
     simp only[alg,alY,hns];congr 1;simp[alz]
    have hrun:=iy (ty:=ty) (w':=w') hτ ht hu he hd hd' (base:=some ⟨b0,0,none⟩) (sLen:=m) (sCap:=cap) (n:=r) (xb:=some ⟨bd,0,none⟩) (xc:=xc) hfit (new:=nw)
     (by rw[h1,<-hnw];exact dx (P:=P) (w:=w) (b:=bd) (off:=0) (n:=r) (size:=1) (len:=r) (cap:=xc) hsome) (by rw[h1];simpa [fQ]using r1)
    have hsz':(putRow arr0 (m+0) nw.toList).size=arr0.size:=cK _ _ _;obtain⟨X,M',le,K',T⟩:=M.qApp (bn:=b0) hgk hg hno hkd hb0 hbdk uu.below uu.here (λb _ hb=>uu.other b hb) (.inr ⟨rfl,arr0,e1,q1,qqO⟩) qqO (λi hi=>by
     rw[hput,if_neg qqO,aL q1,alz,alv qqO];rfl) (λi hi=>by
     rw[hput,if_pos qqO,show m+i-m=i by omega];exact hnv i hi)
    have hio:(ι.setm n b0 X).o n=some b0:=by simp[Ix.setm]
    exact⟨_,S,w',_,hrun,M',le,K',.rsl _ _ _ _ _ _ hio hfit (λ_ j hj=>by rw[aL uu.here,alv qqO];rfl),T⟩
   ·obtain⟨cap',hcap,hrun⟩:=run_append_grow (ty:=ty) hτ ht hu he hd hd' (w:=w) (base:=some ⟨b0,o0,none⟩) (sLen:=m) (sCap:=cap) (n:=r) (xb:=some ⟨bd,0,none⟩) (xc:=xc) qqO qqO hby
     (by rw[h1];exact dx (P:=P) (w:={w with drawn:=w.drawn+1}) (b:=b0) (off:=o0) (n:=m) (size:=1) (len:=m) (cap:=cap) holds)
     (by rw[h1];exact dx (P:=P) (w:={w with drawn:=w.drawn+1}) (b:=bd) (off:=0) (n:=r) (size:=1) (len:=r) (cap:=xc) hsome)
    generalize hzz:Builtin.zeroCells te.zero.cells (cap'-(m+r))=zz at hrun
    have hzs:zz.size=cap'-(m+r):=by rw[<-hzz,mq hτ he h1]
    generalize hod:(((alA (m*1)).map λj=>rdv {w with drawn:=w.drawn+1} b0 (o0+j)).toArray)=od at hrun
    generalize hnw:(((alA (r*1)).map λj=>rdv {w with drawn:=w.drawn+1} bd (0+j)).toArray)=nw at hrun
    have hos:od.size=m:=by rw[<-hod];simp
    have hns:nw.size=r:=by rw[<-hnw];simp
    have ho0:∀i,i<m->o0=0:=λi hi=>by
     cases hs with
     |rslz=>omega
     |rsl=>rfl
    generalize hw':({({w with drawn:=w.drawn+1}:World)with heap:=w.heap.push (.cells (od++nw++zz) e)}:World)=w' at hrun
    have hheap:w'.heap=w.heap.push (.cells (od++nw++zz) e):=by rw[<-hw']
    have hbelow:Bel w w':=by
     refine .block w.heap.size (by rw[<-hw']) (by rw[<-hw']) (by rw[<-hw']) (by rw[<-hw'];simp) (λb' hb'=>by rw[hheap,alu,if_neg hb']) (by rw[alr (alo _)];exact jy) (by rw[hheap];simp;exact eu _ _)
    have hat:w'.heap[w.heap.size]? =some (.cells (od++nw++zz) e (0,0)):=by rw[hheap];simp
    have hasz:(od++nw++zz).size=cap':=by simp only[ams,hos,hns,hzs];omega
    obtain⟨X,M',le,K',T⟩:=M.qApp (bn:=w.heap.size) hgk hg hno hkd hb0 hbdk hbelow hat (λb hb _=>by rw[hheap,alu,if_neg qqO]) (.inl rfl) qqO (λi hi=>by
     obtain⟨v2,hrd,_⟩:=q3 i hi;rw[alz,amC (by simp only[ams,hos];omega),amC qqO,<-hod]
     simp only[amv,amE];rw[amF qqO];simp only[aly,amj,ho0 i hi,alO];show some (rdv w b0 i)=_;rw[rdv,hrd];rfl) (λi hi=>by
     obtain⟨v2,hrd,_⟩:=hsl i hi;rw[alz,amC (by simp only[ams,hos,hns];omega),amD qqO,hos,show m+i-m=i by omega,<-hnw]
     simp only[amv,amE];rw[amF qqO];simp only[aly,amj,alO];show some (rdv w bd i)=_;rw[rdv,hrd];rfl)
    have hio:(ι.setm n w.heap.size X).o n=some w.heap.size:=by simp[Ix.setm]
    exact⟨_,S,w',_,hrun,M',le,K',.rsl _ _ _ _ _ _ hio hcap (λ_ j hj=>by rw[aL hat,alv qqO];rfl),T⟩
  ·exact h.elim
 ·exact h.elim
theorem Pk (hτ:bC P τ) {t u ty e:TypeId} {tt tu te:TE} (ht:τ t=some tt) (hu:τ u=some tu) (he:τ e=some te) (hd:tt.und=.slice e) {e':TypeId} (hd':tu.und=.slice e') (hby:te.bytes≤65536)
 {H:Hp} {n:Nat} {mu:Bool} {s x:PV} {K:KR} (h:Dq mu te H n s x K):
 ∃v sets accs news,K v sets accs news/\∀{S:Imm} {w:World} {ι:Ix} {H':Hp} {vs vx:Value},Mem S w ι H'->Rep S w ι s vs->Rep S w ι x vx->(∀k∈accs,av H' k=av H k)->(∀k∈news,av H' k=none)->
  gJ P S w ι H' (Builtin.append_ #[t,u] ty #[vs,vx]) v sets:=by
 unfold Dq at h;split at h
 ·rename_i d r q rc hsrc
  obtain⟨rfl,hdq⟩:=H9 hsrc;have src:∀{S:Imm} {w:World} {ι:Ix} {H':Hp} {vx:Value},Mem S w ι H'->av H' d=some (.pmat r rc)->0<r->Rep S w ι (.rsl d 0 r) vx->∃bd xc,vx=.slice (some ⟨bd,0,none⟩) r xc/\ι.o d=some bd/\
   (∀j,j<r*1->(rd w bd (0+j)).isSome)/\∀i,i<r->∃a n cap,rd w bd i=some (.slice a n cap):=by
   intro S w ι H' vx M hg hr0 hx;cases hx with
   |rslz=>omega
   |rsl _ _ _ _ b cap hk hc hr=>
    obtain⟨arr,e1,q1,q2,q3⟩:=zK M hg hk;exact⟨b,cap,rfl,hk,λj hj=>by obtain⟨a,n,c,h⟩:=q3 (0+j) qqO;rw[h];rfl,q3⟩
  unfold Mf at h;split at h
  ·rw[aK,bW]at h
   obtain⟨⟨hrq,hr0,hbd⟩,h1,hfr,hK⟩:=h;have h1:=alN h1;subst hrq;refine⟨_,_,_,_,hK,λM hs hx ha hn=>?_⟩;rename_i S w ι H' vs vx;have hno:=hn n qqS;have hg:=(ha d qqS).trans hdq;obtain⟨bd,xc,rfl,hbdk,hsome,hsl⟩:=src M hg hr0 hx;cases hs
   obtain⟨cap',hcap,hrun⟩:=run_append_grow (ty:=ty) hτ ht hu he hd hd' (w:=w) (base:=none) (sLen:=0) (sCap:=0) (n:=r) (xb:=some ⟨bd,0,none⟩) (xc:=xc) qqO qqO hby
    (old:= #[]) (by simp[Builtin.firstCells]) (by rw[h1];exact dx (P:=P) (w:={w with drawn:=w.drawn+1}) (b:=bd) (off:=0) (n:=r) (size:=1) (len:=r) (cap:=xc) hsome)
   generalize hzz:Builtin.zeroCells te.zero.cells (cap'-(0+r))=zz at hrun
   have hzs:zz.size=cap'-r:=by rw[<-hzz,mq hτ he h1];omega
   generalize hnw:(((alA (r*1)).map λj=>rdv {w with drawn:=w.drawn+1} bd (0+j)).toArray)=nw at hrun
   have hns:nw.size=r:=by rw[<-hnw];simp
   generalize hw':({({w with drawn:=w.drawn+1}:World)with heap:=w.heap.push (.cells (#[]++nw++zz) e)}:World)=w' at hrun
   have hheap:w'.heap=w.heap.push (.cells (#[]++nw++zz) e):=by rw[<-hw']
   have hbelow:Bel w w':=by
    refine .block w.heap.size (by rw[<-hw']) (by rw[<-hw']) (by rw[<-hw']) (by rw[<-hw'];simp) (λb' hb'=>by rw[hheap,alu,if_neg hb']) (by rw[alr (alo _)];exact jy) (by rw[hheap];simp;exact eu _ _)
   have hat:w'.heap[w.heap.size]? =some (.cells (#[]++nw++zz) e (0,0)):=by rw[hheap];simp
   have hasz:(#[]++nw++zz).size=cap':=by simp[hns,hzs];omega
   obtain⟨X,M',le,K',T⟩:=M.matNew hg hno hbdk hbelow hat (λb hb=>by rw[hheap,alu,if_neg qqO]) qqO (λi hi=>by
    obtain⟨a,n2,c2,hrd⟩:=hsl i hi;rw[alz,amC (by simp[hns];exact hi),amG,<-hnw]
    simp only[amv,amE];rw[amF qqO];simp only[aly,amj,alO];show some (rdv w bd i)=_;rw[rdv,hrd];rfl)
   have hio:(ι.setm n w.heap.size X).o n=some w.heap.size:=by simp[Ix.setm]
   rw[alO]at hrun hcap;exact⟨_,S,w',_,hrun,M',le,K',.rsl _ _ _ _ _ _ hio hcap (λ_ j hj=>by rw[aL hat,alv qqO];rfl),T⟩
  ·rename_i k off m
   rw[bD]at h;obtain⟨ob,hob,h⟩:=h;split at h
   ·rename_i m' rc0
    rw[aK]at h;simp only[alM,ama]at h;obtain⟨⟨rfl,hrq,hr0,hbd⟩,⟨⟨h1,e0⟩,hkd⟩,h⟩:=h;have h1:=alN h1;have e0:=alN e0;subst hrq;subst e0;have hkd:k≠d:=λe=>by subst e;simp at hkd
    obtain⟨rc2,h,hkin,hkin2,hrc2⟩:=La h;rw[bW]at h;refine⟨_,_,_,_,h.2,λM hs hx ha hn=>?_⟩;rename_i S w ι H' vs vx;have hno:=hn n qqS;have hg:=(ha d qqS).trans hdq;have hgk:=(ha k qqS).trans hob;obtain⟨bd,xc,rfl,hbdk,hsome,hsl⟩:=src M hg hr0 hx;have hk0:∃b o cap,vs=.slice (some ⟨b,o,none⟩) m cap/\ι.o k=some b/\(m+r≤cap->o=0/\∀j,j<cap->(rd w b j).isSome)/\∀j,j<m*1->(rd w b (o+j)).isSome:=by
     cases hs with
     |rslz _ _ _ b o hk=>exact⟨b,o,0,rfl,hk,λh=>qqO,λj hj=>qqO⟩
     |rsl _ _ _ _ b cap hk hc hr=>
      obtain⟨arr,e1,q1,q2,q3⟩:=zK M hgk hk;exact⟨b,0,cap,rfl,hk,λ_=>⟨rfl,hr rfl⟩,λj hj=>by obtain⟨a,n,c,h⟩:=q3 (0+j) qqO;rw[h];rfl⟩
    obtain⟨b0,o0,cap,rfl,hb0,hfitc,holds⟩:=hk0;obtain⟨arr0,e1,q1,q2,q3⟩:=zK M hgk hb0;by_cases hfit:m+r≤cap
    ·obtain⟨rfl,hrd⟩:=hfitc hfit
     have hcap:cap≤arr0.size:=by
      have:=hrd (cap-1) qqO;rw[aL q1]at this;rcases alq (cap-1) arr0.size with h1|h1
      ·omega
      ·rw[alr h1]at this;simp at this
     generalize hnw:(((alA (r*1)).map λj=>rdv w bd (0+j)).toArray)=nw
     have hns:nw.size=r:=by rw[<-hnw];simp
     have hnv:∀i,i<r->some (nw.getD i undef)=rd w bd i:=λi hi=>by
      obtain⟨a,n2,c2,hrd2⟩:=hsl i hi;rw[<-hnw,alz];simp only[amv,amE];rw[amF qqO];simp only[aly,amj,alO];rw[rdv,hrd2];rfl
     have honeV:∀v∈nw.toList,v.oneCell'=true:=by
      intro v hv;obtain⟨i,hi,rfl⟩:=alG hv;have hi':i<r:=by simpa [hns]using hi
      obtain⟨a,n2,c2,hrd2⟩:=hsl i hi';have:=hnv i hi';rw[hrd2,alz,alv qqO]at this;simp only[amj,Option.some.injEq]at this;simp only[amH];rw[this];rfl
     obtain⟨w',r1,uu⟩:=bT P nw.toList (b:=b0) (o:=m) (i:=0) q1 honeV (by simp[hns];omega)
     have hput:∀j,(putRow arr0 (m+0) nw.toList).getD j undef=if m≤j/\j<m+r then nw.getD (j-m) undef else arr0.getD j undef:=by
      intro j;rw[fP _ _ _ _ (by simp[hns];omega)]
      simp only[alg,alY,hns];congr 1;simp[alz]
     have hrun:=iy (ty:=ty) (w':=w') hτ ht hu he hd hd' (base:=some ⟨b0,0,none⟩) (sLen:=m) (sCap:=cap) (n:=r) (xb:=some ⟨bd,0,none⟩) (xc:=xc) hfit (new:=nw)
      (by rw[h1,<-hnw];exact dx (P:=P) (w:=w) (b:=bd) (off:=0) (n:=r) (size:=1) (len:=r) (cap:=xc) hsome) (by rw[h1];simpa [fQ]using r1)
     have hsz':(putRow arr0 (m+0) nw.toList).size=arr0.size:=cK _ _ _;obtain⟨X,M',le,K',T⟩:=M.matApp (bn:=b0) hgk hg hno hkd hb0 hbdk hkin hkin2 hrc2 uu.below uu.here (λb _ hb=>uu.other b hb) (.inr ⟨rfl,arr0,e1,q1,qqO⟩) qqO (λi hi=>by
      rw[hput,if_neg qqO,aL q1,alz,alv qqO];rfl) (λi hi=>by
      rw[hput,if_pos qqO,show m+i-m=i by omega];exact hnv i hi)
     have hio:(ι.setm n b0 X).o n=some b0:=by simp[Ix.setm]
     exact⟨_,S,w',_,hrun,M',le,K',.rsl _ _ _ _ _ _ hio hfit (λ_ j hj=>by rw[aL uu.here,alv qqO];rfl),T⟩
    ·obtain⟨cap',hcap,hrun⟩:=run_append_grow (ty:=ty) hτ ht hu he hd hd' (w:=w) (base:=some ⟨b0,o0,none⟩) (sLen:=m) (sCap:=cap) (n:=r) (xb:=some ⟨bd,0,none⟩) (xc:=xc) qqO qqO hby
      (by rw[h1];exact dx (P:=P) (w:={w with drawn:=w.drawn+1}) (b:=b0) (off:=o0) (n:=m) (size:=1) (len:=m) (cap:=cap) holds)
      (by rw[h1];exact dx (P:=P) (w:={w with drawn:=w.drawn+1}) (b:=bd) (off:=0) (n:=r) (size:=1) (len:=r) (cap:=xc) hsome)
     generalize hzz:Builtin.zeroCells te.zero.cells (cap'-(m+r))=zz at hrun
     have hzs:zz.size=cap'-(m+r):=by rw[<-hzz,mq hτ he h1]
     generalize hod:(((alA (m*1)).map λj=>rdv {w with drawn:=w.drawn+1} b0 (o0+j)).toArray)=od at hrun
     generalize hnw:(((alA (r*1)).map λj=>rdv {w with drawn:=w.drawn+1} bd (0+j)).toArray)=nw at hrun
     have hos:od.size=m:=by rw[<-hod];simp
     have hns:nw.size=r:=by rw[<-hnw];simp
     have ho0:∀i,i<m->o0=0:=λi hi=>by
      cases hs with
      |rslz=>omega
      |rsl=>rfl
     generalize hw':({({w with drawn:=w.drawn+1}:World)with heap:=w.heap.push (.cells (od++nw++zz) e)}:World)=w' at hrun
     have hheap:w'.heap=w.heap.push (.cells (od++nw++zz) e):=by rw[<-hw']
     have hbelow:Bel w w':=by
      refine .block w.heap.size (by rw[<-hw']) (by rw[<-hw']) (by rw[<-hw']) (by rw[<-hw'];simp) (λb' hb'=>by rw[hheap,alu,if_neg hb']) (by rw[alr (alo _)];exact jy) (by rw[hheap];simp;exact eu _ _)
     have hat:w'.heap[w.heap.size]? =some (.cells (od++nw++zz) e (0,0)):=by rw[hheap];simp
     have hasz:(od++nw++zz).size=cap':=by simp only[ams,hos,hns,hzs];omega
     obtain⟨X,M',le,K',T⟩:=M.matApp (bn:=w.heap.size) hgk hg hno hkd hb0 hbdk hkin hkin2 hrc2 hbelow hat (λb hb _=>by rw[hheap,alu,if_neg qqO]) (.inl rfl) qqO (λi hi=>by
      obtain⟨a,n2,c2,hrd⟩:=q3 i hi;rw[alz,amC (by simp only[ams,hos];omega),amC qqO,<-hod]
      simp only[amv,amE];rw[amF qqO];simp only[aly,amj,ho0 i hi,alO];show some (rdv w b0 i)=_;rw[rdv,hrd];rfl) (λi hi=>by
      obtain⟨a,n2,c2,hrd⟩:=hsl i hi;rw[alz,amC (by simp only[ams,hos,hns];omega),amD qqO,hos,show m+i-m=i by omega,<-hnw]
      simp only[amv,amE];rw[amF qqO];simp only[aly,amj,alO];show some (rdv w bd i)=_;rw[rdv,hrd];rfl)
     have hio:(ι.setm n w.heap.size X).o n=some w.heap.size:=by simp[Ix.setm]
     exact⟨_,S,w',_,hrun,M',le,K',.rsl _ _ _ _ _ _ hio hcap (λ_ j hj=>by rw[aL hat,alv qqO];rfl),T⟩
   ·exact h.elim
  ·exact h.elim
 ·split at h
  ·rename_i d r q f c hsrc
   obtain⟨rfl,hdq⟩:=Ph hsrc;exact Pj hτ ht hu he hd hd' hby hdq h
  ·exact Pg hτ ht hu he hd hd' hby h
theorem EX {z:Value} {n:Nat} {K:CL->Prop} (h:mkK z n K):z.cells= #[z]/\∃d,K d/\d.cnt=n/\d.esz=1/\∀j,j<n->∀{S:Imm} {w:World} {ι:Ix},Rep S w ι (d.get j) z:=by
 unfold mkK at h;split at h
 ·exact⟨rfl,_,h,by simp[CL.cnt],rfl,λj hj S w ι=>by simp only[CL.get,alC,amI,if_pos hj,amj];constructor⟩
 ·exact⟨rfl,_,h,by simp[CL.cnt],rfl,λj hj S w ι=>by simp only[CL.get,alC,amI,if_pos hj,amj];constructor⟩
 ·exact⟨rfl,_,h,by simp[CL.cnt],rfl,λj hj S w ι=>by simp only[CL.get,alC,amI,if_pos hj,amj];constructor⟩
 ·exact⟨rfl,_,h,by simp[CL.cnt],rfl,λj hj S w ι=>by simp only[CL.get,alC,amI,if_pos hj,amj];exact .islnil _ _ _ rfl⟩
 ·exact h.elim
theorem Pn (hτ:bC P τ) {t u ty e:TypeId} {tt tu te:TE} (ht:τ t=some tt) (hu:τ u=some tu) (he:τ e=some te) (hd:tt.und=.slice e) {q:IntKind} (hd':tu.und=.int q)
 {H:Hp} {n:Nat} {s x:PV} {K:KR} (h:Dr te H n s x K):
 ∃v sets accs news,K v sets accs news/\∀{S:Imm} {w:World} {ι:Ix} {H':Hp} {vs vx:Value},Mem S w ι H'->Rep S w ι s vs->Rep S w ι x vx->(∀k∈accs,av H' k=av H k)->(∀k∈news,av H' k=none)->
  gJ P S w ι H' (Builtin.append_ #[t,u] ty #[vs,vx]) v sets:=by
 unfold Dr at h;split at h
 ·split at h
  ·rename_i m
   simp only[bW,aK,alM]at h;obtain⟨hm,⟨e1,e2⟩,hfr,h⟩:=h;have e1:=alN e1;have e2:=alU e2;obtain⟨zc,d,hK,d1,d2,d3⟩:=EX h;refine⟨_,_,_,_,hK,λ{S w ι H'} {vs vx} M hs hx ha hn=>?_⟩;have hno:=hn n qqS;cases hs
   cases hx
   obtain⟨m',rfl⟩:∃m':Nat,m=m':=⟨m.toNat,qqO⟩;simp only[Int.toNat_natCast]at d1 d3⊢;obtain⟨cap',hcap,hrun⟩:=Bq (P:=P) (ty:=ty) (w:=w) hτ ht hu he hd hd' (n:=m') qqO e2 e1;have hEn:d.ncell=m':=by rw[bI,d1,d2,alV]
   have hzs:∀j,(Builtin.zeroCells te.zero.cells j).size=j:=mq hτ he e1;generalize hzz:Builtin.zeroCells te.zero.cells (cap'-m')=zz at hrun
   have hzl:zz.size=cap'-m':=by rw[<-hzz];exact hzs _
   have hsz:(#[]++Builtin.zeroCells te.zero.cells m'++zz).size=cap':=by
    simp only[ams,hzs,hzl];simp;omega
   generalize hw':({({w with drawn:=w.drawn+1}:World)with heap:=w.heap.push (.cells (#[]++Builtin.zeroCells te.zero.cells m'++zz) e)}:World)=w' at hrun
   have hheap:w'.heap=w.heap.push (.cells (#[]++Builtin.zeroCells te.zero.cells m'++zz) e):=by rw[<-hw']
   have hbelow:Bel w w':=by
    refine .block w.heap.size (by rw[<-hw']) (by rw[<-hw']) (by rw[<-hw']) (by rw[<-hw'];simp) (λb' hb'=>by rw[hheap,alu,if_neg hb']) (by rw[alr (alo _)];exact jy) (by rw[hheap];simp;exact eu _ _)
   obtain⟨M',K',T⟩:=M.new' hno (c:=d) hheap hbelow qqO (λj hj=>by
    rw[hEn]at hj;have hg:(#[]++Builtin.zeroCells te.zero.cells m'++zz).getD j undef=te.zero:=by
     rw[alz,amC (by simp only[ams,hzs];simp;exact hj),amG]
     unfold Builtin.zeroCells;rw[Array.getElem?_map,zc];simp[hj];rw[amc];rfl
    rw[hg];exact d3 j hj)
   refine⟨_,S,w',_,hrun,M',jS (M.none_o hno),K',?_,T⟩;exact .rsl _ _ _ _ _ _ (by simp[Ix.seto]) hcap (λ_ j hj=>by
    rw[aL (arr:= #[]++Builtin.zeroCells te.zero.cells m'++zz) (e:=e) (f:=(0,0)) (by rw[hheap];simp),alv (by rw[hsz];exact hj)];rfl)
  ·exact h.elim
 ·exact h.elim
theorem zl {α:Type} (xs ys:List α) (off so q:Nat) (d:α) (h1:off+q≤xs.length) (h2:so+q≤ys.length) (j:Nat):
 (xs.take off++((ys.drop so).take q++xs.drop (off+q))).getD j d=if off≤j/\j<off+q then ys.getD (so+(j-off)) d else xs.getD j d:=by
 simp only[alC,List.getElem?_append,amh,amJ,List.getElem?_take,amK];have e1:min off xs.length=off:=qqO;have e2:min q (ys.length-so)=q:=qqO;rw[e1,e2];by_cases a:j<off
 ·rw[if_pos a,if_pos a,if_neg qqO]
 ·rw[if_neg a]
  by_cases b:j-off<q
  ·rw[if_pos b,if_pos b,if_pos qqO]
  ·rw[if_neg b,if_neg qqO,show off+q+(j-off-q)=j by omega]
theorem Bu {α:Type} (xs ys:List α) (off so q:Nat) (h1:off+q≤xs.length) (h2:so+q≤ys.length):
 (xs.take off++((ys.drop so).take q++xs.drop (off+q))).length=xs.length:=by
 simp only[amL,amh,amJ];omega
theorem Po {es:Nat} {c e:CL} {off so q:Nat} {K:CL->Prop} (h:Xb es c e off so q K):
 ∃c',K c'/\c'.ncell=c.ncell/\off+q*es≤c.ncell/\so+q*es≤e.ncell/\(∀j,j<q*es->one (e.get (so+j))=true)/\
  ∀j,j<c.ncell->c'.get j=if off≤j/\j<off+q*es then e.get (so+(j-off))else c.get j:=by
 unfold Xb at h;split at h
 ·rename_i k xs
  split at h
  ·rename_i k' ys
   obtain⟨⟨h1,h2⟩,h⟩:=h;rw[aK,alM]at h;obtain⟨⟨g1,g2⟩,h⟩:=h;have g1:=of_decide_eq_true g1;have g2:=alN g2;subst g1 g2;refine⟨_,h,?_,by simpa [CL.ncell]using h1,by simpa [CL.ncell]using h2,λj hj=>rfl,λj hj=>?_⟩
   ·simp only[CL.ncell];exact Bu _ _ _ _ _ h1 h2
   ·simp only[CL.get,alV]
    rw[zl _ _ _ _ _ _ h1 h2];split<;>rfl
  ·exact h.elim
 ·rename_i m rs
  split at h
  ·rename_i m' ss
   obtain⟨⟨h1,h2,h3,h4⟩,h5,h⟩:=h;rw[aK,alM,alM]at h;obtain⟨⟨⟨g1,g2⟩,g3⟩,h⟩:=h;have g1:=alN g1;have g2:=alN g2;have g3:=alU g3;subst g1 g2;obtain⟨a,ha⟩:∃a,off=a*es:=⟨off / es,by have:=al7 off es;rw[h1]at this;rw[alP];omega⟩
   obtain⟨b,hb⟩:∃b,so=b*es:=⟨so / es,by have:=al7 so es;rw[h2]at this;rw[alP];omega⟩
   subst ha hb;rw[amM _ g3]at h3 h;rw[amM _ g3]at h4 h;have e1:a*es+q*es=(a+q)*es:=(al3 _ _ _).symm;have e2:b*es+q*es=(b+q)*es:=(al3 _ _ _).symm;have hone:=(tL (d:=.recs es ss) (K:=True) ⟨h5,trivial⟩).2;have i2:(b+q)*es≤ss.length*es:=al2 _ h4;refine⟨_,h,?_,?_,?_,λj hj=>hone _ (by simp only[CL.ncell];omega),λj hj=>?_⟩
   ·simp only[CL.ncell];rw[Bu _ _ _ _ _ h3 h4]
   ·simp only[CL.ncell,e1];exact al2 _ h3
   ·simp only[CL.ncell,e2];exact i2
   ·simp only[CL.get]
    rw[zl _ _ _ _ _ _ h3 h4,e1];have k1:a≤j / es↔a*es≤j:=Nat.le_div_iff_mul_le g3;have k2:j / es<a+q↔j<(a+q)*es:=al6 g3;by_cases hc:a*es≤j/\j<(a+q)*es
    ·rw[if_pos hc,if_pos ⟨k1.2 hc.1,k2.2 hc.2⟩]
     obtain⟨d,rfl⟩:∃d,j=a*es+d:=⟨j-a*es,qqO⟩;clear k1 k2;rw[show a*es+d-a*es=d by omega,alP a es,alP b es,alQ g3,alQ g3,alS,alS,show a+d / es-a=d / es from amN ..]
    ·rw[if_neg hc,if_neg λhd=>hc ⟨k1.1 hd.1,k2.1 hd.2⟩]
  ·exact h.elim
 ·exact h.elim
theorem Lb {H:Hp} {x:PV} {K:CL->Nat->Nat->List Nat->Prop} (h:OO H x K):∃e so m acc,K e so m acc/\
 ∀{S:Imm} {w:World} {ι:Ix} {H':Hp} {vx:Value},Mem S w ι H'->(∀k∈acc,av H' k=av H k)->Rep S w ι x vx->0<m->∃b o cap,vx=.slice (some ⟨b,o,none⟩) m cap/\
  ∀j,so+j<e.ncell->(rd w b (o+j)).isSome/\Rep S w noI (e.get (so+j)) (rdv w b (o+j)):=by
 unfold OO at h;split at h
 ·rename_i c t
  rw[dM]at h;refine⟨_,_,_,_,h,λM ha hr hm=>?_⟩;cases hr with
  |islnil _ _ _ hc=>omega
  |isl _ _ _ b off cap hc hs hh hf ho=>exact⟨b,off,cap,rfl,λj hj=>by rw[alO]at hj⊢;exact⟨M.imm _ _ (hs j hj),hh j hj⟩⟩
 ·rename_i k off n
  rw[bD]at h;obtain⟨o,ho,h⟩:=h;split at h
  ·rename_i c fz
   obtain⟨d,h,d1,d2,d3⟩:=iC h;refine⟨_,_,_,_,h,λM ha hr hm=>?_⟩;rename_i S w ι H' vx;have hobj:=(ha k qqS).trans ho;cases hr with
   |rslz=>omega
   |rsl _ _ _ _ b cap hkb hcap hrd=>
   refine⟨b,off,cap,rfl,λj hj=>?_⟩;have hl:=M.lies hobj hkb (off+j) qqO;rw[alO]at hl;exact⟨hl.1,d3 (off+j) qqO hl.2⟩
  ·exact h.elim
 ·exact h.elim
theorem Pp (hτ:bC P τ) {t u ty e:TypeId} {tt te:TE} (ht:τ t=some tt) (he:τ e=some te) (hd:tt.und=.slice e)
 {H:Hp} {d s:PV} {K:KR} (h:OP te H d s K):
 ∃v sets accs news,K v sets accs news/\∀{S:Imm} {w:World} {ι:Ix} {H':Hp} {vs vx:Value},Mem S w ι H'->Rep S w ι d vs->Rep S w ι s vx->(∀k∈accs,av H' k=av H k)->
  gJ P S w ι H' (Builtin.copy_ #[t,u] ty #[vs,vx]) v sets:=by
 unfold OP at h;split at h
 ·rename_i k off n
  rw[bD]at h;obtain⟨ob,hob,h⟩:=h;split at h
  ·rename_i c fz
   split at h
   ·exact h.elim
   ·obtain⟨e',so,m,acc,h,hs⟩:=Lb h
    obtain⟨⟨hm,hn⟩,h⟩:=h;obtain⟨c',hK,p1,p2,p3,p4,p5⟩:=Po h;refine⟨_,_,_,_,hK,λ{S w ι H' vs vx} M hr hx ha=>?_⟩;have hobj:=(ha k qqS).trans hob;obtain⟨bs,os,xc,rfl,hcell⟩:=hs M (λk' hk'=>ha k' (by simp[hk'])) hx hm
    obtain⟨b,arr,e9,g1,g2,g3,g4,g5⟩:=M.obj k _ hobj;cases hr with
    |rslz=>omega
    |rsl _ _ _ _ b' cap hkb hcap hrd=>
    rw[g1]at hkb;cases hkb
    have hq:min m n=amO m n:=rfl;generalize amO m n=q at hq
    rw[hq]at p2 p3 p4 p5⊢;have hfc:=dx (P:=P) (w:=w) (b:=bs) (off:=os) (n:=q) (size:=te.size) (len:=m) (cap:=xc) (λj hj=>(hcell j qqO).1);generalize hvals:((alA (q*te.size)).map λj=>rdv w bs (os+j)).toArray=vals at hfc
    have hvs:vals.size=q*te.size:=by rw[<-hvals];simp
    have hvg:∀j,j<q*te.size->Rep S w noI (e'.get (so+j)) (vals.getD j undef):=λj hj=>by
     have:=(hcell j qqO).2;rw[<-hvals];simpa [alz,hj]using this
    have hone:∀v∈vals.toList,v.oneCell'=true:=by
     intro v hv;obtain⟨i,hi,rfl⟩:=alG hv;have hi':i<q*te.size:=by rw[<-hvs];simpa using hi
     have:=(hvg i hi').oneCell (p4 i hi');simpa [alz,alv (show i<vals.size by simpa using hi)]using this
    obtain⟨w',r1,uu⟩:=bT P vals.toList (o:=off) (i:=0) g2 hone (by simp[hvs];omega)
    have hc':∀j,j<c'.ncell->Rep S w ι (c'.get j) ((putRow arr (off+0) vals.toList).getD j undef):=by
     intro j hj;rw[fP _ _ _ _ (by simp[hvs];omega),p5 j qqO]
     simp only[alg,alY,hvs];split
     ·rename_i hin
      have:=(hvg (j-off) qqO).up ι;simpa [alz]using this
     ·have:=g4 j qqO
      simpa using this
    obtain⟨M',T⟩:=M.write hobj g1 g2 uu (by rw[cK];exact alo _) (by rw[cK];omega) hc'
    refine⟨goInt q,S,w',ι,?_,M',.refl _,(T 0).keeps,.int _ _ _,T⟩;have hq':amO m n=q:=hq;simp only[Builtin.copy_,Builtin.lenOf,amv,List.getElem?_cons_zero,List.getElem?_cons_succ,Sem.run_bind,Sem.run_pure,Result.andThen,run_underlying (hτ.und _ _ ht),hd,bK hτ he,hq',hfc,r1]
  ·exact h.elim
 ·exact h.elim
variable {P:Program} {r:Option Nat} {τ:TypeId->Option TE}
theorem jc {o:Oper} {a:Act} {b:Builtin} {args:Array Operand} {ats:Array TypeId} (ho:o.op=.call ⟨.builtin b,args,ats⟩) {w w':World} {val:Value} {s:Sem Value}
 (hb:∀cs,builtin b ats o.type cs (args.map a.eval)=(do pure (.value (<-s)):Sem Next)) (h:s.run P w=.ok val w'):(execOp a.eval o).run P w=.ok (.value val) w':=by
 simp only[execOp,ho,resolve,Sem.run_bind,Sem.run_pure,Result.andThen,invoke];rw[hb];exact eH h
theorem vW (b:Bool):∀(r:List PV) (x:PV) {K:PV->Prop},mZ 0 b x r K->∃v,K v/\∀{S:Imm} {w:World} {ι:Ix} {vx:Value} {vs:List Value},Rep S w ι x vx->vs.length=r.length->(∀i,i<r.length->Rep S w ι (aG r i) (vs.getD i undef))->
 ∃val,(vs.foldlM (if b then Builtin.max2 else Builtin.min2) vx:Sem Value).run P w=.ok val w/\Rep S w ι v val:=by
 intro r;induction r with
 |nil=>intro x K h;exact⟨x,h,λhx hl _=>by simp at hl;subst hl;exact⟨_,rfl,hx⟩⟩
 |cons y r ih=>
  intro x K h;cases x<;>(try exact h.elim)<;>cases y<;>(try exact h.elim)
  ·rename_i k p k' q
   simp only[mZ]at h;rw[aK]at h;have hk:=of_decide_eq_true h.1;subst hk;have step:∃m,mZ 0 b (.int k m) r K/\∀w,((if b then Builtin.max2 else Builtin.min2) (.int k p) (.int k q):Sem Value).run P w=.ok (.int k m) w:=by
    cases b with
    |true=>
     refine⟨_,h.2,λw=>?_⟩;simp only[if_true,Builtin.max2,Sem.run_pure];congr 2;split<;>omega
    |false=>
     refine⟨_,h.2,λw=>?_⟩;simp only[amn,if_false,Builtin.min2,Sem.run_pure];congr 2;split<;>omega
   obtain⟨m,hm,hrun⟩:=step;obtain⟨v,hK,hs⟩:=ih _ hm;refine⟨v,hK,λhx hl hr=>?_⟩;rename_i S w ι vx vs;cases vs with
   |nil=>simp at hl
   |cons vy vs=>
    have hy:=hr 0 qqS;simp only[aG,amP]at hy;cases hx;cases hy
    obtain⟨val,h1,h2⟩:=hs (S:=S) (w:=w) (ι:=ι) (.int _ _ _) (by simpa using hl) (λi hi=>by simpa [aG]using hr (i+1) (by simpa using hi))
    refine⟨val,?_,h2⟩;rw[List.foldlM_cons,Sem.run_bind,hrun];exact h1
theorem FU (hτ:bC P τ) {md rf CP YP} {o:Oper} {ρ:Operand->PV} {H:Hp} {n:Nat} {c:Call} {b:Builtin} (ho:o.op=.call c) (hc:c.callee=.builtin b) {K:KR}
 (h:opK τ md rf CP YP ρ H n o.dst o.op K):∃v sets accs news,K v sets accs news/\bJ P r o ρ H v sets accs news:=by
 obtain⟨callee,args,ats⟩:=c;simp only at hc;subst hc;rw[ho]at h;simp only[opK]at h;have hd:∀c,o.op≠ .defer c:=λc e=>by rw[ho]at e;cases e
 have hargs:∀{S:Imm} {w:World} {ι:Ix} {a:Act},(∀x∈o.op.operands.toList,Rep S w ι (ρ x) (a.eval x))->bH S w ι (kS ρ args.toList) (args.map a.eval):=by
  intro S w ι a hr;exact lF args (λx hx=>hr x (by simp[ho,Op.operands,Call.operands];simpa using hx))
 unfold SI at h;split at h
 ·
  rename_i hb';split at h
  ·rename_i t hats
   rw[bZ]at h;obtain⟨te,ht,h⟩:=h;have hats':ats= #[t]:=by rw[<-amQ];simpa using hats
   subst hats';split at h
   ·rename_i x hx
    have one':∀{S:Imm} {w:World} {ι:Ix} {a:Act},(∀x∈o.op.operands.toList,Rep S w ι (ρ x) (a.eval x))->∃vx,args.map a.eval= #[vx]/\Rep S w ι x vx:=by
     intro S w ι a hr;obtain⟨h1,h2⟩:=hargs hr;rw[hx]at h1 h2;have h0:=h2 0 qqS;refine⟨(args.map a.eval).getD 0 undef,?_,h0⟩;have hsz:(args.map a.eval).size=1:=h1.symm;apply amR
     ·simp[hsz]
     ·intro i hi1 hi2
      have:i=0:=qqO;subst this;simp[alz,alv hi1]
    have key:∀{m:Nat},K (.int .i64 m) [] [] []->(∀{S:Imm} {w:World} {ι:Ix} {vx:Value},Rep S w ι x vx->(Builtin.len_ #[t] o.type #[vx]).run P w=.ok (goInt m) w)->
     ∃v sets accs news,K v sets accs news/\bJ P r o ρ H v sets accs news:=by
     intro m hK hrun;refine⟨_,_,_,_,hK,aX hd λS w ι H' a M hr ha=>?_⟩;obtain⟨vx,e1,e2⟩:=one' hr;exact⟨_,jc ho (λ_=>rfl) (by rw[e1];exact hrun e2),.int _ _ _⟩
    split at h
    ·rename_i e hu
     have sl:∀(m:Nat) (vx:Value) (w:World),(∃ad cap,vx=.slice ad m cap)->(Builtin.len_ #[t] o.type #[vx]).run P w=.ok (goInt m) w:=by
      rintro m vx w ⟨ad,cap,rfl⟩
      simp[Builtin.len_,run_underlying (hτ.und _ _ ht),hu,Result.andThen]
     split at h
     ·rw[dM]at h
      exact key h λhr=>sl _ _ _ hr.islSlice
     ·exact key h λhr=>sl _ _ _ hr.rslSlice
     ·exact key (m:=0) h λhr=>sl _ _ _ (by cases hr;exact⟨_,_,rfl⟩)
     ·exact key h λhr=>sl _ _ _ (by cases hr;exact⟨_,_,rfl⟩)
     ·exact key h λhr=>sl _ _ _ (by cases hr;exact⟨_,_,rfl⟩)
     ·exact key h λhr=>sl _ _ _ (by cases hr;exact⟨_,_,rfl⟩)
     ·exact h.elim
    ·rename_i hu
     split at h
     ·exact key h λhr=>by cases hr;simp[Builtin.len_,run_underlying (hτ.und _ _ ht),hu,Result.andThen]
     ·exact h.elim
    ·rename_i m e hu
     exact key h λhr=>by simp[Builtin.len_,run_underlying (hτ.und _ _ ht),hu,Result.andThen]
    ·exact h.elim
   ·exact h.elim
  ·exact h.elim
 ·split at h
  ·rename_i s x hx
   split at h
   ·rename_i t u hats
    have hats':ats= #[t,u]:=by rw[<-amQ];simpa using hats
    subst hats';rw[bZ]at h;obtain⟨tt,ht,h⟩:=h;split at h
    ·rename_i e hue
     simp only[bZ]at h;obtain⟨te',he,tu,hu,h⟩:=h;split at h
     ·rename_i e' hue'
      rw[aK,alM]at h;obtain⟨⟨h1,h2⟩,h⟩:=h;obtain⟨v,sets,accs,news,hK,hs⟩:=Pk (P:=P) (ty:=o.type) hτ ht hu he hue hue' (alU h2) h;refine⟨v,sets,accs,news,hK,λS w ι H' a next Q M hr ha hn hk=>?_⟩;obtain⟨g1,g2⟩:=hargs hr;rw[hx]at g1 g2;have e1:args.map a.eval= #[(args.map a.eval).getD 0 undef,(args.map a.eval).getD 1 undef]:=by
       have hsz:(args.map a.eval).size=2:=g1.symm;apply amR
       ·simp[hsz]
       ·intro i hi1 hi2
        have:i=0∨i=1:=qqO;rcases this with rfl|rfl<;>simp only[alz,alv (show _<(args.map a.eval).size by omega)]<;>rfl
      obtain⟨val,S',w',ι',r1,M',L',K',R',T⟩:=hs M (g2 0 qqS) (g2 1 qqS) ha hn;exact cZ hd (jc ho (λ_=>rfl) (by rw[e1];exact r1)) (hk val S' w' ι' M' L' K' R' T)
     ·rename_i k' hue'
      obtain⟨v,sets,accs,news,hK,hs⟩:=Pn (P:=P) (ty:=o.type) hτ ht hu he hue hue' h;refine⟨v,sets,accs,news,hK,λS w ι H' a next Q M hr ha hn hk=>?_⟩;obtain⟨g1,g2⟩:=hargs hr;rw[hx]at g1 g2;have e1:args.map a.eval= #[(args.map a.eval).getD 0 undef,(args.map a.eval).getD 1 undef]:=by
       have hsz:(args.map a.eval).size=2:=g1.symm;apply amR
       ·simp[hsz]
       ·intro i hi1 hi2
        have:i=0∨i=1:=qqO;rcases this with rfl|rfl<;>simp only[alz,alv (show _<(args.map a.eval).size by omega)]<;>rfl
      obtain⟨val,S',w',ι',r1,M',L',K',R',T⟩:=hs M (g2 0 qqS) (g2 1 qqS) ha hn;exact cZ hd (jc ho (λ_=>rfl) (by rw[e1];exact r1)) (hk val S' w' ι' M' L' K' R' T)
     ·exact h.elim
    ·exact h.elim
   ·exact h.elim
  ·exact h.elim
 ·
  split at h
  ·rename_i x hx
   split at h
   ·rename_i t hats
    rw[bZ]at h;obtain⟨te,ht,h⟩:=h;have hats':ats= #[t]:=by rw[<-amQ];simpa using hats
    subst hats';split at h
    ·rename_i e hu
     split at h
     ·refine⟨_,_,_,_,h,aX hd λS w ι H' a M hr ha=>?_⟩
      obtain⟨g1,g2⟩:=hargs hr;rw[hx]at g1 g2;have h0:=g2 0 qqS;have hsz:(args.map a.eval).size=1:=g1.symm;have e1:args.map a.eval= #[(args.map a.eval).getD 0 undef]:=by
       apply amR
       ·simp[hsz]
       ·intro i hi1 hi2
        have:i=0:=qqO;subst this;simp[alz,alv hi1]
      simp only[aG]at h0;have h0':(args.map a.eval).getD 0 undef=.slice none 0 0:=by
       generalize(args.map a.eval).getD 0 undef=v at h0
       cases h0;rfl
      refine⟨_,jc ho (λ_=>rfl) (s:=Builtin.cap_ #[t] o.type (args.map a.eval)) (val:=goInt 0) ?_,.int _ _ _⟩;rw[e1,h0'];simp[Builtin.cap_,run_underlying (hτ.und _ _ ht),hu,Result.andThen]
     ·exact h.elim
    ·exact h.elim
   ·exact h.elim
  ·exact h.elim
 ·split at h
  ·rename_i x rr hx
   obtain⟨v,hK,hs⟩:=vW (P:=P) true _ _ h;refine⟨v,_,_,_,hK,aX hd λS w ι H' a M hr ha=>?_⟩;obtain⟨h1,h2⟩:=hargs hr;rw[hx]at h1 h2;obtain⟨vx,vs,hvs⟩:∃vx vs,(args.map a.eval).toList=vx::vs:=by
    cases e:(args.map a.eval).toList with
    |nil=>rw[<-alY,e]at h1;simp at h1
    |cons vx vs=>exact⟨vx,vs,rfl⟩
   have hget:∀i,(args.map a.eval).getD i undef=(vx::vs).getD i undef:=λi=>by rw[<-hvs];simp[alz]
   have hlen:vs.length=rr.length:=by rw[<-alY,hvs]at h1;simpa using h1.symm
   obtain⟨val,g1,g2⟩:=hs (S:=S) (w:=w) (ι:=ι) (vx:=vx) (vs:=vs) (by have:=h2 0 qqS;rw[hget]at this;simpa [aG]using this) hlen
    (λi hi=>by have:=h2 (i+1) (by simp;omega);rw[hget]at this;simpa [aG]using this)
   refine⟨val,jc ho (λ_=>rfl) ?_,g2⟩;simp only[Builtin.max_,hvs];exact g1
  ·exact h.elim
 ·split at h
  ·rename_i x rr hx
   obtain⟨v,hK,hs⟩:=vW (P:=P) false _ _ h;refine⟨v,_,_,_,hK,aX hd λS w ι H' a M hr ha=>?_⟩;obtain⟨h1,h2⟩:=hargs hr;rw[hx]at h1 h2;obtain⟨vx,vs,hvs⟩:∃vx vs,(args.map a.eval).toList=vx::vs:=by
    cases e:(args.map a.eval).toList with
    |nil=>rw[<-alY,e]at h1;simp at h1
    |cons vx vs=>exact⟨vx,vs,rfl⟩
   have hget:∀i,(args.map a.eval).getD i undef=(vx::vs).getD i undef:=λi=>by rw[<-hvs];simp[alz]
   have hlen:vs.length=rr.length:=by rw[<-alY,hvs]at h1;simpa using h1.symm
   obtain⟨val,g1,g2⟩:=hs (S:=S) (w:=w) (ι:=ι) (vx:=vx) (vs:=vs) (by have:=h2 0 qqS;rw[hget]at this;simpa [aG]using this) hlen
    (λi hi=>by have:=h2 (i+1) (by simp;omega);rw[hget]at this;simpa [aG]using this)
   refine⟨val,jc ho (λ_=>rfl) ?_,g2⟩;simp only[Builtin.min_,hvs];exact g1
  ·exact h.elim
 ·
  split at h
  ·rename_i d s hx
   split at h
   ·rename_i t u hats
    have hats':ats= #[t,u]:=by rw[<-amQ];simpa using hats
    subst hats';rw[bZ]at h;obtain⟨tt,ht,h⟩:=h;split at h
    ·rename_i e hue
     rw[bZ]at h;obtain⟨te',he,h⟩:=h;obtain⟨v,sets,accs,news,hK,hs⟩:=Pp (P:=P) (t:=t) (u:=u) (ty:=o.type) hτ ht he hue h;refine⟨v,sets,accs,news,hK,λS w ι H' a next Q M hr ha hn hk=>?_⟩;obtain⟨g1,g2⟩:=hargs hr;rw[hx]at g1 g2;have e1:args.map a.eval= #[(args.map a.eval).getD 0 undef,(args.map a.eval).getD 1 undef]:=by
      have hsz:(args.map a.eval).size=2:=g1.symm;apply amR
      ·simp[hsz]
      ·intro i hi1 hi2
       have:i=0∨i=1:=qqO;rcases this with rfl|rfl<;>simp only[alz,alv (show _<(args.map a.eval).size by omega)]<;>rfl
     obtain⟨val,S',w',ι',r1,M',L',K',R',T⟩:=hs M (g2 0 qqS).dropP (g2 1 qqS).dropP ha;exact cZ hd (jc ho (λ_=>rfl) (by rw[e1];exact r1)) (hk val S' w' ι' M' L' K' R' T)
    ·exact h.elim
   ·exact h.elim
  ·exact h.elim
 ·exact h.elim
variable {P:Program} {r:Option Nat} {τ:TypeId->Option TE}
def Obj.plain:Obj->Bool
 |.cells _ _ _=>false
 |_=>true
theorem jf {w:World} {b:Nat} {o:Obj} (h:w.heap[b]? =some o) (hp:Obj.plain o=true) (j:Nat):rd w b j=none:=by
 unfold rd;rw[h];cases o<;>simp_all[Obj.plain]
theorem Mx {ι:Ix} {k b:Nat} {o:AO} (hT:o.isTok=false) (hE:o.isExt=false) (hX:o.excl=true) (hb:ι.o k=some b) (b':Nat):o.has ι k b'↔b'=b:=by
 have e:o.has ι k b'↔ι.o k=some b':=by
  cases o with
  |cells c fz=>cases fz with
   |true=>simp[AO.excl]at hX
   |false=>exact Iff.rfl
  |_=>first|exact Iff.rfl|(simp[AO.isTok]at hT;done)|(simp[AO.isExt]at hE;done)
 rw[e,hb];exact⟨λh=>(Option.some.inj h).symm,λh=>by rw[h]⟩
theorem qg {ι:Ix} {k b:Nat} {o:AO} (h:o.has ι k b):o.excl=true:=by
 cases o with
 |cells c fz=>cases fz with
  |true=>exact h.elim
  |false=>rfl
 |_=>rfl
theorem om {ι ι1:Ix} {k k1:Nat} {o o1:AO} (eo:ι1.o k1=ι.o k) (et:ι1.t k1=ι.t k) (ex:ι1.x k1=ι.x k) (hT:o1.isTok=o.isTok) (hE:o1.isExt=o.isExt) (hX:o1.excl=o.excl) (b:Nat):o1.has ι1 k1 b↔o.has ι k b:=by
 have key:∀{ι:Ix} {k:Nat} {o:AO},o.has ι k b↔(match o.isTok with|true=>∃n,ι.t k=some (b,n)|false=>match o.isExt with|true=>ι.x k b|false=>match o.excl with|true=>ι.o k=some b|false=>False):=by
  intro ι k o;cases o with
  |cells c fz=>cases fz<;>exact Iff.rfl
  |_=>exact Iff.rfl
 rw[key,key,hT,hE,hX,eo,et,ex]
theorem Ib {ι:Ix} {k b:Nat} {o:AO} (hT:o.isTok=false) (hE:o.isExt=false) (hb:ι.o k=some b) (b':Nat) (h:o.has ι k b'):b'=b:=by
 cases hX:o.excl with
 |true=>exact(Mx hT hE hX hb b').1 h
 |false=>cases o with
  |cells c fz=>cases fz with
   |true=>exact h.elim
   |false=>simp[AO.excl]at hX
  |_=>simp[AO.excl]at hX
theorem iq {o:Obj} (h:Obj.plain o=true):Unf (some o):=by cases o<;>first|(simp[Obj.plain]at h;done)|exact λ_=>rfl
theorem Mem.putObj {S:Imm} {w w':World} {ι:Ix} {H:Hp} (M:Mem S w ι H) {k b:Nat} {o o':AO} {x y:Obj} (ho:av H k=some o) (hx:o.excl=true) (hoT:o.isTok=false) (hoT':o'.isTok=false) (hoE:o.isExt=false) (hoE':o'.isExt=false)
 (hb:ι.o k=some b) (hw:w.heap[b]? =some x) (hpx:Obj.plain x=true) (hpy:Obj.plain y=true) (below:Bel w w') (here:w'.heap[b]? =some y) (other:∀b',b'≠b->w'.heap[b']? =w.heap[b']?)
 (hobj:∀S',Keeps S w S' w'->gY S' w' ι k o'):Mem S w' ι (aP H k o')/\Keeps S w S w'/\∀p,Tr p S w ι H S w' ι (aP H k o'):=by
 have hbl:o.has ι k b:=(Mx hoT hoE hx hb b).2 rfl;have hbl':∀b',o'.has ι k b'->b'=b:=Ib hoT' hoE' hb;have hnS:∀j,¬S b j:=λj hs=>by have:=M.imm b j hs;rw[jf hw hpx]at this;simp at this
 have hkeep:Keeps S w S w':=by
  refine⟨λb' j hs=>⟨hs,?_⟩,λb' j hs=>?_⟩
  ·by_cases e:b'=b
   ·subst e;exact absurd hs (hnS j)
   ·exact dH (other b' e) j
  ·by_cases e:b'=b
   ·subst e;rw[jf hw hpx]at hs;simp at hs
   ·rw[dH (other b' e) j];exact hs
 have ht:ι.t k=none:=by
  cases et:ι.t k with
  |none=>rfl
  |some x=>obtain⟨o,g1,g2⟩:=M.liveT k x et;rw[ho]at g1;cases g1;rw[hoT]at g2;cases g2
 obtain⟨m,t⟩:=M.step1 (b:=b) (k:=k) (o':=o') below (λb' _ hb'=>other b' hb') hkeep (λb' j h=>.inl h) (λj hs=>absurd hs (hnS j)) (.refl _) (λ_ _=>rfl) (λ_ _=>rfl) rfl
  (.inr ⟨o,ho,hx,hbl⟩) hbl' (λh=>by rw[hoT']at h;cases h) (λ_=>ht) (hobj S hkeep)
 exact⟨m,hkeep,t⟩
theorem Mem.newObj {S:Imm} {w:World} {ι:Ix} {H:Hp} (M:Mem S w ι H) {k:Nat} (hk:av H k=none) {o':AO} {y:Obj} (hoT:o'.isTok=false) (hoE:o'.isExt=false) (hy:Obj.plain y=true)
 (hobj:∀w',Keeps S w S w'->w'.heap[w.heap.size]? =some y->gY S w' (ι.seto k w.heap.size) k o'):
 Mem S {w with heap:=w.heap.push y} (ι.seto k w.heap.size) (aP H k o')/\∀p,Tr p S w ι H S {w with heap:=w.heap.push y} (ι.seto k w.heap.size) (aP H k o'):=by
 have ho:=M.none_o hk;have hkeep:=kG M.imm (w:=w) y;have hnoS:∀j,¬S w.heap.size j:=λj hs=>by have:=eZ (M.imm _ _ hs);omega
 refine M.step1 (b:=w.heap.size) (iW _ _ (iq hy)) (λb' hb' _=>iQ hb') hkeep (λb' j h=>.inl h) (λj h=>absurd h (hnoS j))
  (jS ho) (λk' h=>by simp[Ix.seto,h]) (λ_ _=>rfl) rfl (.inl (alo _)) (Ib hoT hoE (by simp[Ix.seto])) (λh=>by rw[hoT]at h;cases h) (λ_=>M.none_t hk) (hobj _ hkeep (gV _ _))
theorem FV {md rf CP YP} {o:Oper} {ρ:Operand->PV} {H:Hp} {n:Nat} {t:TypeId} {x:Option Operand} (ho:o.op=.makeMap t x) {K:KR}
 (h:opK τ md rf CP YP ρ H n o.dst o.op K):∃v sets accs news,K v sets accs news/\bJ P r o ρ H v sets accs news:=by
 have hd:∀c,o.op≠ .defer c:=λc e=>by rw[ho]at e;cases e
 rw[ho]at h;cases x with
 |some x=>exact h.elim
 |none=>
  simp only[opK,bW]at h;refine⟨_,_,_,_,h.2,λS w ι H' a next Q M hr ha hn hk=>?_⟩;have hno:=hn n qqS;obtain⟨M',T⟩:=M.newObj (y:=.map #[] 0) (o':=.map []) hno rfl rfl rfl (λw' hk' hh=>⟨w.heap.size, #[],0,by simp[Ix.seto],hh,rfl,λi h=>by simp at h⟩)
  refine cZ hd (w':={w with heap:=w.heap.push (.map #[] 0)}) (val:=.map (some w.heap.size)) ?_ (hk _ S _ _ M' (jS (M.none_o hno)) (kG M.imm _) (.rm _ _ _ (by simp[Ix.seto])) T)
  simp only[execOp,ho];refine eH ?_;simp[Instr.makeMap,Result.andThen]
theorem Bv (hτ:bC P τ) {md rf CP YP} {o:Oper} {ρ:Operand->PV} {H:Hp} {n:Nat} {t:TypeId} {l c:Operand} (ho:o.op=.makeSlice t l c) {K:KR}
 (h:opK τ md rf CP YP ρ H n o.dst o.op K):∃v sets accs news,K v sets accs news/\bJ P r o ρ H v sets accs news:=by
 have hd:∀c,o.op≠ .defer c:=λc e=>by rw[ho]at e;cases e
 rw[ho]at h;simp only[opK,bZ]at h;obtain⟨te,ht,h⟩:=h;split at h
 ·rename_i e hu
  obtain⟨te',he,h⟩:=h;split at h
  ·rename_i x hl
   split at h
   ·rename_i y hc
    obtain⟨⟨h1,h2,h3,h4⟩,h⟩:=h;have hxy:x≤y/\y*te'.bytes≤281474976710656/\inR .i64 y:=by
     rcases h4 with rfl|h4
     ·exact⟨Int.le_refl _,h2,h3⟩
     ·exact h4
    clear h2 h4;obtain⟨h4,h2,h5⟩:=hxy;have hN:x.toNat≤y.toNat:=qqO;rw[bW]at h;obtain⟨hfr,h⟩:=h;have hrun:∀{S:Imm} {w:World} {ι:Ix} {a:Act},(∀x∈o.op.operands.toList,Rep S w ι (ρ x) (a.eval x))->
     ∃arr,(execOp a.eval o).run P w=.ok (.value (.slice (some ⟨w.heap.size,0,none⟩) x.toNat y.toNat)) {w with heap:=w.heap.push (.cells arr e)}/\
      arr=(amu (y.toNat*te'.size)).map (te'.zero.cells[·% te'.zero.cells.size]!):=by
     intro S w ι a hr;have r1:=hr l (by simp[ho,Op.operands])
     have r2:=hr c (by simp[ho,Op.operands])
     rw[hl]at r1;rw[hc]at r2;cases e1:a.eval l<;>rw[e1]at r1<;>cases r1
     cases e2:a.eval c<;>rw[e2]at r2<;>cases r2
     obtain⟨i,hi,hz,hs,hb⟩:=jO hτ he w;refine⟨_,?_,rfl⟩;simp only[execOp,ho];refine eH ?_;simp only[Instr.makeSlice,Sem.run_bind,run_underlying (hτ.und _ _ ht),hu,Result.andThen,e1,e2,asInt,asIntOf,Sem.run_pure,hi,oW h3,oW h5,hb];have hmul:(te'.bytes:Int)*y≤281474976710656:=by rw[Int.mul_comm];exact h2
     rw[if_neg (by
      simp only[amS,decide_eq_true_eq];have:(2:Int) ^ 48=281474976710656:=qqD;rw[this];omega)]
     simp only[Sem.run_bind,run_askRoom,Result.andThen,bK hτ he];by_cases h0:y.toNat*te'.size=0
     ·rw[if_pos h0]
      have e0:∀f g:Nat->Value,(amu 0).map f=(amu 0).map g:=λf g=>by apply amR<;>simp
      simp[h0,Result.andThen,newRow];rw[e0]
     ·rw[if_neg h0]
      simp[iw hτ he,Result.andThen,newRow]
    have hget:∀{j:Nat},j<y.toNat*te'.size->((amu (y.toNat*te'.size)).map (te'.zero.cells[·% te'.zero.cells.size]!)).getD j undef=te'.zero.cells.getD (j % te'.size) undef:=by
     intro j hj;have hz:=hτ.zsz _ _ he;have hpos:0<te'.size:=by rcases amk te'.size with h|h;(rw[h]at hj;simp at hj);exact h
     have hm:j % te'.size<te'.zero.cells.size:=by rw[hz];exact al8 _ hpos
     simp[alz,hj,hz,getElem!_pos,hm,al8 _ hpos]
    have hle:x.toNat*te'.size≤y.toNat*te'.size:=al2 _ hN;split at h
    ·rw[bN,aK,alM]at h
     obtain⟨⟨g1,g2⟩,h⟩:=h;have g1:=alN g1;have g2:=alU g2;have hcell:∀{S:Imm} {w:World} {ι:Ix} {arr:Array Value},arr=(amu (y.toNat*te'.size)).map (te'.zero.cells[·% te'.zero.cells.size]!)->∀j,j<(CL.recs te'.size (alL x.toNat (mU te'.zero.cells.toList))).ncell->Rep S w ι ((CL.recs te'.size (alL x.toNat (mU te'.zero.cells.toList))).get j) (arr.getD j undef):=by
      intro S w ι arr r2 j hj;simp only[CL.ncell,List.length_replicate]at hj;rw[r2,hget (Nat.lt_of_lt_of_le hj hle)];have hd':j / te'.size<x.toNat:=by rw[al6 g2];exact hj
      have hm:j % te'.size<te'.zero.cells.toList.length:=by simp[hτ.zsz _ _ he];exact al8 _ g2
      simp only[CL.get,alC,amI,if_pos hd',amj];have:=tH (S:=S) (w:=w) (ι:=ι) te'.zero.cells.toList (j % te'.size) hm;simpa [alz]using this
     split at h
     ·refine⟨_,_,_,_,h,j6 hd λS w ι H' a M hr ha=>?_⟩
      obtain⟨arr,r1,r2⟩:=hrun hr;exact⟨_,arr,e,r1,by rw[r2];simpa [CL.ncell]using hle,hcell r2,λS' w' ι' hi hw=>.rsc _ _ _ _ _ _ hi hN g2 (λj hj=>by
       have hs:arr.size=y.toNat*te'.size:=by rw[r2];simp
       rw[aL hw,alv qqO];rfl)⟩
     ·refine⟨_,_,_,_,h,j6 hd λS w ι H' a M hr ha=>?_⟩
      obtain⟨arr,r1,r2⟩:=hrun hr;exact⟨_,arr,e,r1,by rw[r2];simpa [CL.ncell]using hle,hcell r2,λS' w' ι' hi hw=>.rsl _ _ _ _ _ _ hi hN (λ_ j hj=>by
       have:=Nat.le_mul_of_pos_right y.toNat g2;have hs:arr.size=y.toNat*te'.size:=by rw[r2];simp
       rw[aL hw,alv qqO];rfl)⟩
    ·rw[aK]at h
     obtain⟨g1,h⟩:=h;have g1:=alN g1;obtain⟨zc,d,h,d1,d2,d3⟩:=EX h;refine⟨_,_,_,_,h,j6 hd λS w ι H' a M hr ha=>?_⟩;obtain⟨arr,r1,r2⟩:=hrun hr;have hnc:d.ncell=x.toNat:=by rw[bI,d1,d2,alV]
     refine⟨_,arr,e,r1,by rw[r2,hnc];simp only[amt,Array.size_range,g1,alV];exact hN,λj hj=>?_,λS' w' ι' hi hw=>.rsl _ _ _ _ _ _ hi hN (λ_ j hj=>by
      have hs:arr.size=y.toNat:=by rw[r2];simp[g1]
      rw[aL hw,alv qqO];rfl)⟩
     rw[hnc]at hj;rw[r2,hget (by rw[g1];omega),g1,amc,zc]
     exact d3 j hj
   ·exact h.elim
  ·exact h.elim
 ·exact h.elim
def Dv (S:Imm) (w:World) (ι:Ix) (es:List (PV × PV)) (ents:List MapEntry):Prop:=
 ents.length=es.length/\∀i (h:i<es.length) (h':i<ents.length),Rep S w ι es[i].1 ents[i].key/\Rep S w ι es[i].2 ents[i].val
theorem Dv.cons {S:Imm} {w:World} {ι:Ix} {k v:PV} {es:List (PV × PV)} {ents:List MapEntry} (h:Dv S w ι ((k,v)::es) ents):
 ∃e ents',ents=e::ents'/\Rep S w ι k e.key/\Rep S w ι v e.val/\Dv S w ι es ents':=by
 obtain⟨h1,h2⟩:=h;cases ents with
 |nil=>simp at h1
 |cons e ents=>
  have h0:=h2 0 qqS qqS;exact⟨e,ents,rfl,h0.1,h0.2,by simpa using h1,λi hi hi'=>h2 (i+1) (by simpa using hi) (by simpa using hi')⟩
theorem rz (s t:ByteArray):Instr.sameNow .string (.string s) (.string t)=some (decide (s=t)):=by
 simp only[Instr.sameNow,Option.some.injEq];by_cases h:s=t
 ·rw[decide_eq_true h];exact(MapKept.bytes_beq s t).2 h
 ·rw[decide_eq_false h]
  cases e:(s==t)with
  |false=>rfl
  |true=>exact absurd ((MapKept.bytes_beq s t).1 e) h
theorem vX {S:Imm} {w:World} {ι:Ix} {s:ByteArray}:∀(es:List (PV × PV)) (ents:List MapEntry) (i:Nat),A8 s es->Dv S w ι es ents->Instr.findNow .string (.string s) ents i=some none:=by
 intro es;induction es with
 |nil=>
  intro ents i h he;have:ents=[]:=amT.1 he.1;subst this;rfl
 |cons x es ih=>
  intro ents i h he;obtain⟨k,v⟩:=x;obtain⟨e,ents',rfl,h1,h2,h3⟩:=he.cons;cases k<;>first|exact h.elim|skip
  obtain⟨hne,h⟩:=h;generalize hkk:e.key=kk at h1
  cases h1
  simp only[Instr.findNow,hkk,rz,decide_eq_false hne];exact ih ents' (i+1) h h3
theorem Lc {s:ByteArray} {z:PV} {ok:Bool} {K:PV->Prop}:∀(es:List (PV × PV)),Gg s z ok es K->∃v,K v/\∀{S:Imm} {w:World} {ι:Ix} {ents:List MapEntry} {zv:Value},Dv S w ι es ents->Rep S w ι z zv->
 ∃res:Option Value,(∀i,∃j,Instr.findNow .string (.string s) ents i=some (res.map λv=>(j,v)))/\Rep S w ι v (if ok then .tuple #[res.getD zv,.bool res.isSome]else res.getD zv):=by
 have fin:∀(p:PV) (b:Bool),K (match ok with|true=>.tup [p,.bool b]|false=>p)->∃v,K v/\∀{S:Imm} {w:World} {ι:Ix} {val:Value},Rep S w ι p val->Rep S w ι v (if ok then .tuple #[val,.bool b]else val):=by
  intro p b h;refine⟨_,h,λhr=>?_⟩;cases ok with
  |false=>exact hr
  |true=>
   refine .tup _ _ _ rfl (λi hi=>?_);simp at hi;have:i=0∨i=1:=qqO;rcases this with rfl|rfl
   ·exact hr
   ·exact .bool _ _
 intro es;induction es with
 |nil=>
  intro h;simp only[Gg,bO]at h;obtain⟨v,hK,hv⟩:=fin _ _ h;refine⟨v,hK,λhe hz=>⟨none,λi=>⟨0,?_⟩,hv hz⟩⟩;have:=amT.1 he.1;subst this;rfl
 |cons x es ih=>
  intro h;obtain⟨k,u⟩:=x;cases k<;>first|exact h.elim|skip
  rename_i t;obtain⟨ha,hb⟩:=h;by_cases e:s=t
  ·have ha:=ha e
   rw[bO]at ha;obtain⟨v,hK,hv⟩:=fin _ _ ha;refine⟨v,hK,λhe hz=>?_⟩;obtain⟨en,ents',rfl,h1,h2,h3⟩:=he.cons;refine⟨some en.val,λi=>⟨i,?_⟩,hv h2⟩;generalize hkk:en.key=kk at h1
   cases h1
   simp[Instr.findNow,hkk,rz,e]
  ·obtain⟨v,hK,hv⟩:=ih (hb e)
   refine⟨v,hK,λhe hz=>?_⟩;obtain⟨en,ents',rfl,h1,h2,h3⟩:=he.cons;obtain⟨res,g1,g2⟩:=hv h3 hz;refine⟨res,λi=>?_,g2⟩;obtain⟨j,hj⟩:=g1 (i+1);refine⟨j,?_⟩;generalize hkk:en.key=kk at h1
   cases h1
   simp only[Instr.findNow,hkk,rz,decide_eq_false e];exact hj
theorem Mem.map {S:Imm} {w:World} {ι:Ix} {H:Hp} (M:Mem S w ι H) {k b:Nat} {es:List (PV × PV)} (h:av H k=some (.map es)) (hb:ι.o k=some b):
 ∃ents clock,w.heap[b]? =some (.map ents clock)/\Dv S w ι es ents.toList:=by
 obtain⟨b',ents,clock,h1,h2,h3,h4⟩:=M.obj k _ h;rw[hb]at h1;cases h1
 exact⟨ents,clock,h2,by simpa using h3,λi hi hi'=>by simpa using h4 i hi (by simpa using hi')⟩
theorem Ld {te:TE} {K:PV->Prop} (h:OQ te K):∃z,K z/\∀S w ι,Rep S w ι z te.zero:=by
 unfold OQ at h;split at h
 ·rename_i cs hz
  rw[bN]at h;refine⟨_,h,λS w ι=>?_⟩;rw[hz];refine .agg _ _ _ (by simp[ng]) (λi hi=>?_)
  rw[ng]at hi;have:=tH (S:=S) (w:=w) (ι:=ι) cs.toList i hi;simpa [alz]using this
 ·rw[bO]at h
  exact⟨_,h,λS w ι=>Dt _⟩
theorem Ic (hτ:bC P τ) {md rf CP YP} {o:Oper} {ρ:Operand->PV} {H:Hp} {n:Nat} {t:TypeId} {m k:Operand} {ok:Bool} (ho:o.op=.lookup t m k ok) {K:KR}
 (h:opK τ md rf CP YP ρ H n o.dst o.op K):∃v sets accs news,K v sets accs news/\bJ P r o ρ H v sets accs news:=by
 have hd:∀c,o.op≠ .defer c:=λc e=>by rw[ho]at e;cases e
 rw[ho]at h;simp only[opK,bZ]at h;obtain⟨te,ht,h⟩:=h;split at h
 ·rename_i kt et hu
  obtain⟨tk,hk,h⟩:=h;split at h
  ·rename_i huk
   obtain⟨tz,hz,h⟩:=h;split at h
   ·rename_i i hm
    split at h
    ·rename_i s hs
     rw[bD]at h;obtain⟨ob,hob,h⟩:=h;split at h
     ·rename_i es
      obtain⟨z,h,hz'⟩:=Ld h;obtain⟨v,hK,hv⟩:=Lc _ h;refine⟨v,_,_,_,hK,aX hd λS w ι H' a M hr ha=>?_⟩;have r1:=hr m (by simp[ho,Op.operands])
      have r2:=hr k (by simp[ho,Op.operands])
      rw[hm]at r1;rw[hs]at r2;cases e1:a.eval m<;>rw[e1]at r1<;>cases r1
      cases e2:a.eval k<;>rw[e2]at r2<;>cases r2
      rename_i b hb;obtain⟨ents,clock,g1,g2⟩:=M.map ((ha i qqS).trans hob) hb;obtain⟨res,q1,q2⟩:=hv g2 (hz' S w ι);obtain⟨j,hj⟩:=q1 0;refine⟨_,?_,q2⟩;simp only[execOp,ho];refine eH ?_;have hu':P.underlying kt=some .string:=by rw[hτ.und _ _ hk,huk]
      simp only[Instr.lookup,Sem.run_bind,run_underlying (hτ.und _ _ ht),hu,Result.andThen,e1,e2,MapKept.run_getObj_map g1,Sem.run_pure,
       MapKept.run_checkKey (w:=w) (k:=.string s) hu' trivial _ 9999,MapKept.run_findKey hu' hj]
      cases res with
      |none=>simp[iw hτ hz,Result.andThen]
      |some x=>simp[Result.andThen]
     ·exact h.elim
    ·exact h.elim
   ·exact h.elim
  ·exact h.elim
 ·exact h.elim
theorem Ie (hτ:bC P τ) {md rf CP YP} {o:Oper} {ρ:Operand->PV} {H:Hp} {n:Nat} {t:TypeId} {m k u:Operand} (ho:o.op=.insert t m k u) {K:KR}
 (h:opK τ md rf CP YP ρ H n o.dst o.op K):∃v sets accs news,K v sets accs news/\bJ P r o ρ H v sets accs news:=by
 have hd:∀c,o.op≠ .defer c:=λc e=>by rw[ho]at e;cases e
 rw[ho]at h;simp only[opK,bZ]at h;obtain⟨te,ht,h⟩:=h;split at h
 ·rename_i kt et hu
  obtain⟨tk,hk,h⟩:=h;split at h
  ·rename_i huk
   split at h
   ·rename_i i hm
    split at h
    ·rename_i s hs
     rw[bO,bD]at h;obtain⟨ob,hob,h⟩:=h;split at h
     ·rename_i es
      obtain⟨hnk,hK⟩:=h;refine⟨_,_,_,_,hK,λS w ι H' a next Q M hr ha hn hkk=>?_⟩;have r1:=hr m (by simp[ho,Op.operands])
      have r2:=hr k (by simp[ho,Op.operands])
      have r3:=hr u (by simp[ho,Op.operands])
      rw[hm]at r1;rw[hs]at r2;cases e1:a.eval m<;>rw[e1]at r1<;>cases r1
      cases e2:a.eval k<;>rw[e2]at r2<;>cases r2
      rename_i b hb;have hob':=(ha i qqS).trans hob;obtain⟨ents,clock,g1,g2⟩:=M.map hob' hb;have hu':P.underlying kt=some .string:=by rw[hτ.und _ _ hk,huk]
      have hf:=vX es ents.toList 0 hnk g2;have hnew:=MapKept.heap_set (o':=.map (ents.push {key:=.string s,val:=a.eval u,born:=clock}) (clock+1)) g1;obtain⟨M',K',T⟩:=M.putObj (o':=.map (es++[(.str s,ρ u)])) (y:=.map (ents.push {key:=.string s,val:=a.eval u,born:=clock}) (clock+1)) (w':={w with heap:=w.heap.setIfInBounds b (.map (ents.push {key:=.string s,val:=a.eval u,born:=clock}) (clock+1))})
       hob' rfl rfl rfl rfl rfl hb g1 rfl rfl (.block b rfl rfl rfl qqS hnew.2 (by rw[g1];exact iq rfl) (by rw[hnew.1];exact iq rfl) (λ_=>by simp[bsz,g1,hnew.1])) hnew.1 hnew.2 (λS' hk'=>by
        refine⟨b,_,_,hb,hnew.1,by simp[g2.1,<-alY],λi hi hi'=>?_⟩
        have hl:ents.size=es.length:=by simpa using g2.1
        simp only[amL,alj,alf,alO]at hi;by_cases hlt:i<es.length
        ·have:=g2.2 i hlt (by simpa [hl]using hlt)
         rw[amU hlt,amV qqO];exact⟨this.1.mono hk' _ (.refl _),this.2.mono hk' _ (.refl _)⟩
        ·have:i=es.length:=qqO
         subst this;rw[amW (alo _)];simp only[<-hl,amX,alW,amY];exact⟨.str _ _,r3.mono hk' _ (.refl _)⟩)
      refine fB hd ?_ (hkk undef S _ ι M' (.refl _) K' (.any _ _) T);simp only[execOp,ho];refine kZ ?_;simp only[Instr.mapUpdate,Sem.run_bind,run_underlying (hτ.und _ _ ht),hu,Result.andThen,e1,e2,MapKept.run_getObj_map g1,
       MapKept.run_checkKey (w:=w) (k:=.string s) hu' trivial _ 9999,MapKept.run_findKey hu' hf,MapKept.run_setObj_map _ g1]
     ·exact h.elim
    ·exact h.elim
   ·exact h.elim
  ·exact h.elim
 ·exact h.elim
theorem Bw (hτ:bC P τ) {md rf CP YP} {o:Oper} {ρ:Operand->PV} {H:Hp} {n:Nat} {t:TypeId} {m k u:Operand} (ho:o.op=.mapUpdate t m k u) {K:KR}
 (h:opK τ md rf CP YP ρ H n o.dst o.op K):∃v sets accs news,K v sets accs news/\bJ P r o ρ H v sets accs news:=by
 have hd:∀c,o.op≠ .defer c:=λc e=>by rw[ho]at e;cases e
 rw[ho]at h;simp only[opK,bZ]at h;obtain⟨te,ht,h⟩:=h;split at h
 ·rename_i kt et hu
  obtain⟨tk,hk,h⟩:=h;split at h
  ·rename_i huk
   split at h
   ·rename_i i hm
    split at h
    ·rename_i s hs
     rw[bO,bD]at h;obtain⟨ob,hob,h⟩:=h;split at h
     ·rename_i es
      obtain⟨hnk,hK⟩:=h;refine⟨_,_,_,_,hK,λS w ι H' a next Q M hr ha hn hkk=>?_⟩;have r1:=hr m (by simp[ho,Op.operands])
      have r2:=hr k (by simp[ho,Op.operands])
      have r3:=hr u (by simp[ho,Op.operands])
      rw[hm]at r1;rw[hs]at r2;cases e1:a.eval m<;>rw[e1]at r1<;>cases r1
      cases e2:a.eval k<;>rw[e2]at r2<;>cases r2
      rename_i b hb;have hob':=(ha i qqS).trans hob;obtain⟨ents,clock,g1,g2⟩:=M.map hob' hb;have hu':P.underlying kt=some .string:=by rw[hτ.und _ _ hk,huk]
      have hf:=vX es ents.toList 0 hnk g2;have hnew:=MapKept.heap_set (o':=.map (ents.push {key:=.string s,val:=a.eval u,born:=clock}) (clock+1)) g1;obtain⟨M',K',T⟩:=M.putObj (o':=.map (es++[(.str s,ρ u)])) (y:=.map (ents.push {key:=.string s,val:=a.eval u,born:=clock}) (clock+1)) (w':={w with heap:=w.heap.setIfInBounds b (.map (ents.push {key:=.string s,val:=a.eval u,born:=clock}) (clock+1))})
       hob' rfl rfl rfl rfl rfl hb g1 rfl rfl (.block b rfl rfl rfl qqS hnew.2 (by rw[g1];exact iq rfl) (by rw[hnew.1];exact iq rfl) (λ_=>by simp[bsz,g1,hnew.1])) hnew.1 hnew.2 (λS' hk'=>by
        refine⟨b,_,_,hb,hnew.1,by simp[g2.1,<-alY],λi hi hi'=>?_⟩
        have hl:ents.size=es.length:=by simpa using g2.1
        simp only[amL,alj,alf,alO]at hi;by_cases hlt:i<es.length
        ·have:=g2.2 i hlt (by simpa [hl]using hlt)
         rw[amU hlt,amV qqO];exact⟨this.1.mono hk' _ (.refl _),this.2.mono hk' _ (.refl _)⟩
        ·have:i=es.length:=qqO
         subst this;rw[amW (alo _)];simp only[<-hl,amX,alW,amY];exact⟨.str _ _,r3.mono hk' _ (.refl _)⟩)
      refine fB hd ?_ (hkk undef S _ ι M' (.refl _) K' (.any _ _) T);simp only[execOp,ho];refine kZ ?_;simp only[Instr.mapUpdate,Sem.run_bind,run_underlying (hτ.und _ _ ht),hu,Result.andThen,e1,e2,MapKept.run_getObj_map g1,
       MapKept.run_checkKey (w:=w) (k:=.string s) hu' trivial _ 9999,MapKept.run_findKey hu' hf,MapKept.run_setObj_map _ g1]
     ·exact h.elim
    ·exact h.elim
   ·exact h.elim
  ·exact h.elim
 ·exact h.elim
variable {P:Program} {r:Option Nat} {τ:TypeId->Option TE}
theorem Mem.freeze {S:Imm} {w:World} {ι:Ix} {H:Hp} (M:Mem S w ι H) {k:Nat} {c c':CL} (h:av H k=some (.cells c false)) (hn:c'.ncell=c.ncell)
 (hc:∀j,j<c.ncell->∀{S:Imm} {w:World} {ι:Ix} {v:Value},Rep S w ι (c.get j) v->Rep S w noI (c'.get j) v):
 ∃S',Mem S' w ι (aP H k (.cells c' true))/\Keeps S w S' w/\(∀p,Tr p S w ι H S' w ι (aP H k (.cells c' true)))/\
  ∀b,ι.o k=some b->∀j,j<c'.ncell->S' b j/\Rep S' w noI (c'.get j) (rdv w b j):=by
 obtain⟨b,arr,e,h1,h2,h3,h4,h5⟩:=M.obj k _ h
 let S':Imm:=λb' j=>S b' j∨(b'=b/\j<c'.ncell)
 have hk:Keeps S w S' w:=⟨λb' j hs=>⟨.inl hs,rfl⟩,λb' j hs=>hs⟩;have hrep:∀j,j<c'.ncell->Rep S' w noI (c'.get j) (arr.getD j undef):=λj hj=>by
  have:=h4 j qqO;exact(hc j qqO this).mono hk _ (.refl _)
 have ht:ι.t k=none:=by
  cases et:ι.t k with
  |none=>rfl
  |some x=>obtain⟨o,g1,g2⟩:=M.liveT k x et;rw[h]at g1;cases g1;simp[AO.isTok]at g2
 obtain⟨M',T⟩:=M.step1 (S':=S') (w':=w) (ι':=ι) (k:=k) (o':=.cells c' true) (b:=b) (Bel.refl _) (λ_ _ _=>rfl) hk (λb' j hs=>by rcases hs with h|⟨h,_⟩;exact .inl h;exact .inr h)
  (λj hs=>by
    rcases hs with h|⟨_,h⟩
    ·exact absurd h (h5 j)
    ·rw[aL h2,alv qqO];rfl) (.refl _) (λ_ _=>rfl) (λ_ _=>rfl) rfl (.inr ⟨_,h,rfl,h1⟩) (λb' h=>h.elim) (by simp[AO.isTok]) (λ_=>ht)
  ⟨b,h1,λj hj=>⟨.inr ⟨rfl,hj⟩,by have:=hrep j hj;rw[alz]at this;rw[rdv,aL h2];exact this⟩⟩
 refine⟨S',M',hk,T,λb' hb' j hj=>?_⟩;rw[h1]at hb';cases hb'
 refine⟨.inr ⟨rfl,hj⟩,?_⟩;have:=hrep j hj;rw[rdv,aL h2];rw[alz]at this;exact this
theorem Ig (hτ:bC P τ) {md rf CP YP} {o:Oper} {ρ:Operand->PV} {H:Hp} {n:Nat} {t:TypeId} {x y:Operand} (ho:o.op=.store t x y) (hfz:OV rf x=true) {K:KR}
 (h:opK τ md rf CP YP ρ H n o.dst o.op K):∃v sets accs news,K v sets accs news/\bJ P r o ρ H v sets accs news:=by
 rw[ho]at h;simp only[opK,bZ,hfz]at h;obtain⟨te,ht,h⟩:=h;have hd:∀c,o.op≠ .defer c:=λc e=>by rw[ho]at e;cases e
 unfold Mh at h;split at h
 ·rename_i k off hρ
  rw[bO]at h;obtain⟨cs,h,hs⟩:=pY h;rw[bD]at h;obtain⟨ob,hob,h⟩:=h;split at h
  ·rename_i c fz
   split at h
   ·exact h.elim
   ·obtain⟨c',h,hn1,hn2,hget⟩:=EO h
    obtain⟨d,hK,d1,d2,d3⟩:=iC h;refine⟨_,_,_,_,hK,?_⟩;intro S w ι H' a next Q M hr ha hn hk;have hob':=(ha k qqS).trans hob;have hr1:=hr x (by simp[ho,Op.operands])
    obtain⟨e1,e2,e3⟩:=hs (hr y (by simp[ho,Op.operands]))
    rw[hρ]at hr1;obtain⟨b,arr,e,g1,g2,g3,g4,g5⟩:=M.obj k _ hob';cases hev:a.eval x<;>rw[hev]at hr1<;>cases hr1
    rename_i b' hb';rw[g1]at hb';cases hb'
    have hone:∀v∈(a.eval y).cells.toList,v.oneCell'=true:=by
     intro v hv;obtain⟨i,hi,rfl⟩:=alG hv;have h0:=e3 i (by rw[e2];simpa using hi)
     have:=h0.1.oneCell h0.2;simpa [alz,alv (show i<(a.eval y).cells.size by simpa using hi)]using this
    have hsz:off+0+(a.eval y).cells.toList.length≤arr.size:=by simp[<-e2];omega
    obtain⟨w',r1,u⟩:=bT P (a.eval y).cells.toList g2 hone hsz;have hc':∀j,j<c'.ncell->Rep S w ι (c'.get j) ((putRow arr (off+0) (a.eval y).cells.toList).getD j undef):=by
     intro j hj;refine hget j S w ι _ ?_ qqO;rw[fP _ _ _ _ (by simp[<-e2];omega)]
     simp only[alg,alY,<-e2];split
     ·rename_i hin
      have:=(e3 (j-off) qqO).1;simpa [alz]using this
     ·have:=g4 j qqO
      simpa using this
    obtain⟨M',T⟩:=M.write hob' g1 g2 u (by rw[cK];exact alo _) (by rw[cK];omega) hc'
    obtain⟨S1,M1,K1,T1,_⟩:=M'.freeze (k:=k) (c:=c') (c':=d) (by rw[aW,if_pos rfl]) d2 (λj hj=>by intro S w ι v hr;exact d3 j hj hr)
    have hHH:∀k',av (aP (aP H' k (.cells c' false)) k (.cells d true)) k'=av (aP H' k (.cells d true)) k':=λk'=>by
     rw[aW,aW,aW];by_cases e:k'=k
     ·rw[if_pos e,if_pos e]
     ·rw[if_neg e,if_neg e,if_neg e]
    refine fB hd (w':=w') ?_ (hk undef S1 w' ι (M1.congr hHH) (.refl _) ((T 0).keeps.trans K1) (.any _ _) (λp=>((T p).trans (T1 p)).congr' hHH));simp only[execOp,ho];refine kZ ?_;simp only[Instr.storeAt,hev,Instr.sureAddr,Sem.run_bind,Sem.run_pure,Result.andThen,storeVar,bK hτ ht];rw[if_neg (by simp[<-e2,e1])]
    simpa [Result.andThen]using r1
  ·exact h.elim
 ·exact h.elim
theorem Mem.frozen {S:Imm} {w:World} {ι:Ix} {H:Hp} (M:Mem S w ι H) {k b:Nat} {c:CL} (h:av H k=some (.cells c true)) (hb:ι.o k=some b):
 ∀j,j<c.ncell->S b j/\Rep S w noI (c.get j) (rdv w b j):=by
 obtain⟨b',h1,h2⟩:=M.obj k _ h;rw[hb]at h1;cases h1
 exact h2
theorem Pq:∀(ps:List PV) {H:Hp} {K:List PV->List (Nat × AO)->List Nat->Prop},tF H ps K->∃cs sets acc,K cs sets acc/\
 ∀{S:Imm} {w:World} {ι:Ix} {H':Hp} {vs:List Value},Mem S w ι H'->(∀k∈acc,av H' k=av H k)->ps.length=vs.length->(∀i,i<ps.length->Rep S w ι (aG ps i) (vs.getD i undef))->
  ∃S',Mem S' w ι (bE H' sets)/\Keeps S w S' w/\(∀p,Tr p S w ι H' S' w ι (bE H' sets))/\cs.length=vs.length/\∀i,i<cs.length->Rep S' w ι (aG cs i) (vs.getD i undef):=by
 intro ps;induction ps with
 |nil=>
  intro H K h;exact⟨_,_,_,h,λM ha hl hr=>⟨_,M,.refl _ _,λp=>.refl _ _ _ _ _,hl,λi hi=>by simp at hi⟩⟩
 |cons p ps ih=>
  intro H K h;have keep:∀{H:Hp} {K:List PV->List (Nat × AO)->List Nat->Prop},(tF H ps λcs sets acc=>K (p::cs) sets acc)->∃cs sets acc,K cs sets acc/\
   ∀{S:Imm} {w:World} {ι:Ix} {H':Hp} {vs:List Value},Mem S w ι H'->(∀k∈acc,av H' k=av H k)->(p::ps).length=vs.length->(∀i,i<(p::ps).length->Rep S w ι (aG (p::ps) i) (vs.getD i undef))->
    ∃S',Mem S' w ι (bE H' sets)/\Keeps S w S' w/\(∀p,Tr p S w ι H' S' w ι (bE H' sets))/\cs.length=vs.length/\∀i,i<cs.length->Rep S' w ι (aG cs i) (vs.getD i undef):=by
   intro H K h;obtain⟨cs,sets,acc,hK,hs⟩:=ih h;refine⟨_,_,_,hK,λM ha hl hr=>?_⟩;rename_i S w ι H' vs;cases vs with
   |nil=>simp at hl
   |cons v vs=>
    obtain⟨S',M',k',T,hl',hr'⟩:=hs (vs:=vs) M ha (by simpa using hl) (λi hi=>by simpa [aG]using hr (i+1) (by simpa using hi))
    refine⟨S',M',k',T,by simp[hl'],λi hi=>?_⟩
    cases i with
    |zero=>exact(hr 0 qqS).mono k' _ (.refl _)
    |succ i=>simpa [aG]using hr' i (by simpa using hi)
  unfold tF at h;split at h
  ·rename_i k off
   rw[bD]at h;obtain⟨ob,hob,h⟩:=h;split at h
   ·rename_i ds fz
    split at h
    ·obtain⟨cs,sets,acc,hK,hs⟩:=ih h
     refine⟨_,_,_,hK,λM ha hl hr=>?_⟩;rename_i S w ι H' vs;cases vs with
     |nil=>simp at hl
     |cons v vs=>
      have hob':=(ha k qqS).trans hob;obtain⟨S',M',k',T,hl',hr'⟩:=hs (vs:=vs) M (λk' hk'=>ha k' (by simp[hk'])) (by simpa using hl) (λi hi=>by simpa [aG]using hr (i+1) (by simpa using hi))
      refine⟨S',M',k',T,by simp[hl'],λi hi=>?_⟩
      cases i with
      |zero=>
       have h0:=hr 0 qqS;simp only[aG,amP]at h0⊢;cases h0 with
       |rp _ _ _ b hb=>
        have hf:=M.frozen hob' hb;have:=Rep.ip (S:=S) (w:=w) ι (.pv ds) off b 0 (λj hj=>by rw[alO];exact(hf j hj).1) (λj hj=>by rw[alO];exact(hf j hj).2)
        rw[alO]at this;exact this.mono k' _ (.refl _)
      |succ i=>simpa [aG]using hr' i (by simpa using hi)
    ·split at h
     ·rename_i es hes
      rw[bN,lD]at h;obtain⟨cs,sets,acc,hK,hs⟩:=ih h;refine⟨_,_,_,hK,λM ha hl hr=>?_⟩;rename_i S w ι H' vs;cases vs with
      |nil=>simp at hl
      |cons v vs=>
       have hob':=(ha k qqS).trans hob;obtain⟨q1,q2⟩:=kX hes;obtain⟨S1,M1,k1,T1,F1⟩:=M.freeze (c':=.pv es) hob' q1 (λj hj=>by intro S w ι v hr;exact q2 j hj hr)
       obtain⟨S',M',k',T,hl',hr'⟩:=hs (vs:=vs) M1 (λk' hk'=>by
        rw[aW,aW];by_cases e:k'=k
        ·simp[e]
        ·rw[if_neg e,if_neg e];exact ha k' (by simp[hk'])) (by simpa using hl)
        (λi hi=>by have:=(hr (i+1) (by simpa using hi)).mono k1 _ (.refl _);simpa [aG]using this)
       refine⟨S',M',k1.trans k',λp=>(T1 p).trans (T p),by simp[hl'],λi hi=>?_⟩
       cases i with
       |zero=>
        have h0:=hr 0 qqS;simp only[aG,amP]at h0⊢;cases h0 with
        |rp _ _ _ b hb=>
         have hf:=F1 b hb;have:=Rep.ip (S:=S1) (w:=w) ι (.pv es) off b 0 (λj hj=>by rw[alO];exact(hf j hj).1) (λj hj=>by rw[alO];exact(hf j hj).2)
         rw[alO]at this;exact this.mono k' _ (.refl _)
       |succ i=>simpa [aG]using hr' i (by simpa using hi)
     ·exact keep h
   ·exact keep h
  ·rw[bO]at h;exact keep h
theorem Dx {md rf CP YP} {o:Oper} {ρ:Operand->PV} {H:Hp} {n:Nat} {fn:Fn} {fs cs:Array Operand} (ho:o.op=.makeFunc fn fs cs) {K:KR}
 (h:opK τ md rf CP YP ρ H n o.dst o.op K):∃v sets accs news,K v sets accs news/\bJ P r o ρ H v sets accs news:=by
 rw[ho]at h;have hd:∀c,o.op≠ .defer c:=λc e=>by rw[ho]at e;cases e
 simp only[opK,bN]at h;split at h
 ·refine⟨_,_,_,_,h,aX hd λS w ι H' a M hr ha=>?_⟩
  have h1:=lF (a:=a) fs (λx hx=>hr x (by simp[ho,Op.operands]at hx⊢;exact .inl hx))
  have h2:=lF (a:=a) cs (λx hx=>hr x (by simp[ho,Op.operands]at hx⊢;exact .inr hx))
  exact⟨.func fn (fs.map a.eval) (cs.map a.eval),by simp only[execOp,ho];exact eH rfl,.fn _ _ _ _ _ _ h1.1 h2.1 h1.2 h2.2⟩
 ·obtain⟨ds,sets,acc,hK,hs⟩:=Pq _ h
  refine⟨_,_,_,_,hK,λS w ι H' a next Q M hr ha hn hk=>?_⟩;have h1:=lF (a:=a) fs (λx hx=>hr x (by simp[ho,Op.operands]at hx⊢;exact .inl hx))
  have h2:=lF (a:=a) cs (λx hx=>hr x (by simp[ho,Op.operands]at hx⊢;exact .inr hx))
  obtain⟨S',M',k',T,hl,hr'⟩:=hs (vs:=(cs.map a.eval).toList) M ha (by simpa using h2.1) (λi hi=>by have:=h2.2 i hi;simpa [alz]using this)
  refine cZ hd (w':=w) (val:=.func fn (fs.map a.eval) (cs.map a.eval)) (by simp only[execOp,ho];exact eH rfl) (hk _ S' w ι M' (.refl _) k' ?_ T)
  exact .fn _ _ _ _ _ _ h1.1 (by simpa using hl) (λi hi=>(h1.2 i hi).mono k' _ (.refl _)) (λi hi=>by have:=hr' i hi;simpa [alz]using this)
def Tc (P:Program) (g:FuncId) (args:List PV) (v:PV):Prop:=
 ∀(S:Imm) (w:World) (ι:Ix) (vs:Array Value),bH S w ι args vs->∃val,(callFunc g vs).run P w=.ok (.value val) w/\Rep S w ι v val
def oM (P:Program) (B:Imm->World->Prop) (g:FuncId) (args:List PV) (H0:Hp) (v:PV) (sets:List (Nat × AO)) (accs news:List Nat):Prop:=
 ((∀vs w,(callFunc g vs).run P w=.ok (.enter g vs) w)/\
 ∀(S:Imm) (w:World) (ι:Ix) (H:Hp) (vs:Array Value),B S w->Mem S w ι H->bH S w ι args vs->(∀k∈accs,av H k=av H0 k)->(∀k∈news,av H k=none)->
  CallsIn (Fw none) 0 P g vs w λe w'=>∃val S' ι',e=.returned val/\Mem S' w' ι' (bE H sets)/\ι.le ι'/\Keeps S w S' w'/\Rep S' w' ι' v val/\∀p,Tr p S w ι H S' w' ι' (bE H sets))∨
 (sets=[]/\Tc P g args v)
def rA:Imm->World->Prop:=gB
def iX (P:Program) (g:FuncId) (args:List PV) (H0:Hp) (v:PV) (sets:List (Nat × AO)) (accs news:List Nat):Prop:=oM P rA g args H0 v sets accs news
theorem iX.up {P:Program} {g:FuncId} {args:List PV} {H0:Hp} {v:PV} {sets:List (Nat × AO)} {accs news:List Nat} (h:iX P g args H0 v sets accs news) (B:Imm->World->Prop) (hg:∀S w,B S w->gB S w):oM P B g args H0 v sets accs news:=
 h.imp (λh=>⟨h.1,λS w ι H vs hb=>h.2 S w ι H vs (hg _ _ hb)⟩) id
def j5 (P:Program) (B:Imm->World->Prop) (CP:CPT):Prop:=∀g args n H K,CP g args n H K->∃v sets accs news,K v sets accs news/\oM P B g args H v sets accs news
def aZ (P:Program) (CP:CPT):Prop:=j5 P rA CP
theorem aZ.up {P:Program} {CP:CPT} (h:aZ P CP) (B:Imm->World->Prop) (hg:∀S w,B S w->gB S w:=by first|exact λ_ _ h=>h|exact λ_ _ h=>h.2|exact λ_ _ h=>h.2.2):j5 P B CP:=λg args n H K hk=>by
 obtain⟨v,sets,accs,news,h1,h2⟩:=h g args n H K hk;exact⟨v,sets,accs,news,h1,iX.up h2 B hg⟩
abbrev YPT:=Fn->Array Value->Array Value->List PV->Nat->Hp->KR->Prop
def Xi (P:Program) (r:Option Nat) (B:Imm->World->Prop) (f:Fn) (us vs:Array Value) (args:List PV) (H0:Hp) (v:PV) (sets:List (Nat × AO)) (accs news:List Nat):Prop:=
 ∀(S:Imm) (w:World) (ι:Ix) (H:Hp) (o:Oper) (c:Call) (a:Act) (next:Act->World->Prop) (Q:Exit->Act->World->Prop) (vals:Array Value),o.op=.call c->
  B S w->Mem S w ι H->bH S w ι args vals->(∀k∈accs,av H k=av H0 k)->(∀k∈news,av H k=none)->
  (∀(val:Value) (S':Imm) (w':World) (ι':Ix),Mem S' w' ι' (bE H sets)->ι.le ι'->Keeps S w S' w'->Rep S' w' ι' v val->(∀p,Tr p S w ι H S' w' ι' (bE H sets))->next (a.put o.dst val) w')->
  o.uponIn (Fw r) 0 P a next Q ((invoke (.fn f vs) (us++vals)).run P w)
def ni (P:Program) (r:Option Nat) (B:Imm->World->Prop) (YP:YPT):Prop:=
 ∀f us vs args n H K,YP f us vs args n H K->∃v sets accs news,K v sets accs news/\Xi P r B f us vs args H v sets accs news
def mD (P:Program) (r:Option Nat) (B:Imm->World->Prop) (o:Oper) (ρ:Operand->PV) (H0:Hp) (v:PV) (sets:List (Nat × AO)) (accs news:List Nat):Prop:=
 ∀(S:Imm) (w:World) (ι:Ix) (H:Hp) (a:Act) (next:Act->World->Prop) (Q:Exit->Act->World->Prop),
  B S w->Mem S w ι H->(∀x∈o.op.operands.toList,Rep S w ι (ρ x) (a.eval x))->(∀k∈accs,av H k=av H0 k)->(∀k∈news,av H k=none)->
  (∀(val:Value) (S':Imm) (w':World) (ι':Ix),Mem S' w' ι' (bE H sets)->ι.le ι'->Keeps S w S' w'->Rep S' w' ι' v val->(∀p,Tr p S w ι H S' w' ι' (bE H sets))->next (a.put o.dst val) w')->
  o.wpIn (Fw r) 0 P a w next Q
theorem bJ.toB {B:Imm->World->Prop} {o:Oper} {ρ:Operand->PV} {H0:Hp} {v:PV} {sets:List (Nat × AO)} {accs news:List Nat} (h:bJ P r o ρ H0 v sets accs news):mD P r B o ρ H0 v sets accs news:=
 λS w ι H a next Q _=>h S w ι H a next Q
theorem Bz {n:Nat} {f:FuncId} {args:Array Value} {w:World} {R:Ending->World->Prop} (h:CallsIn (Fw none) n P f args w R):CallsIn (Fw r) n P f args w R:=h
theorem gK {S:Imm} {w:World} {ι:Ix} {ps qs:List PV} {us vs:Array Value} (h:bH S w ι ps us) (g:bH S w ι qs vs):bH S w ι (ps++qs) (us++vs):=by
 refine⟨by simp[h.1,g.1],λi hi=>?_⟩
 rw[alz];by_cases e:i<ps.length
 ·rw[(nQ ps qs i).1 e,amC (by rw[<-h.1];exact e),<-alz]
  exact h.2 i e
 ·obtain⟨d,rfl⟩:∃d,i=ps.length+d:=⟨i-ps.length,qqO⟩
  rw[(nQ ps qs d).2,amD (by rw[<-h.1];omega),<-h.1,amN,<-alz]
  exact g.2 d (by simp at hi;omega)
theorem BA {md rf CP YP} {B:Imm->World->Prop} (hC:j5 P B CP) (hY:ni P r B YP) {o:Oper} {ρ:Operand->PV} {H:Hp} {n:Nat} {f:Operand} {args:Array Operand} {ats:Array TypeId} (ho:o.op=.call ⟨.value f,args,ats⟩) {K:KR}
 (h:opK τ md rf CP YP ρ H n o.dst o.op K):∃v sets accs news,K v sets accs news/\mD P r B o ρ H v sets accs news:=by
 rw[ho]at h;simp only[opK]at h;have hd:∀c,o.op≠ .defer c:=λc e=>by rw[ho]at e;cases e
 have hargs:∀{S:Imm} {w:World} {ι:Ix} {a:Act},(∀x∈o.op.operands.toList,Rep S w ι (ρ x) (a.eval x))->bH S w ι (kS ρ args.toList) (args.map a.eval):=by
  intro S w ι a hr;exact lF args (λx hx=>hr x (by simp[ho,Op.operands,Call.operands]at hx⊢;exact .inr hx))
 have hf:∀{S:Imm} {w:World} {ι:Ix} {a:Act},(∀x∈o.op.operands.toList,Rep S w ι (ρ x) (a.eval x))->Rep S w ι (ρ f) (a.eval f):=λhr=>hr f (by simp[ho,Op.operands,Call.operands])
 split at h
 ·rename_i g fs cs hρ
  rw[bN]at h;obtain⟨v,sets,accs,news,hK,hsd⟩:=hC _ _ _ _ _ h;refine⟨v,sets,accs,news,hK,λS w ι H' a next Q hBw M hr ha hn hk=>?_⟩;have h1:=hargs hr;have h2:=hf hr;rw[hρ]at h2;generalize hv:a.eval f=fv at h2
  cases h2 with
  |fn _ _ _ _ us vs hkk hl hu hvs=>
   rcases hsd with⟨hent,hs⟩|⟨rfl,hl0⟩
   rotate_left
   ·obtain⟨val,hrun,hrep⟩:=hl0 S w ι _ (gK (gK ⟨hkk,hu⟩ h1) ⟨hl,hvs⟩)
    exact cZ hd (by simp only[execOp,ho,resolve,hv,Deferred.ofValue,Sem.run_bind,Sem.run_pure,Result.andThen,invoke,hrun]) (hk val S w ι M (.refl _) (.refl _ _) hrep (λp=>.refl _ _ _ _ _))
   have hres:(execOp a.eval o).run P w=.ok (.enter g (us++args.map a.eval++vs)) w:=by
    simp only[execOp,ho,resolve,hv,Deferred.ofValue,Sem.run_bind,Sem.run_pure,Result.andThen,invoke,hent]
   refine⟨λ_ _=>trivial,?_⟩;rw[Oper.semAt_eq _ _ _ hd,hres,Oper.uponIn_enter];refine⟨λh=>by simp[Fw,Fence.wide]at h,Bz ((hs S w ι H' _ hBw M (gK (gK ⟨hkk,hu⟩ h1) ⟨hl,hvs⟩) ha hn).mono ?_)⟩
   rintro e w' ⟨val,S',ι',rfl,M',L',K',R',T'⟩
   exact hk val S' w' ι' M' L' K' R' T'
 ·rename_i g us vs hρ
  rw[bN]at h;obtain⟨v,sets,accs,news,hK,hs⟩:=hY _ _ _ _ _ _ _ h;refine⟨v,sets,accs,news,hK,λS w ι H' a next Q hB M hr ha hn hk=>?_⟩;have h1:=hargs hr;have h2:=hf hr;rw[hρ]at h2;generalize hv:a.eval f=fv at h2
  cases h2
  have hres:(execOp a.eval o).run P w=(invoke (.fn g vs) (us++args.map a.eval)).run P w:=by
   simp only[execOp,ho,resolve,hv,Deferred.ofValue,Sem.run_bind,Sem.run_pure,Result.andThen]
  refine⟨λ_ _=>trivial,?_⟩;rw[Oper.semAt_eq _ _ _ hd,hres];exact hs S w ι H' o _ a next Q _ ho hB M h1 ha hn hk
 ·exact h.elim
theorem Le:∀{ms:List Method} {s:String} {g:Nat},Bf ms s=some g->∃m,ms.find? (λm=>m.name==s)=some m/\m.path.toList=[]/\m.func=some (g,false):=by
 intro ms;induction ms with
 |nil=>intro s g h;cases h
 |cons m r ih=>
  intro s g h;unfold Bf at h;split at h
  ·rename_i hb
   split at h
   ·rename_i hp
    split at h
    ·rename_i g' hf
     cases h
     exact⟨m,by simp[amZ,hb],hp,hf⟩
    ·cases h
   ·cases h
  ·rename_i hb
   obtain⟨m',h1,h2⟩:=ih h;exact⟨m',by simp[amZ,hb,h1],h2⟩
theorem Pt (hτ:bC P τ) {t:TypeId} {te:TE} (ht:τ t=some te) (hp:Hr te.und=true) {name:String} {g:Nat} (hm:Bf te.meths name=some g) (v:Value) (w:World) (n:Nat):
 (method (n+1) t v name).run P w=.ok (g,v) w:=by
 obtain⟨i,hi,hms⟩:=hτ.meth t te ht;obtain⟨m,h1,h2,h3⟩:=Le hm;have h4:i.methods.find? (λm=>m.name==name)=some m:=by rw[<-hms]at h1;rw[<-Array.find?_toList];exact h1
 unfold method;simp only[Sem.run_bind,run_typeInfo w hi,Result.andThen,h4,h2,follow,Sem.run_pure,h3,receiverAt,run_underlying (hτ.und _ _ ht)];generalize te.und=d at hp⊢
 cases d<;>first|(simp[Hr]at hp;done)|(simp only[Place.get,Sem.run_pure,Result.andThen];done)|(simp[Place.get,Result.andThen];done)
theorem FW (hτ:bC P τ) {md rf CP YP} {o:Oper} {ρ:Operand->PV} {H:Hp} {n:Nat} {t:TypeId} {x:Operand} (ho:o.op=.makeInterface t x) {K:KR}
 (h:opK τ md rf CP YP ρ H n o.dst o.op K):∃v sets accs news,K v sets accs news/\bJ P r o ρ H v sets accs news:=by
 rw[ho]at h;simp only[opK,bZ,aK,bO]at h;obtain⟨te,ht,hni,hK⟩:=h;refine⟨_,_,_,_,hK,aX (λc e=>by rw[ho]at e;cases e) λS w ι H' a M hr ha=>⟨.iface t (a.eval x),?_,.ifc _ _ _ _ (hr x (by simp[ho,Op.operands]))⟩⟩
 simp only[execOp,ho];refine eH ?_;simp only[Instr.makeInterface,Sem.run_bind,run_underlying (hτ.und _ _ ht),Result.andThen];cases hu:te.und<;>first|(rw[hu]at hni;simp[SN]at hni;done)|rfl
theorem Ih (hτ:bC P τ) {md rf CP YP} {B:Imm->World->Prop} (hC:j5 P B CP) {o:Oper} {ρ:Operand->PV} {H:Hp} {n:Nat} {f:Operand} {name:String} {args:Array Operand} {ats:Array TypeId} (ho:o.op=.call ⟨.invoke f name,args,ats⟩) {K:KR}
 (h:opK τ md rf CP YP ρ H n o.dst o.op K):∃v sets accs news,K v sets accs news/\mD P r B o ρ H v sets accs news:=by
 rw[ho]at h;simp only[opK]at h;have hd:∀c,o.op≠ .defer c:=λc e=>by rw[ho]at e;cases e
 have hargs:∀{S:Imm} {w:World} {ι:Ix} {a:Act},(∀x∈o.op.operands.toList,Rep S w ι (ρ x) (a.eval x))->bH S w ι (kS ρ args.toList) (args.map a.eval):=by
  intro S w ι a hr;exact lF args (λx hx=>hr x (by simp[ho,Op.operands,Call.operands]at hx⊢;exact .inr hx))
 have hf:∀{S:Imm} {w:World} {ι:Ix} {a:Act},(∀x∈o.op.operands.toList,Rep S w ι (ρ x) (a.eval x))->Rep S w ι (ρ f) (a.eval f):=λhr=>hr f (by simp[ho,Op.operands,Call.operands])
 split at h
 ·rename_i t p hρ
  rw[bZ]at h;obtain⟨te,ht,h⟩:=h;rw[aK]at h;obtain⟨hp,h⟩:=h;split at h
  ·rename_i g hg
   rw[bN]at h;obtain⟨v,sets,accs,news,hK,hsd⟩:=hC _ _ _ _ _ h;refine⟨v,sets,accs,news,hK,λS w ι H' a next Q hBw M hr ha hn hk=>?_⟩;have h1:=hargs hr;have h2:=hf hr;rw[hρ]at h2;generalize hv:a.eval f=fv at h2
   cases h2 with
   |ifc _ _ _ u hu=>
    have h3:bH S w ι [p] #[u]:=⟨rfl,λi hi=>by simp at hi;subst hi;exact hu⟩
    have hres:(execOp a.eval o).run P w=(callFunc g (#[u]++args.map a.eval)).run P w:=by
     obtain⟨d,hd⟩:∃d,P.types.size+Made.depth=d+1:=⟨P.types.size+Made.depth-1,by unfold Made.depth;omega⟩
     simp only[execOp,ho,resolve,hv,Sem.run_bind,Sem.run_pure,Result.andThen,invoke];have hx:(args.map a.eval).extract 0 args.size=args.map a.eval:=by
      have:=Array.extract_size (xs:=args.map a.eval)
      rwa [amt]at this
     simp only[Array.getElem?_append,ams];simp[callMethod,run_program,hd,Pt hτ ht hp hg,Result.andThen,hx]
    rcases hsd with⟨hent,hs⟩|⟨rfl,hl0⟩
    rotate_left
    ·obtain⟨val,hrun,hrep⟩:=hl0 S w ι _ (gK h3 h1)
     exact cZ hd (hres.trans hrun) (hk val S w ι M (.refl _) (.refl _ _) hrep (λp=>.refl _ _ _ _ _))
    refine⟨λ_ _=>trivial,?_⟩;rw[Oper.semAt_eq _ _ _ hd,hres,hent,Oper.uponIn_enter];refine⟨λh=>by simp[Fw,Fence.wide]at h,Bz ((hs S w ι H' _ hBw M (gK h3 h1) ha hn).mono ?_)⟩
    rintro e w' ⟨val,S',ι',rfl,M',L',K',R',T'⟩
    exact hk val S' w' ι' M' L' K' R' T'
  ·exact h.elim
 ·exact h.elim
theorem Td (hτ:bC P τ) {md rf CP YP} {B:Imm->World->Prop} (hC:j5 P B CP) (hY:ni P r B YP) {o:Oper} {ρ:Operand->PV} {H:Hp} {n:Nat} {K:KR}
 (h:opK τ md rf CP YP ρ H n o.dst o.op K):∃v sets accs news,K v sets accs news/\mD P r B o ρ H v sets accs news:=by
 have up:(∃v sets accs news,K v sets accs news/\bJ P r o ρ H v sets accs news)->∃v sets accs news,K v sets accs news/\mD P r B o ρ H v sets accs news:=
  λ⟨v,sets,accs,news,h1,h2⟩=>⟨v,sets,accs,news,h1,h2.toB⟩
 cases ho:o.op with
 |move x=>exact up (Bj (.inl ho) h)
 |assign x=>exact up (Bj (.inr ho) h)
 |pick c x y=>exact up (O9 ho h)
 |alloc t=>exact up (KP hτ ho h)
 |box t x=>exact up (SS hτ ho h)
 |build t ps=>exact up (KV hτ ho h)
 |buildSlice t l ps=>exact up (zI hτ ho h)
 |insert t m k u=>exact up (Ie hτ ho h)
 |mapUpdate t m k u=>exact up (Bw hτ ho h)
 |load t x=>exact up (OY hτ ho h)
 |store t x y=>
  cases hfz:OV rf x with
  |false=>exact up (KQ hτ ho hfz h)
  |true=>exact up (Ig hτ ho hfz h)
 |nilCheck x=>exact up (Du ho h)
 |binOp op t x y u=>exact up (SX hτ ho h)
 |unOp op t x=>exact up (Xg hτ ho h)
 |convert s d x=>exact up (K5 hτ ho h)
 |makeInterface t x=>exact up (FW hτ ho h)
 |makeFunc f fs cs=>exact up (Dx ho h)
 |makeMap t x=>exact up (FV ho h)
 |makeSlice t l c=>exact up (Bv hτ ho h)
 |slice t x lo hi mx=>exact up (KZ hτ ho h)
 |fieldAddr t x f=>exact up (Bn hτ ho h)
 |field t x f=>exact up (KW hτ ho h)
 |indexAddr t x i=>exact up (Bo hτ ho h)
 |index t x i=>exact up (KY hτ ho h)
 |lookup t m k ok=>exact up (Ic hτ ho h)
 |extract x i=>exact up (FQ ho h)
 |call c=>
  obtain⟨cal,args,ats⟩:=c;cases cal with
  |value f=>exact BA hC hY ho h
  |invoke x m=>exact Ih hτ hC ho h
  |builtin b=>exact up (FU hτ ho rfl h)
 |_=>rw[ho]at h;exact h.elim
variable {P:Program} {r:Option Nat} {τ:TypeId->Option TE} {B:Imm->World->Prop}
structure Ent where
 run:Bool
 v:PV
 sets:List (Nat × AO)
 accs:List Nat
 news:List Nat
instance:Inhabited Ent:=⟨⟨true,.any,[],[],[]⟩⟩
def gI (env:Env) (dst:Option Nat) (v:PV):Env:=match dst with|none=>env|some d=>env.set d v
def keys:List (Nat × AO)->List Nat
 | []=>[]
 |(k,_)::r=>k::keys r
theorem vY (l:List PV) (i:Nat) (h:¬i<l.length):aG l i=.any:=by
 induction l generalizing i with
 |nil=>rfl
 |cons x xs ih=>cases i with
  |zero=>simp at h
  |succ i=>exact ih i (by simpa using h)
theorem Ii {a:Array Bool} {i j:Nat} {v d:Bool} (h:j≠i):(a.setIfInBounds i v).getD j d=a.getD j d:=by
 simp[alz,am0,Ne.symm h]
theorem o8 {S:Imm} {w:World} {ι:Ix} {env:Env} {a:Act} (h:bH S w ι env a.tmps) (x:Operand) (hx:∀g,x≠ .global g):Rep S w ι (eo env x) (a.eval x):=by
 cases x with
 |tmp t=>
  simp only[eo,Act.eval];by_cases ht:t<env.length
  ·exact h.2 t ht
  ·rw[vY _ _ ht];exact .any _ _
 |const v=>exact Dt v
 |global g=>exact absurd rfl (hx g)
 |func f=>exact .fn _ _ _ _ _ _ rfl rfl (λi hi=>by simp at hi) (λi hi=>by simp at hi)
theorem afY {S:Imm} {w:World} {ι:Ix} {env:Env} {a:Act} (hg:gB S w) (h:bH S w ι env a.tmps) (x:Operand):Rep S w ι (eo env x) (a.eval x):=by
 cases x with
 |global g=>
  simp only[eo,Act.eval];cases hc:xQ g with
  |none=>exact .any _ _
  |some c=>
   have:=Rep.ip (S:=S) (w:=w) ι c 0 g 0 (λj hj=>by rw[alO];exact((hg g c hc).2 j hj).1) (λj hj=>by rw[alO];exact((hg g c hc).2 j hj).2)
   exact this
 |_=>exact o8 h _ (λg e=>by cases e)
theorem zL {S:Imm} {w:World} {ι:Ix} {env:Env} {a:Act} (h:bH S w ι env a.tmps) (dst:Option Nat) {v:PV} {val:Value} (hv:Rep S w ι v val):bH S w ι (gI env dst v) (a.put dst val).tmps:=by
 cases dst with
 |none=>exact h
 |some d=>
  refine⟨by simp[gI,Act.put,h.1],λi hi=>?_⟩
  simp only[gI,List.length_set]at hi;simp only[gI,Act.put,pW,alz,am0];by_cases e:i=d
  ·subst e
   rw[if_pos ⟨rfl,hi⟩,if_pos rfl];simp only[<-h.1,hi,if_true,amj];exact hv
  ·rw[if_neg (λhh=>e hh.1),if_neg (Ne.symm e),<-alz]
   exact h.2 i hi
theorem put_defers (a:Act) (dst:Option Nat) (v:Value):(a.put dst v).defers=a.defers:=by cases dst<;>rfl
def GOK (ops:Array Oper) (env:Env) (o:Oper) (b:Bool):Prop:=
 match o.guard with
 |none=>b=true
 |some (j,want)=>∃d t,(ops[j]?).bind (·.dst)=some d/\(aG env d=.bp t∨aG env d=.bool t∨(aG env d=.tup []/\t=!want))/\b=(t==want)
theorem GOK.wanted {ops:Array Oper} {env:Env} {o:Oper} {b:Bool} (h:GOK ops env o b) {S:Imm} {w:World} {ι:Ix} {a:Act} (hr:bH S w ι env a.tmps):Region.wanted o (yielded ops a.tmps)=b:=by
 unfold GOK at h;unfold Region.wanted;cases hg:o.guard with
 |none=>rw[hg]at h;exact h.symm
 |some jw=>
  obtain⟨j,want⟩:=jw;rw[hg]at h;obtain⟨d,t,h1,h2,h3⟩:=h;have hlt:d<env.length:=by
   by_cases hd:d<env.length
   ·exact hd
   ·rw[vY _ _ hd]at h2;rcases h2 with h2|h2|⟨h2,_⟩<;>cases h2
  have hd:=hr.2 d hlt;rw[alz,alv (by rw[<-hr.1];exact hlt),amj]at hd
  have he:a.tmps[d]? =some (a.tmps[d]'(by rw[<-hr.1];exact hlt)):=alv _
  rcases h2 with h2|h2|⟨h2,ht⟩
  ·have hv:a.tmps[d]? =some (.bool t):=by rw[he];rw[h2]at hd;generalize a.tmps[d]'(by rw[<-hr.1];exact hlt)=x at hd;cases hd;rfl
   simp only[yielded,h1,am1,hv];rw[h3];cases t<;>cases want<;>rfl
  ·have hv:a.tmps[d]? =some (.bool t):=by rw[he];rw[h2]at hd;generalize a.tmps[d]'(by rw[<-hr.1];exact hlt)=x at hd;cases hd;rfl
   simp only[yielded,h1,am1,hv];rw[h3];cases t<;>cases want<;>rfl
  ·have hv:∃vs,a.tmps[d]? =some (.tuple vs):=by rw[he];rw[h2]at hd;generalize a.tmps[d]'(by rw[<-hr.1];exact hlt)=x at hd;cases hd;exact⟨_,rfl⟩
   obtain⟨vs,hv⟩:=hv;simp only[yielded,h1,am1,hv];rw[h3,ht];cases want<;>rfl
def kJ (P:Program) (r:Option Nat) (B:Imm->World->Prop) (ops:Array Oper) (env:Env) (H:Hp) (o:Oper) (e:Ent):Prop:=
 GOK ops env o e.run/\(e.run=true->mD P r B o (eo env) H e.v e.sets e.accs e.news)/\(∀k∈e.news,av H k=none)/\
 (e.run=false->e.v=.tup []/\e.sets=[]/\e.accs=[]/\e.news=[])
def Chain (P:Program) (r:Option Nat) (B:Imm->World->Prop) (ops:Array Oper) (es:Nat->Ent):List Nat->Env->Hp->(Env->Hp->Prop)->Prop
 | [],env,H,K=>K env H
 |i::R,env,H,K=>∃o,ops[i]? =some o/\kJ P r B ops env H o (es i)/\Chain P r B ops es R (gI env o.dst (es i).v) (bE H (es i).sets) K
def looks (ops:Array Oper) (o:Oper):List Nat:=
 (o.op.operands.toList.filterMap λ|.tmp t=>some t|_=>none)++(match o.guard with|some (j,_)=>((ops[j]?).bind (·.dst)).toList|none=>[])
structure Apart (ops:Array Oper) (p o:Oper):Prop where
 po:∀d,p.dst=some d->d∉looks ops o
 op:∀d,o.dst=some d->d∉looks ops p
 dd:∀d,p.dst=some d->o.dst≠some d
structure vZ (e f:Ent):Prop where
 ef:∀k∈keys e.sets,k∉f.accs/\k∉keys f.sets
 fe:∀k∈keys f.sets,k∉e.accs/\k∉e.news
theorem kg {sets:List (Nat × AO)}:∀{H:Hp} {k:Nat},k∉keys sets->av (bE H sets) k=av H k:=by
 induction sets with
 |nil=>intro H k h;rfl
 |cons x xs ih=>
  intro H k h;obtain⟨i,a⟩:=x;simp only[keys,am2,not_or]at h;simp only[bE];rw[ih h.2,aW,if_neg h.1]
theorem Pv {sets:List (Nat × AO)}:∀{H:Hp} {k:Nat},av (bE H sets) k=none->av H k=none:=by
 induction sets with
 |nil=>intro H k h;exact h
 |cons x xs ih=>
  intro H k h;obtain⟨i,a⟩:=x;have:=ih (H:=aP H i a) h;rw[aW]at this;split at this
  ·cases this
  ·exact this
theorem Te {sets:List (Nat × AO)}:∀{H:Hp} {i:Nat} {a:AO},i∉keys sets->bE (aP H i a) sets=aP (bE H sets) i a:=by
 induction sets with
 |nil=>intro H i a h;rfl
 |cons x xs ih=>
  intro H i a h;obtain⟨j,c⟩:=x;simp only[keys,am2,not_or]at h;simp only[bE];rw[SE _ _ _ _ _ h.1,ih h.2]
theorem Pw {A C:List (Nat × AO)}:∀{H:Hp},(∀k∈keys A,k∉keys C)->bE (bE H A) C=bE (bE H C) A:=by
 induction A with
 |nil=>intro H h;rfl
 |cons x xs ih=>
  intro H h;obtain⟨i,a⟩:=x;simp only[keys,am2]at h;simp only[bE];rw[ih (λk hk=>h k (.inr hk)),Te (h i (.inl rfl))]
theorem Xj {ops:Array Oper} {o:Oper} {t:Nat} (h:Operand.tmp t∈o.op.operands.toList):t∈looks ops o:=by
 unfold looks;exact List.mem_append_left _ (List.mem_filterMap.2 ⟨_,h,rfl⟩)
theorem EY {env:Env} {dst:Option Nat} {v:PV} {t:Nat} (h:∀d,dst=some d->t≠d):aG (gI env dst v) t=aG env t:=by
 cases dst with
 |none=>rfl
 |some d=>rw[gI,pW,if_neg (λhh=>h d rfl hh.1)]
theorem MB {ops:Array Oper} {o:Oper} {env:Env} {dst:Option Nat} {v:PV} (h:∀d,dst=some d->d∉looks ops o) {x:Operand} (hx:x∈o.op.operands.toList):eo (gI env dst v) x=eo env x:=by
 cases x with
 |tmp t=>exact EY λd hd e=>h d hd (by subst e;exact Xj hx)
 |const v=>rfl
 |global g=>rfl
 |func f=>rfl
theorem Ij {ops:Array Oper} {o:Oper} {env:Env} {dst:Option Nat} {v:PV} {b:Bool} (h:∀d,dst=some d->d∉looks ops o):GOK ops (gI env dst v) o b↔GOK ops env o b:=by
 unfold GOK;cases hg:o.guard with
 |none=>exact Iff.rfl
 |some jw=>
  obtain⟨j,want⟩:=jw;simp only;have:∀d',(ops[j]?).bind (·.dst)=some d'->aG (gI env dst v) d'=aG env d':=λd' hd'=>EY λd hd e=>h d hd (by
   subst e;unfold looks;rw[hg];exact List.mem_append_right _ (by simp[hd']))
  constructor
  ·rintro⟨d,t,h1,h2,h3⟩;exact⟨d,t,h1,by rwa [this d h1]at h2,h3⟩
  ·rintro⟨d,t,h1,h2,h3⟩;exact⟨d,t,h1,by rwa [this d h1],h3⟩
theorem mD.congr {o:Oper} {ρ ρ':Operand->PV} {H H':Hp} {v:PV} {sets:List (Nat × AO)} {accs news:List Nat} (h:mD P r B o ρ H v sets accs news)
 (hρ:∀x∈o.op.operands.toList,∀S w ι val,Rep S w ι (ρ' x) val->Rep S w ι (ρ x) val) (hH:∀k∈accs,av H' k=av H k):mD P r B o ρ' H' v sets accs news:=
 λS w ι H1 a next Q hB M hr ha hn hk=>h S w ι H1 a next Q hB M (λx hx=>hρ x hx _ _ _ _ (hr x hx)) (λk hk'=>(ha k hk').trans (hH k hk')) hn hk
theorem Tf {env:Env} {d d':Option Nat} {v v':PV} (h:∀x,d=some x->d'≠some x):gI (gI env d v) d' v'=gI (gI env d' v') d v:=by
 cases d with
 |none=>rfl
 |some x=>cases d' with
  |none=>rfl
  |some y=>simp only[gI];exact List.set_comm _ _ (λe=>h x rfl (by rw[e]))
theorem kJ.back {ops:Array Oper} {p o:Oper} {e f:Ent} {env:Env} {H:Hp} (hs:Apart ops p o) (hd:vZ e f) (h:kJ P r B ops (gI env p.dst e.v) (bE H e.sets) o f):kJ P r B ops env H o f:=by
 obtain⟨h1,h2,h3,h4⟩:=h;refine⟨(Ij hs.po).1 h1,λhr=>(h2 hr).congr (λx hx S w ι val hh=>by rw[MB hs.po hx];exact hh) (λk hk=>(kg (λhk'=>(hd.ef k hk').1 hk)).symm),λk hk=>Pv (h3 k hk),h4⟩
theorem kJ.forth {ops:Array Oper} {p o:Oper} {e f:Ent} {env:Env} {H:Hp} (hs:Apart ops p o) (hd:vZ e f) (h:kJ P r B ops env H p e):kJ P r B ops (gI env o.dst f.v) (bE H f.sets) p e:=by
 obtain⟨h1,h2,h3,h4⟩:=h;refine⟨(Ij hs.op).2 h1,λhr=>(h2 hr).congr (λx hx S w ι val hh=>by rw[MB hs.op hx]at hh;exact hh) (λk hk=>kg (λhk'=>(hd.fe k hk').1 hk)),λk hk=>?_,h4⟩
 rw[kg (λhk'=>(hd.fe k hk').2 hk)];exact h3 k hk
theorem Chain.pull {ops:Array Oper} {es:Nat->Ent} {K:Env->Hp->Prop} {i:Nat} {post:List Nat}:∀(pre:List Nat) {env:Env} {H:Hp},Chain P r B ops es (pre++i::post) env H K->
 (∀p∈pre,∀op oi,ops[p]? =some op->ops[i]? =some oi->Apart ops op oi/\vZ (es p) (es i))->
 ∃o,ops[i]? =some o/\kJ P r B ops env H o (es i)/\Chain P r B ops es (pre++post) (gI env o.dst (es i).v) (bE H (es i).sets) K:=by
 intro pre;induction pre with
 |nil=>intro env H h _;exact h
 |cons p pre ih=>
  intro env H h hi;obtain⟨op,ho,he,hc⟩:=h;obtain⟨oi,hoi,hei,hci⟩:=ih hc (λq hq=>hi q (by simp[hq]))
  obtain⟨a,d⟩:=hi p qqS op oi ho hoi;refine⟨oi,hoi,hei.back a d,op,ho,he.forth a d,?_⟩;rw[Tf (λx hx hx'=>a.dd x hx' hx),Pw (λk hk hk'=>(d.ef k hk').2 hk)];exact hci
structure At (B:Imm->World->Prop) (p:Nat) (S0:Imm) (w0:World) (ι0:Ix) (H0:Hp) (env:Env) (H:Hp) (a:Act) (w:World):Prop where
 ex:∃S ι,B S w/\Mem S w ι H/\bH S w ι env a.tmps/\xR w ι H a.defers/\(∀d∈a.defers,∀b,d.target=.collected b->w0.heap.size≤b)/\Tr p S0 w0 ι0 H0 S w ι H
structure BOK (B:Imm->World->Prop):Prop where
 mono:∀S w S' w',Keeps S w S' w'->Bel w w'->B S w->B S' w'
 glob:∀S w,B S w->gB S w
instance {B:Imm->World->Prop}:CoeFun (BOK B) (λ_=>∀S w S' w',Keeps S w S' w'->Bel w w'->B S w->B S' w'):=⟨BOK.mono⟩
theorem Ik (hB:BOK B) {ops:Array Oper} {o:Oper} {e:Ent} {env:Env} {H:Hp} (he:kJ P r B ops env H o e) {p:Nat} {S0:Imm} {w0:World} {ι0:Ix} {H0:Hp} {a:Act} {w:World}
 (h:At B p S0 w0 ι0 H0 env H a w) {i:Nat} (hi:ops[i]? =some o) {Q:Exit->Act->World->Prop} {K:Act->World->Prop}
 (hk:∀a' w',At B p S0 w0 ι0 H0 (gI env o.dst e.v) (bE H e.sets) a' w'->K a' w'):wpOpIn (Fw r) 0 P ops Q i K a w:=by
 obtain⟨S,ι,hb,M,R,hds,hdn,T⟩:=h.ex;obtain⟨h1,h2,h3,h4⟩:=he;unfold wpOpIn;simp only[hi];rw[h1.wanted R];cases hrun:e.run with
 |true=>
  simp only[if_true];refine h2 hrun S w ι H a K Q hb M (λx hx=>afY (hB.glob _ _ hb) R x) (λ_ _=>rfl) h3 (λval S' w' ι' M' L' K' R' T'=>hk _ _ ⟨S',ι',hB _ _ _ _ K' (T' 0).below hb,M',?_,by rw[put_defers];exact hds.tr (T' 0),by rw[put_defers];exact hdn,T.trans (T' p)⟩)
  exact zL (R.mono K' L') _ R'
 |false=>
  obtain⟨g1,g2,g3,g4⟩:=h4 hrun;simp only[amn,if_false];refine⟨λ_ _=>trivial,hk _ _ ⟨S,ι,hb,by rw[g2];exact M,?_,by rw[put_defers,g2];exact hds,by rw[put_defers];exact hdn,by rw[g2];exact T⟩⟩
  rw[g1];exact zL R _ (.tup _ _ _ rfl (λi hi=>by simp at hi))
theorem Px (hB:BOK B) {ops:Array Oper} {es:Nat->Ent} {K:Env->Hp->Prop} {p:Nat} {S0:Imm} {w0:World} {ι0:Ix} {H0:Hp} {Q:Exit->Act->World->Prop}
 (hQ:∀env H a w,K env H->At B p S0 w0 ι0 H0 env H a w->Q .normal a w):∀(R:List Nat) (env:Env) (H:Hp) (a:Act) (w:World),Chain P r B ops es R env H K->At B p S0 w0 ι0 H0 env H a w->
  wpOpsIn (Fw r) 0 P ops Q R a w:=by
 intro R;induction R with
 |nil=>intro env H a w h hA;exact hQ _ _ _ _ h hA
 |cons i R ih=>
  intro env H a w h hA;obtain⟨o,ho,he,hc⟩:=h;rw[wpOpsIn_cons];exact Ik hB he hA ho λa' w' hA'=>ih _ _ a' w' hc hA'
inductive Bef (ops:Array Oper):Nat->Nat->Prop where
 |edge {i j:Nat} {o:Oper} {e:Edge} (h:ops[j]? =some o) (he:e∈o.after) (hb:Region.binds .any e=true) (hi:e.on=i):Bef ops i j
 |trans {i j k:Nat}:Bef ops i j->Bef ops j k->Bef ops i k
theorem Tg (hB:BOK B) {ops:Array Oper} {es:Nat->Ent} {K:Env->Hp->Prop} {p:Nat} {S0:Imm} {w0:World} {ι0:Ix} {H0:Hp} {Q:Exit->Act->World->Prop}
 (hQ:∀env H a w,K env H->At B p S0 w0 ι0 H0 env H a w->Q .normal a w)
 (hback:∀(j:Nat) (o:Oper) (e:Edge),ops[j]? =some o->e∈o.after->Region.binds .any e=true->e.on<j)
 (hind:∀i j op oj,i<j->ops[i]? =some op->ops[j]? =some oj->¬Bef ops i j->Apart ops op oj/\vZ (es i) (es j)):
 ∀(fuel:Nat) (listed:Array Bool) (R:List Nat) (env:Env) (H:Hp) (a:Act) (w:World),R.Pairwise (·< ·)->(∀i,i∈R↔listed.getD i true=false)->listed.size=ops.size->
  (∀i j,Bef ops i j->listed.getD j false=true->listed.getD i false=true)->R.length≤fuel->
  Chain P r B ops es R env H K->At B p S0 w0 ι0 H0 env H a w->wpAnyIn (Fw r) 0 P .any ops Q fuel listed a w:=by
 have hready:∀(listed:Array Bool) (j:Nat),j∈Region.ready .any ops listed->(∀i j,Bef ops i j->listed.getD j false=true->listed.getD i false=true)->∀i,Bef ops i j->listed.getD i false=true:=by
  intro listed j hj hcl i hb;induction hb with
  |edge h he hb hi=>
   obtain⟨_,o,ho,hall⟩:=mem_ready.1 hj;rw[h]at ho;cases ho
   rw[<-hi];exact hall _ he hb
  |trans h1 h2 ih1 ih2=>exact hcl _ _ h1 (ih2 hj)
 intro fuel;induction fuel with
 |zero=>
  intro listed R env H a w hs hm hsz hcl hle hc hA;have hR:R=[]:=amT.1 qqO;subst hR;refine⟨?_,hQ _ _ _ _ hc hA⟩;rw[List.eq_nil_iff_forall_not_mem];intro j hj;have:=(hm j).2 (mem_ready.1 hj).1;simp at this
 |succ fuel ih=>
  intro listed R env H a w hs hm hsz hcl hle hc hA;refine⟨λhnil=>?_,λi hi=>?_⟩
  ·
   cases R with
   |nil=>exact hQ _ _ _ _ hc hA
   |cons i R=>
    have hi:=(hm i).1 qqS;have hlt:i<listed.size:=by
     rcases alq i listed.size with h|h
     ·exact h
     ·rw[alz,alr h]at hi;simp at hi
    have:i∈Region.ready .any ops listed:=by
     refine mem_ready.2 ⟨hi,ops[i]'qqO,alv qqO,λe he hb=>?_⟩;have hb':=hback i _ e (alv qqO) he hb;have hnot:¬e.on∈i::R:=by
      intro hmem;rcases am2.1 hmem with h|h
      ·omega
      ·have:=(am3.1 hs).1 _ h;omega
     have h2:¬listed.getD e.on true=false:=λh=>hnot ((hm e.on).2 h);have hlt':e.on<listed.size:=qqO;simp[alz,hlt']at h2⊢;exact h2
    rw[hnil]at this;cases this
  ·have hiR:=(hm i).2 (mem_ready.1 hi).1
   obtain⟨pre,post,rfl⟩:=List.append_of_mem hiR;have hlt:∀q∈pre,q<i:=λq hq=>(am4.1 hs).2.2 q hq i qqS;obtain⟨o,ho,he,hc'⟩:=hc.pull pre (λq hq op oi hop hoi=>hind q i op oi (hlt q hq) hop hoi (λhb=>by
    have h1:=hready listed i hi hcl q hb;have h2:=(hm q).1 (by simp[hq])
    rw[alz]at h1 h2;cases hq':listed[q]? with
    |none=>rw[hq']at h2;simp at h2
    |some x=>rw[hq']at h1 h2;simp at h1 h2;rw[h1]at h2;cases h2))
   refine Ik hB he hA ho λa' w' hA'=>ih (listed.setIfInBounds i true) (pre++post) _ _ a' w' ?_ ?_ (by simpa using hsz) ?_ (by simp at hle⊢;omega) hc' hA'
   ·exact List.Pairwise.sublist (List.Sublist.append_left (List.sublist_cons_self i post) pre) hs
   ·intro j
    have hnd:i∉pre++post:=by
     intro hmem;have hp:=hs;rw[am4]at hp;rcases List.mem_append.1 hmem with h|h
     ·have:=hp.2.2 i h i qqS;omega
     ·have:=(am3.1 hp.2.1).1 i h;omega
    by_cases e:j=i
    ·subst e
     have hlt':j<listed.size:=by
      have:=(hm j).1 qqS;rcases alq j listed.size with h|h
      ·exact h
      ·rw[alz,alr h]at this;simp at this
     simp only[hnd,false_iff];simp[alz,hlt']
    ·have:=hm j
     rw[getD_set_ne true (Ne.symm e)];rw[<-this];simp[e]
   ·intro x y hb hy
    by_cases e:y=i
    ·subst e
     exact getD_set_true (hready listed y hi hcl x hb)
    ·rw[Ii e]at hy
     exact getD_set_true (hcl x y hb hy)
def qM (acc:List Nat):List Edge->Nat
 | []=>0
 |e::r=>match Region.binds .any e with
  |true=>(2 ^ e.on|||acc.getD e.on 0)|||qM acc r
  |false=>qM acc r
def masks:List Oper->List Nat->List Nat
 | [],acc=>acc
 |o::r,acc=>masks r (acc++[qM acc o.after.toList])
def gN (a b:List Nat):Bool:=
 match a with
 | []=>true
 |x::r=>match iB x b with|true=>false|false=>gN r b
def wm:Option Nat->List Nat|none=>[]|some d=>[d]
def Il (ops:Array Oper) (p o:Oper):Bool:=
 gN (wm p.dst) (looks ops o)&&gN (wm o.dst) (looks ops p)&&gN (wm p.dst) (wm o.dst)
def aiP (j:Nat) (es:List Edge):Bool:=es.all λe=>!Region.binds .any e||Nat.blt e.on j
def xV (ops:Array Oper):Bool:=
 (alA ops.size).all λj=>match ops[j]? with
  |none=>true
  |some oj=>aiP j oj.after.toList&&(alA j).all λi=>match ops[i]? with
   |none=>true
   |some oi=>am5 ((masks ops.toList []).getD j 0) i||Il ops oi oj
theorem qj {n:Nat} {l:List Nat}:iB n l=true↔n∈l:=by
 induction l with
 |nil=>simp[iB]
 |cons m l ih=>
  unfold iB;cases h:alI n m with
  |true=>simp[alN h]
  |false=>
   have:n≠m:=am6 h;simp[ih,this]
theorem Im {a b:List Nat}:gN a b=true↔∀x∈a,x∉b:=by
 induction a with
 |nil=>simp[gN]
 |cons x r ih=>
  unfold gN;cases h:iB x b with
  |true=>simp[qj.1 h]
  |false=>
   have:x∉b:=λhx=>by rw[qj.2 hx]at h;cases h
   simp[ih,this]
theorem Io {ops:Array Oper} {p o:Oper} (h:Il ops p o=true):Apart ops p o:=by
 unfold Il at h;simp only[alM,Im]at h;exact⟨λd hd=>h.1.1 d (by simp[hd,wm]),λd hd=>h.1.2 d (by simp[hd,wm]),λd hd hd'=>h.2 d (by simp[hd,wm]) (by simp[hd',wm])⟩
theorem Lh {ops:Array Oper} {j:Nat} {o:Oper} (ho:ops[j]? =some o) {acc:List Nat} (hacc:∀k i,(acc.getD k 0).testBit i=true->Bef ops i k):
 ∀(es:List Edge),(∀e∈es,e∈o.after)->∀i,(qM acc es).testBit i=true->Bef ops i j:=by
 intro es;induction es with
 |nil=>intro _ i h;simp[qM]at h
 |cons e es ih=>
  intro hes i h;have ih:=ih (λx hx=>hes x (by simp[hx])) i
  unfold qM at h;cases hb:Region.binds .any e with
  |false=>rw[hb]at h;exact ih h
  |true=>
   rw[hb]at h;simp only[Nat.testBit_or,amS,Nat.testBit_two_pow,decide_eq_true_eq]at h;have he:=Bef.edge (i:=e.on) ho (hes e qqS) hb rfl;rcases h with(h|h)|h
   ·subst h;exact he
   ·exact(hacc _ _ h).trans he
   ·exact ih h
theorem zm {ops:Array Oper}:∀(r pre:List Oper) (acc:List Nat),ops.toList=pre++r->acc.length=pre.length->(∀k i,(acc.getD k 0).testBit i=true->Bef ops i k)->
 ∀k i,((masks r acc).getD k 0).testBit i=true->Bef ops i k:=by
 intro r;induction r with
 |nil=>intro pre acc _ _ h;exact h
 |cons o r ih=>
  intro pre acc hops hl h;refine ih (pre++[o]) (acc++[qM acc o.after.toList]) (by simp[hops]) (by simp[hl]) (λk i hk=>?_)
  rw[alC]at hk;by_cases e:k<acc.length
  ·rw[List.getElem?_append_left e,<-alC]at hk
   exact h k i hk
  ·rw[amB qqO]at hk
   by_cases e':k=acc.length
   ·subst e'
    simp at hk;have ho:ops[acc.length]? =some o:=by
     rw[<-am7,hops,hl,amB (alo _)];simp
    exact Lh ho h _ (λe he=>by simpa using he) i hk
   ·rw[List.getElem?_eq_none (by simp;omega)]at hk;simp at hk
structure Lg where
 i:Nat
 ws:List Nat
 as:List Nat
 ns:List Nat
def BD (i:Nat) (sets:List (Nat × AO)) (acc news:List Nat) (log:List Lg):List Lg:=
 match sets,acc,news with
 | [],[],[]=>log
 |_,_,_=>⟨i,keys sets,acc,news⟩::log
def qo (mj:Nat) (fw fa:List Nat):List Lg->Bool
 | []=>true
 |⟨i,ew,ea,en⟩::r=>match am5 mj i with
  |true=>qo mj fw fa r
  |false=>match gN ew fa&&gN ew fw&&gN fw ea&&gN fw en with
   |true=>qo mj fw fa r
   |false=>false
def mE (ms:List Nat):List Lg->Bool
 | []=>true
 |⟨i,fw,fa,_⟩::r=>match qo (ms.getD i 0) fw fa r with
  |true=>mE ms r
  |false=>false
def lG (es:Nat->Ent):List Nat->List Lg->List Lg
 | [],log=>log
 |i::R,log=>lG es R (BD i (es i).sets (es i).accs (es i).news log)
def nk (e:Ent):Bool:=match e.sets,e.accs,e.news with| [],[],[]=>false|_,_,_=>true
theorem Ti (i:Nat) (e:Ent) (log:List Lg):BD i e.sets e.accs e.news log=if nk e then⟨i,keys e.sets,e.accs,e.news⟩::log else log:=by
 obtain⟨run,v,sets,accs,news⟩:=e;cases sets<;>cases accs<;>cases news<;>rfl
theorem ab5 (es:Nat->Ent):∀(R:List Nat) (log:List Lg),lG es R log=((R.filter λi=>nk (es i)).reverse.map λi=>⟨i,keys (es i).sets,(es i).accs,(es i).news⟩)++log:=by
 intro R;induction R with
 |nil=>intro log;rfl
 |cons i R ih=>
  intro log;simp only[lG,ih,Ti];cases h:nk (es i)<;>simp[h]
theorem BF {mj:Nat} {f:Lg} {l:List Lg}:qo mj f.ws f.as l=true↔∀e∈l,mj.testBit e.i=true∨(gN e.ws f.as&&gN e.ws f.ws&&gN f.ws e.as&&gN f.ws e.ns)=true:=by
 induction l with
 |nil=>simp[qo]
 |cons e l ih=>
  unfold qo;cases h1:am5 mj e.i with
  |true=>simp[h1,ih]
  |false=>
   simp only[am2,forall_eq_or_imp,h1,amn,false_or];split
   ·rename_i h;simp only[h,true_and,ih]
   ·rename_i h;simp[h]
theorem Py {ms:List Nat} {l:List Lg}:mE ms l=true↔l.Pairwise λf e=>(ms.getD f.i 0).testBit e.i=true∨(gN e.ws f.as&&gN e.ws f.ws&&gN f.ws e.as&&gN f.ws e.ns)=true:=by
 induction l with
 |nil=>simp[mE]
 |cons f l ih=>
  unfold mE;cases h:qo (ms.getD f.i 0) f.ws f.as l with
  |true=>simp only[am3,ih];exact⟨λh'=>⟨BF.1 h,h'⟩,λh'=>h'.2⟩
  |false=>
   simp only[am3];refine⟨λh'=>absurd h' qqS,λh'=>?_⟩;rw[BF.2 h'.1]at h;cases h
theorem Tj {ops:Array Oper} {es:Nat->Ent} {n:Nat} (h:mE (masks ops.toList []) (lG es (alA n) [])=true) {i j:Nat} (hij:i<j) (hj:j<n) (hb:¬Bef ops i j):vZ (es i) (es j):=by
 rw[ab5,List.append_nil,Py,List.pairwise_map,List.pairwise_reverse,List.pairwise_filter]at h;have hp:=(List.pairwise_iff_getElem.1 h) i j (by simpa using(by omega:i<n)) (by simpa using hj) hij
 simp only[List.getElem_range]at hp;have htriv:∀e:Ent,nk e=false->e.sets=[]/\e.accs=[]/\e.news=[]:=by
  intro e he;obtain⟨run,v,sets,accs,news⟩:=e;cases sets<;>cases accs<;>cases news<;>simp_all[nk]
 cases hi':nk (es i)with
 |false=>
  obtain⟨e1,e2,e3⟩:=htriv _ hi';exact⟨λk hk=>by rw[e1]at hk;simp[keys]at hk,λk hk=>by rw[e2,e3];simp⟩
 |true=>
  cases hj':nk (es j)with
  |false=>
   obtain⟨e1,e2,e3⟩:=htriv _ hj';exact⟨λk hk=>by rw[e1,e2];simp[keys],λk hk=>by rw[e1]at hk;simp[keys]at hk⟩
  |true=>
   rcases hp hi' hj' with hp|hp
   ·exact absurd (zm ops.toList [] [] rfl rfl (λk i hk=>by simp at hk) j i hp) hb
   ·simp only[alM,Im]at hp
    exact⟨λk hk=>⟨hp.1.1.1 k hk,hp.1.1.2 k hk⟩,λk hk=>⟨hp.1.2 k hk,hp.2 k hk⟩⟩
theorem Pz {ops:Array Oper} (h:xV ops=true) (j:Nat) (o:Oper) (e:Edge) (ho:ops[j]? =some o) (he:e∈o.after) (hb:Region.binds .any e=true):e.on<j:=by
 have hj:j<ops.size:=(alh.1 ho).1;unfold xV at h;have:=(am8.1 h) j (by simpa using hj)
 rw[ho]at this;simp only[alM]at this;have h2:=(am8.1 this.1) e (by simpa using he)
 rw[hb]at h2;simpa [Nat.blt_eq]using h2
theorem Li {ops:Array Oper} (h:xV ops=true) {i j:Nat} {p o:Oper} (hij:i<j) (hi:ops[i]? =some p) (ho:ops[j]? =some o) (hb:¬Bef ops i j):Apart ops p o:=by
 have hj:j<ops.size:=(alh.1 ho).1;unfold xV at h;have:=(am8.1 h) j (by simpa using hj)
 rw[ho]at this;simp only[alM]at this;have h2:=(am8.1 this.2) i (by simpa using hij)
 rw[hi]at h2;simp only[amS]at h2;rcases h2 with h2|h2
 ·exact absurd (zm ops.toList [] [] rfl rfl (λk i hk=>by simp at hk) j i h2) hb
 ·exact Io h2
def wo (H:Hp):List Nat->Prop->Prop
 | [],k=>k
 |n::r,k=>dV H n (wo H r k)
theorem PD {H:Hp} {l:List Nat} {k:Prop}:wo H l k↔(∀n∈l,av H n=none)/\k:=by
 induction l with
 |nil=>simp[wo]
 |cons n l ih=>simp only[wo,bW,ih,am2,forall_eq_or_imp,and_assoc]
def idN:Op->Nat
 |.alloc _=>1
 |.box _ _=>1
 |.buildSlice _ _ _=>1
 |.makeMap _ _=>1
 |.makeSlice _ _ _=>1
 |.call c=>match c.callee with
  |.builtin .append=>1
  |.value _=>4
  |_=>0
 |_=>0
def BG (ops:List Oper) (j:Nat):Option Nat:=match ops,j with
 | [],_=>none
 |o::_,0=>o.dst
 |_::r,j+1=>BG r j
def BH (env:Env) (dst:Option Nat) (v:PV) (k:Env->Prop):Prop:=match dst with|none=>k env|some d=>ru env d v k
theorem tN (env:Env) (dst:Option Nat) (v:PV) (k:Env->Prop):BH env dst v k=k (gI env dst v):=by
 cases dst with
 |none=>rfl
 |some d=>exact mR _ _ _ _
section
variable (τ:TypeId->Option TE) (md:Nat) (rf:List Nat) (CP:CPT) (YP:YPT)
def runK (n:Nat) (env:Env) (H:Hp) (o:Oper) (i:Nat) (log:List Lg) (K:Env->Hp->List Lg->Prop):Prop:=
 opK τ md rf CP YP (eo env) H n o.dst o.op λv sets acc news=>wo H news (BH env o.dst v λenv'=>iA sets H λH'=>K env' H' (BD i sets acc news log))
def Xk (all:List Oper) (o:Oper) (ih:Nat->Nat->Env->Hp->List Lg->(Env->Hp->Nat->List Lg->Prop)->Prop) (i n:Nat) (env:Env) (H:Hp) (log:List Lg) (K:Env->Hp->Nat->List Lg->Prop):Prop:=
 jB (n+idN o.op) λn'=>jB (i+1) λi'=>
 match o.guard with
 |none=>runK τ md rf CP YP n env H o i log λenv' H' log'=>ih i' n' env' H' log' K
 |some (j,want)=>match BG all j with
  |none=>False
  |some d=>match aG env d with
   |.bool t=>match Bool.xor t want with
    |false=>runK τ md rf CP YP n env H o i log λenv' H' log'=>ih i' n' env' H' log' K
    |true=>BH env o.dst (.tup []) λenv'=>ih i' n' env' H log K
   |.bp t=>(t=want->ru env d (.bool want) λenv1=>runK τ md rf CP YP n env1 H o i log λenv' H' log'=>ih i' n' env' H' log' K)/\
    (t=am9 want->ru env d (.bool (am9 want)) λenv1=>BH env1 o.dst (.tup []) λenv'=>ih i' n' env' H log K)
   |.tup vs=>match vs with
    | []=>BH env o.dst (.tup []) λenv'=>ih i' n' env' H log K
    |_=>False
   |_=>False
noncomputable def rC (all:List Oper) (l:List Oper):Nat->Nat->Env->Hp->List Lg->(Env->Hp->Nat->List Lg->Prop)->Prop:=
 List.rec (motive:=λ_=>Nat->Nat->Env->Hp->List Lg->(Env->Hp->Nat->List Lg->Prop)->Prop) (λi n env H log K=>K env H n log) (λo _ ih=>Xk τ md rf CP YP all o ih) l
theorem Tk (all:List Oper) (o:Oper) (r:List Oper):rC τ md rf CP YP all (o::r)=Xk τ md rf CP YP all o (rC τ md rf CP YP all r):=rfl
end
def EqE (env env1:Env):Prop:=env.length=env1.length/\∀i,aG env i=aG env1 i∨∃b,aG env i=.bp b/\aG env1 i=.bool b
theorem EqE.refl (env:Env):EqE env env:=⟨rfl,λ_=>.inl rfl⟩
theorem EqE.rep {env env1:Env} (h:EqE env env1) {S:Imm} {w:World} {ι:Ix} {vs:Array Value} (hr:bH S w ι env vs):bH S w ι env1 vs:=by
 refine⟨h.1▸hr.1,λi hi=>?_⟩;have:=hr.2 i (by rw[h.1];exact hi)
 rcases h.2 i with e|⟨b,e1,e2⟩
 ·rw[<-e];exact this
 ·rw[e1]at this
  rw[e2];generalize vs.getD i undef=x at this
  cases this;exact .bool _ _
theorem EqE.eo {env env1:Env} (h:EqE env env1) (x:Operand) {S:Imm} {w:World} {ι:Ix} {v:Value} (hr:Rep S w ι (eo env x) v):Rep S w ι (eo env1 x) v:=by
 cases x with
 |tmp t=>
  simp only[Eng.eo]at hr⊢;rcases h.2 t with e|⟨b,e1,e2⟩
  ·rw[<-e];exact hr
  ·rw[e1]at hr;rw[e2];cases hr;exact .bool _ _
 |const v=>exact hr
 |global g=>exact hr
 |func f=>exact hr
theorem EqE.put {env env1:Env} (h:EqE env env1) (dst:Option Nat) (v:PV):EqE (gI env dst v) (gI env1 dst v):=by
 cases dst with
 |none=>exact h
 |some d=>
  refine⟨by simp[gI,h.1],λi=>?_⟩
  simp only[gI,pW,h.1];split
  ·exact .inl rfl
  ·exact h.2 i
theorem EqE.bool {env:Env} {d:Nat} {t:Bool} (h:aG env d=.bp t):EqE env (env.set d (.bool t)):=by
 refine⟨qqS,λi=>?_⟩;rw[pW];by_cases e:i=d/\d<env.length
 ·rw[if_pos e];exact .inr ⟨t,by rw[e.1];exact h,rfl⟩
 ·rw[if_neg e];exact .inl rfl
section
variable {P:Program} {r:Option Nat} {τ:TypeId->Option TE} {B:Imm->World->Prop}
theorem kJ.eqE {ops:Array Oper} {env env1:Env} {H:Hp} {o:Oper} {e:Ent} (h:EqE env env1) (he:kJ P r B ops env1 H o e):kJ P r B ops env H o e:=by
 obtain⟨h1,h2,h3,h4⟩:=he;refine⟨?_,λhr=>(h2 hr).congr (λx hx S w ι val hh=>h.eo x hh) (λ_ _=>rfl),h3,h4⟩;unfold GOK at h1⊢;cases hg:o.guard with
 |none=>rw[hg]at h1;exact h1
 |some jw=>
  obtain⟨j,want⟩:=jw;rw[hg]at h1;obtain⟨d,t,g1,g2,g3⟩:=h1;refine⟨d,t,g1,?_,g3⟩;rcases h.2 d with e|⟨b,e1,e2⟩
  ·rw[e];exact g2
  ·rw[e2]at g2
   rcases g2 with g2|g2|⟨g2,_⟩
   ·cases g2
   ·cases g2;exact .inl e1
   ·cases g2
theorem Chain.eqE {ops:Array Oper} {es:Nat->Ent} {K:Env->Hp->Prop} (hK:∀env env1 H,EqE env env1->K env1 H->K env H):∀(R:List Nat) {env env1:Env} {H:Hp},EqE env env1->Chain P r B ops es R env1 H K->Chain P r B ops es R env H K:=by
 intro R;induction R with
 |nil=>intro env env1 H h hc;exact hK _ _ _ h hc
 |cons i R ih=>
  intro env env1 H h hc;obtain⟨o,ho,he,hc⟩:=hc;exact⟨o,ho,he.eqE h,ih (h.put _ _) hc⟩
theorem Chain.congrEs {ops:Array Oper} {es es':Nat->Ent} {K:Env->Hp->Prop}:∀(R:List Nat) {env:Env} {H:Hp},(∀i∈R,es i=es' i)->Chain P r B ops es R env H K->Chain P r B ops es' R env H K:=by
 intro R;induction R with
 |nil=>intro env H _ h;exact h
 |cons i R ih=>
  intro env H he h;obtain⟨o,ho,h1,h2⟩:=h;have e:=he i qqS;exact⟨o,ho,e▸h1,e▸ih (λj hj=>he j (by simp[hj])) h2⟩
theorem Chain.imp {ops:Array Oper} {es:Nat->Ent} {K K':Env->Hp->Prop} (hK:∀env H,K env H->K' env H):∀(R:List Nat) {env:Env} {H:Hp},Chain P r B ops es R env H K->Chain P r B ops es R env H K':=by
 intro R;induction R with
 |nil=>intro env H h;exact hK _ _ h
 |cons i R ih=>intro env H h;obtain⟨o,ho,h1,h2⟩:=h;exact⟨o,ho,h1,ih h2⟩
theorem Chain.fact {ops:Array Oper} {es:Nat->Ent} {K:Env->Hp->Prop} {A:Prop} (hK:∀env H,K env H->A):∀(R:List Nat) {env:Env} {H:Hp},Chain P r B ops es R env H K->A:=by
 intro R;induction R with
 |nil=>intro env H h;exact hK _ _ h
 |cons i R ih=>intro env H h;obtain⟨o,ho,h1,h2⟩:=h;exact ih h2
theorem PE {es es':Nat->Ent}:∀(R:List Nat) (log:List Lg),(∀i∈R,es i=es' i)->lG es R log=lG es' R log:=by
 intro R;induction R with
 |nil=>intro log _;rfl
 |cons i R ih=>intro log h;simp only[lG];rw[h i qqS,ih _ λj hj=>h j (by simp[hj])]
theorem Tn:∀(l:List Oper) (j:Nat),BG l j=(l[j]?).bind (·.dst):=by
 intro l;induction l with
 |nil=>intro j;rfl
 |cons o l ih=>intro j;cases j with
  |zero=>rfl
  |succ j=>simpa [BG]using ih j
def afZ:List Oper->Nat
 | []=>0
 |o::r=>idN o.op+afZ r
theorem BI (hτ:bC P τ) {md rf CP YP} (hC:j5 P B CP) (hY:ni P r B YP) {ops:Array Oper} {K:Env->Hp->Nat->List Lg->Prop} {K':List Lg->Env->Hp->Prop}
 (hK:∀env H n log,K env H n log->K' log env H) (hK':∀log env env1 H,EqE env env1->K' log env1 H->K' log env H):
 ∀(l:List Oper) (i n:Nat) (env:Env) (H:Hp) (log:List Lg),ops.toList.drop i=l->rC τ md rf CP YP ops.toList l i n env H log K->
  ∃es:Nat->Ent,Chain P r B ops es (ana i l.length) env H (K' (lG es (ana i l.length) log)):=by
 intro l;induction l with
 |nil=>intro i n env H log _ h;exact⟨λ_=>default,hK _ _ _ _ h⟩
 |cons o l ih=>
  intro i n env H log hl h;have ho:ops[i]? =some o:=by
   have:(ops.toList.drop i)[0]? =some o:=by rw[hl];rfl
   rw[amK]at this;simpa using this
  have hl':ops.toList.drop (i+1)=l:=by
   have:(ops.toList.drop i).drop 1=l:=by rw[hl];rfl
   rw[List.drop_drop]at this;exact this
  rw[Tk]at h;simp only[Xk,jT]at h;have glue:∀{env:Env} {H:Hp} (e:Ent) (es:Nat->Ent),kJ P r B ops env H o e->Chain P r B ops es (ana (i+1) l.length) (gI env o.dst e.v) (bE H e.sets) (K' (lG es (ana (i+1) l.length) (BD i e.sets e.accs e.news log)))->
   ∃es:Nat->Ent,Chain P r B ops es (ana i (o::l).length) env H (K' (lG es (ana i (o::l).length) log)):=by
   intro env H e es he hc;have hne:∀j∈ana (i+1) l.length,es j=(if j=i then e else es j):=by
    intro j hj;rw[List.mem_range'_1]at hj;rw[if_neg qqO]
   refine⟨λj=>if j=i then e else es j,?_⟩;rw[alj,List.range'_succ];refine⟨o,ho,by simpa using he,?_⟩
   simp only[if_true,lG];rw[<-PE _ _ hne];exact Chain.congrEs _ hne hc
  have run:∀{env:Env} {H:Hp},GOK ops env o true->runK τ md rf CP YP n env H o i log (λenv' H' log'=>rC τ md rf CP YP ops.toList l (i+1) (n+idN o.op) env' H' log' K)->
   ∃es:Nat->Ent,Chain P r B ops es (ana i (o::l).length) env H (K' (lG es (ana i (o::l).length) log)):=by
   intro env H hg h;obtain⟨v,sets,accs,news,h,hs⟩:=Td (B:=B) hτ hC hY h;simp only[PD,tN,iV]at h;obtain⟨hn,h⟩:=h;obtain⟨es,hc⟩:=ih _ _ _ _ _ hl' h;exact glue ⟨true,v,sets,accs,news⟩ es ⟨hg,λ_=>hs,hn,λhh=>by cases hh⟩ hc
  have skip:∀{env:Env} {H:Hp},GOK ops env o false->rC τ md rf CP YP ops.toList l (i+1) (n+idN o.op) (gI env o.dst (.tup [])) H log K->
   ∃es:Nat->Ent,Chain P r B ops es (ana i (o::l).length) env H (K' (lG es (ana i (o::l).length) log)):=by
   intro env H hg h;obtain⟨es,hc⟩:=ih _ _ _ _ _ hl' h;refine glue ⟨false,.tup [],[],[],[]⟩ es ?_ hc;refine⟨hg,λhh=>?_,λk hk=>?_,λ_=>⟨rfl,rfl,rfl,rfl⟩⟩
   ·exact absurd hh qqS
   ·exact absurd hk qqS
  have lift:∀{env env1:Env} {H:Hp},EqE env env1->(∃es:Nat->Ent,Chain P r B ops es (ana i (o::l).length) env1 H (K' (lG es (ana i (o::l).length) log)))->
   ∃es:Nat->Ent,Chain P r B ops es (ana i (o::l).length) env H (K' (lG es (ana i (o::l).length) log)):=
   λhe ⟨es,hc⟩=>⟨es,Chain.eqE (hK' _) _ he hc⟩
  split at h
  ·rename_i hg
   exact run (by unfold GOK;rw[hg]) h
  ·rename_i j want hg
   split at h
   ·exact h.elim
   ·rename_i d hd
    rw[Tn,am7]at hd;have gk:∀{env:Env} {t b:Bool},(aG env d=.bp t∨aG env d=.bool t)->b=(t==want)->GOK ops env o b:=by
     intro env t b h1 h2;unfold GOK;rw[hg];exact⟨d,t,hd,h1.imp id .inl,h2⟩
    split at h
    ·rename_i t ht
     split at h
     ·rename_i hx
      exact run (gk (.inr ht) (by cases t<;>cases want<;>simp_all)) h
     ·rename_i hx
      rw[tN]at h;exact skip (gk (.inr ht) (by cases t<;>cases want<;>simp_all)) h
    ·rename_i t ht
     obtain⟨ha,hb⟩:=h;rw[mR]at hb;simp only[mR]at ha;by_cases e:t=want
     ·subst e
      have hq:=EqE.bool ht;refine lift hq (run (gk (t:=t) ?_ qqS) (ha rfl));have:=hq.2 d;rw[ht]at this;rcases this with this|⟨b,e1,e2⟩
      ·exact .inl this.symm
      ·cases e1;exact .inr e2
     ·have e':t=am9 want:=by cases t<;>cases want<;>simp_all
      have hq:=EqE.bool ht;rw[e']at hq;have hb:=hb e';rw[tN]at hb;refine lift hq (skip (gk (t:=am9 want) ?_ (by cases want<;>rfl)) hb)
      have:=hq.2 d;rw[ht]at this;rcases this with this|⟨b,e1,e2⟩
      ·rw[e']at this;exact .inl this.symm
      ·cases e1;rw[e']at e2;exact .inr e2
    ·rename_i vs ht
     split at h
     ·rw[tN]at h
      refine skip ?_ h;unfold GOK;rw[hg];exact⟨d,!want,hd,.inr (.inr ⟨ht,rfl⟩),by cases want<;>rfl⟩
     ·exact h.elim
    ·exact h.elim
end
def AW (P:Program) (r:Option Nat) (B:Imm->World->Prop) (p:Nat) (c:Code) (Q:Exit->Env->Hp->Prop) (env:Env) (H:Hp):Prop:=
 ∀(S0:Imm) (w0:World) (ι0:Ix) (H0:Hp) (a:Act) (w:World),At B p S0 w0 ι0 H0 env H a w->
  c.wpIn (Fw r) 0 P (λe a' w'=>∃env' H',Q e env' H'/\At B p S0 w0 ι0 H0 env' H' a' w') a w
section
variable {P:Program} {r:Option Nat} {τ:TypeId->Option TE} {B:Imm->World->Prop} {p:Nat}
theorem At.drawn {S0:Imm} {w0:World} {ι0:Ix} {H0 H:Hp} {env:Env} {a:Act} {w:World} (h:At B p S0 w0 ι0 H0 env H a w) (hB:BOK B):At B p S0 w0 ι0 H0 env H a {w with drawn:=w.drawn+1}:=by
 obtain⟨S,ι,hb,M,R,D,D',T⟩:=h.ex;have hk:Keeps S w S {w with drawn:=w.drawn+1}:=⟨λb j h=>⟨h,rfl⟩,λb j h=>h⟩;have hbel:Bel w {w with drawn:=w.drawn+1}:=⟨rfl,rfl,rfl,alo _,λ_ _=>rfl⟩;refine⟨S,ι,hB _ _ _ _ hk hbel hb,⟨λk o ho=>(M.obj k o ho).mono hk (.refl _) hbel (λ_ _=>rfl) (λ_=>rfl) rfl (λ_ _ _ h=>h),M.liveO,M.liveT,M.dist,M.imm⟩,R.mono hk (.refl _),⟨D.all,D.nodup⟩,D',
  T.trans ⟨hbel,λ_ _ _=>rfl,hk,λ_ _ _ h=>.inl h,λ_ h=>.inl h,λ_ _ _ h=>h,λ_ _ b n h=>⟨b,n,h,.inl ⟨rfl,alo _⟩⟩⟩⟩
theorem AW.eqE {c:Code} {Q:Exit->Env->Hp->Prop} {env env1:Env} {H:Hp} (h:EqE env env1) (ha:AW P r B p c Q env1 H):AW P r B p c Q env H:=by
 intro S0 w0 ι0 H0 a w hA;obtain⟨S,ι,hb,M,R,D,D',T⟩:=hA.ex;exact ha S0 w0 ι0 H0 a w ⟨S,ι,hb,M,h.rep R,D,D',T⟩
theorem AW.mono {c:Code} {Q Q':Exit->Env->Hp->Prop} {env:Env} {H:Hp} (h:AW P r B p c Q env H) (hq:∀e env H,Q e env H->Q' e env H):AW P r B p c Q' env H:=by
 intro S0 w0 ι0 H0 a w hA;refine wpIn_mono (h S0 w0 ι0 H0 a w hA) ?_
 rintro e a w ⟨env',H',q,hA⟩
 exact⟨env',H',hq _ _ _ q,hA⟩
def AK (P:Program) (B:Imm->World->Prop) (p:Nat) (Q:Env->Hp->Prop) (env:Env) (H:Hp):Prop:=
 ∀(S0:Imm) (w0:World) (ι0:Ix) (H0:Hp) (a:Act) (w:World),At B p S0 w0 ι0 H0 env H a w->∃env' H',Q env' H'/\At B p S0 w0 ι0 H0 env' H' a w
theorem AK.of {Q:Env->Hp->Prop} {env:Env} {H:Hp} (h:Q env H):AK P B p Q env H:=λS0 w0 ι0 H0 a w hA=>⟨env,H,h,hA⟩
theorem AK.eqE {Q:Env->Hp->Prop} {env env1:Env} {H:Hp} (h:EqE env env1) (ha:AK P B p Q env1 H):AK P B p Q env H:=by
 intro S0 w0 ι0 H0 a w hA;obtain⟨S,ι,hb,M,R,D,D',T⟩:=hA.ex;exact ha S0 w0 ι0 H0 a w ⟨S,ι,hb,M,h.rep R,D,D',T⟩
theorem Dy (hB:BOK B) (hτ:bC P τ) {md rf CP YP} (hC:j5 P B CP) (hY:ni P r B YP) {id:Nat} {ops:Array Oper} {K:Env->Hp->Nat->List Lg->Prop} {Q:Exit->Env->Hp->Prop} {n:Nat} {env:Env} {H:Hp}
 (hK:∀env H n log,K env H n log->Q .normal env H) (h:rC τ md rf CP YP ops.toList ops.toList 0 n env H [] K):AW P r B p (.region id ops false) Q env H:=by
 intro S0 w0 ι0 H0 a w hA;obtain⟨es,hc⟩:=BI (K':=λ_ env H=>AK P B p (Q .normal) env H) hτ hC hY (λenv H n log h=>AK.of (hK _ _ _ _ h)) (λlog env env1 H he h=>AK.eqE he h) ops.toList 0 n env H [] rfl h;refine wpIn_region ?_;rw[anb,<-alY];exact Px hB (λenv H a w hk hA=>by obtain⟨env',H',q,hA'⟩:=hk S0 w0 ι0 H0 a w hA;exact⟨env',H',q,hA'⟩) _ _ _ a w hc hA
theorem FX (hB:BOK B) (hm:P.follows .mixedOrders=true) (hτ:bC P τ) {md rf CP YP} (hC:j5 P B CP) (hY:ni P r B YP) {id:Nat} {ops:Array Oper} {K:Env->Hp->Nat->List Lg->Prop} {Q:Exit->Env->Hp->Prop} {n:Nat} {env:Env} {H:Hp}
 (hok:xV ops=true) (hK:∀env H n log,K env H n log->Q .normal env H) (h:rC τ md rf CP YP ops.toList ops.toList 0 n env H [] λenv H n log=>ifK (mE (masks ops.toList []) log) (K env H n log)):AW P r B p (.region id ops true) Q env H:=by
 intro S0 w0 ι0 H0 a w hA;obtain⟨es,hc⟩:=BI (K':=λlog env H=>mE (masks ops.toList []) log=true/\AK P B p (Q .normal) env H) hτ hC hY (λenv H n log h=>by rw[aK]at h;exact⟨h.1,AK.of (hK _ _ _ _ h.2)⟩) (λlog env env1 H he h=>⟨h.1,AK.eqE he h.2⟩) ops.toList 0 n env H [] rfl h
 have hd:=Chain.fact (λ_ _ h=>h.1) _ hc;have hc':=Chain.imp (K':=AK P B p (Q .normal)) (λ_ _ h=>h.2) _ hc;rw[<-anb,alY]at hd hc';refine wpIn_region_any hm ?_;refine Tg hB (K:=AK P B p (Q .normal)) (λenv H a w hk hA=>by obtain⟨env',H',q,hA'⟩:=hk S0 w0 ι0 H0 a w hA;exact⟨env',H',q,hA'⟩) (λj o e ho he hb=>Pz hok j o e ho he hb)
  (λi j op oj hij hi hj hb=>⟨Li hok hij hi hj hb,Tj hd hij ((alh.1 hj).1) hb⟩) _ _ (alA ops.size) env H a _ ?_ ?_ qqS ?_ qqS hc' (hA.drawn hB)
 ·exact List.pairwise_lt_range
 ·intro i
  rw[List.mem_range,alz,anc];by_cases e:i<ops.size
  ·simp[e]
  ·simp[e]
 ·intro i j _ hj
  rw[alz,anc]at hj;by_cases e:j<ops.size
  ·simp[e]at hj
  ·simp[e]at hj
theorem af0 {x y:Code} {Q:Exit->Env->Hp->Prop} {env:Env} {H:Hp} (h:AW P r B p x (λe env H=>match e with|.normal=>AW P r B p y Q env H|e=>Q e env H) env H):AW P r B p (.seq x y) Q env H:=by
 intro S0 w0 ι0 H0 a w hA;refine wpIn_seq (wpIn_mono (h S0 w0 ι0 H0 a w hA) ?_)
 rintro e a w ⟨env',H',q,hA⟩
 cases e with
 |normal=>exact q S0 w0 ι0 H0 a w hA
 |_=>exact⟨env',H',q,hA⟩
theorem xW {c:Operand} {x y:Code} {t:Bool} {Q:Exit->Env->Hp->Prop} {env:Env} {H:Hp} (hc:eo env c=.bool t∨eo env c=.bp t) (h:AW P r B p (if t then x else y) Q env H):AW P r B p (.cond c x y) Q env H:=by
 intro S0 w0 ι0 H0 a w hA;obtain⟨S,ι,hb,M,R,D,D',T⟩:=hA.ex;refine wpIn_cond (t:=t) ?_ (h S0 w0 ι0 H0 a w hA);have:=o8 R c (λg e=>by subst e;simp only[eo]at hc;cases hg:xQ g<;>rw[hg]at hc<;>rcases hc with hc|hc<;>cases hc)
 rcases hc with hc|hc<;>rw[hc]at this<;>generalize a.eval c=v at this<;>cases this<;>rfl
theorem Xl {id:Nat} {c:Code} {Q:Exit->Env->Hp->Prop} {env:Env} {H:Hp} (h:AW P r B p c (λe env H=>match e with|.exit i=>(match alI i id with|true=>Q .normal env H|false=>Q (.exit i) env H)|e=>Q e env H) env H):AW P r B p (.block id c) Q env H:=by
 intro S0 w0 ι0 H0 a w hA;refine wpIn_block (wpIn_mono (h S0 w0 ι0 H0 a w hA) ?_)
 rintro e a w ⟨env',H',q,hA⟩
 cases e with
 |exit i=>
  simp only[Exit.inBlock]at q⊢;cases hb:alI i id with
  |true=>rw[hb]at q;rw[if_pos (alN hb)];exact⟨env',H',q,hA⟩
  |false=>rw[hb]at q;rw[if_neg (am6 hb)];exact⟨env',H',q,hA⟩
 |_=>exact⟨env',H',q,hA⟩
theorem jV {P:Program} {b:Frame} {a:Act} {k:List Item} {cs:List Frame} {w:World} {c:Code}:step P (lone (b.atR a (.code (.scope c)::k)) cs w)=.next (lone (b.atR a (.code c:: .inScope c::k)) cs w):=
 step_lone_go (by simp[stepG,stepG.exec,Frame.atR])
theorem FY {P:Program} {b:Frame} {a:Act} {k:List Item} {cs:List Frame} {w:World} {c:Code}:step P (lone (b.atR a (.inScope c::k)) cs w)=.next (lone (b.atR a k) cs w):=
 step_lone_go (by simp[stepG,stepG.exec,Frame.atR])
theorem PG {F:Fence} {n:Nat} {P:Program} {c:Code} {Q:Exit->Act->World->Prop} {a:Act} {w:World} (h:c.wpIn F n P (λe a w=>(∀l,e≠ .goto l)/\Q e a w) a w):(Code.scope c).wpIn F n P Q a w:=by
 intro b k cs hro hb hr;have h0:(lone (b.atR a (.code (.scope c)::k)) cs w).fenced P F:=fenced_calm hb hr rfl;obtain⟨e,a₁,w₁,hq,harr⟩:=h b (.inScope c::k) cs hro hb hr;cases e with
 |normal=>exact⟨.normal,a₁,w₁,hq.2,.head h0 jV (StepsIn.trans harr (.one (fenced_calm hb hr rfl) FY))⟩
 |exit id'=>
  have hx:exitTo id' (.inScope c::k)=exitTo id' k:=by simp[exitTo]
  exact⟨.exit id',a₁,w₁,hq.2,λk' hk=>.head h0 jV (harr.1 k' (by rw[hx];exact hk)),
   λhr' hk=>let⟨k₁,h1,h2⟩:=harr.2 hr' (by rw[hx];exact hk);⟨k₁,h1,.head h0 jV h2⟩⟩
 |goto l=>exact(hq.1 l rfl).elim
 |ret=>exact⟨_,a₁,w₁,hq.2,.of_steps (.one h0 jV) harr⟩
 |panic ch=>exact⟨_,a₁,w₁,hq.2,.of_steps (.one h0 jV) harr⟩
 |outgrown=>exact⟨_,a₁,w₁,hq.2,.of_steps (.one h0 jV) harr⟩
theorem Xm {c:Code} {Q:Exit->Env->Hp->Prop} {env:Env} {H:Hp} (h:AW P r B p c (λe env H=>match e with|.goto _=>False|e=>Q e env H) env H):AW P r B p (.scope c) Q env H:=by
 intro S0 w0 ι0 H0 a w hA;refine PG (wpIn_mono (h S0 w0 ι0 H0 a w hA) ?_)
 rintro e a w ⟨env',H',q,hA⟩
 cases e with
 |goto l=>exact q.elim
 |_=>exact⟨λl e=>(by cases e),env',H',q,hA⟩
theorem Xn {l:Nat} {Q:Exit->Env->Hp->Prop} {env:Env} {H:Hp} (h:Q .normal env H):AW P r B p (.label l) Q env H:=λS0 w0 ι0 H0 a w hA=>wpIn_label ⟨env,H,h,hA⟩
theorem ab6 {Q:Exit->Env->Hp->Prop} {env:Env} {H:Hp} (h:Q .normal env H):AW P r B p .skip Q env H:=λS0 w0 ι0 H0 a w hA=>wpIn_skip ⟨env,H,h,hA⟩
theorem ab7 {id:Nat} {Q:Exit->Env->Hp->Prop} {env:Env} {H:Hp} (h:Q (.exit id) env H):AW P r B p (.exit id) Q env H:=λS0 w0 ι0 H0 a w hA=>wpIn_exit ⟨env,H,h,hA⟩
theorem af2 {Q:Exit->Env->Hp->Prop} {env:Env} {H:Hp} (h:Q .ret env H):AW P r B p .ret Q env H:=λS0 w0 ι0 H0 a w hA=>wpIn_ret ⟨env,H,h,hA⟩
def Sub (B:Imm->World->Prop) (p:Nat) (env:Env) (H:Hp) (env1:Env) (H1:Hp):Prop:=
 ∀(S0:Imm) (w0:World) (ι0:Ix) (H0:Hp) (a:Act) (w:World),At B p S0 w0 ι0 H0 env H a w->At B p S0 w0 ι0 H0 env1 H1 a w
theorem FZ {F:Fence} {n:Nat} {c:Code} {Q:Exit->Act->World->Prop}:∀(m m':Nat),m≤m'->∀(a:Act) (w:World),Code.roundsIn F n P c Q m a w->Code.roundsIn F n P c Q m' a w:=by
 intro m;induction m with
 |zero=>intro m' _ a w h;exact h.elim
 |succ m ih=>
  intro m' hm a w h;obtain⟨k,rfl⟩:∃k,m'=k+1:=⟨m'-1,qqO⟩;rw[roundsIn_succ]at h⊢;refine wpIn_mono h λe a w he=>?_;cases e with
  |normal=>exact ih k qqO a w he
  |_=>exact he
theorem MC {X:Type} (st:X->Env × Hp) (μ:X->Nat) {c:Code} {Q:Exit->Env->Hp->Prop} {env:Env} {H:Hp} (x0:X) (h0:Sub B p env H (st x0).1 (st x0).2)
 (hb:∀x,AW P r B p c (λe env H=>match e with|.normal=>∃x',μ x'<μ x/\Sub B p env H (st x').1 (st x').2|e=>Q e env H) (st x).1 (st x).2):AW P r B p (.loop c) Q env H:=by
 intro S0 w0 ι0 H0 a w hA;have key:∀m x,μ x=m->∀a w,At B p S0 w0 ι0 H0 (st x).1 (st x).2 a w->Code.roundsIn (Fw r) 0 P c (λe a' w'=>∃env' H',Q e env' H'/\At B p S0 w0 ι0 H0 env' H' a' w') (m+1) a w:=by
  intro m;induction m using Nat.strongRecOn with
  |_ m ih=>
   intro x hx a w hA;rw[roundsIn_succ];refine wpIn_mono (hb x S0 w0 ι0 H0 a w hA) ?_
   rintro e a' w' ⟨env',H',q,hA'⟩
   cases e with
   |normal=>
    obtain⟨x',hlt,hs⟩:=q;exact FZ (μ x'+1) m qqO _ _ (ih (μ x') qqO x' rfl a' w' (hs _ _ _ _ _ _ hA'))
   |_=>exact⟨env',H',q,hA'⟩
 exact wpIn_loop_rounds _ (key _ x0 rfl a w (h0 _ _ _ _ _ _ hA))
end
def pq (l:List Nat) (K:List Nat->Prop):Prop:=
 match l with
 | []=>K []
 |x::xs=>pq xs λys=>K (x::ys)
theorem BJ (l:List Nat):∀K,pq l K=K l:=by
 induction l with
 |nil=>intro K;rfl
 |cons x xs ih=>intro K;simp only[pq,ih]
def wz:List Oper->List Nat->(List Nat->Prop)->Prop
 | [],acc,K=>K acc
 |o::r,acc,K=>jB (qM acc o.after.toList) λm=>pq (acc++[m]) λacc=>wz r acc K
theorem Tp (l:List Oper):∀acc K,wz l acc K=K (masks l acc):=by
 induction l with
 |nil=>intro acc K;rfl
 |cons o r ih=>intro acc K;simp only[wz,masks,jT,BJ,ih]
structure Lp (md:Nat) (rf:List Nat) (CP:CPT) (YP:YPT) (n:Nat) (q:Prop):Prop where
 get:q
def jG:Code->Nat
 |.region _ ops _=>afZ ops.toList
 |.seq a b=>jG a+jG b
 |.cond _ a b=>jG a+jG b
 |.block _ c=>jG c
 |.loop c=>jG c
 |.rangeFunc _ _ a b=>jG a+jG b
 |.scope c=>jG c
 |_=>0
def eU:Code->Bool
 |.region _ ops d=>match d with|true=>xV ops|false=>true
 |.seq a b=>eU a&&eU b
 |.cond _ a b=>eU a&&eU b
 |.block _ c=>eU c
 |.loop c=>eU c
 |.rangeFunc _ _ a b=>eU a&&eU b
 |.scope c=>eU c
 |_=>true
def PI (x:PV) (c:Operand) (env:Env) (A B:Env->Prop):Prop:=
 match x with
 |.bool t=>match t with
  |true=>A env
  |false=>B env
 |.bp t=>(t=true->match c with|.tmp d=>ru env d (.bool true) A|_=>A env)/\
  (t=false->match c with|.tmp d=>ru env d (.bool false) B|_=>B env)
 |_=>False
section
variable (P:Program) (r:Option Nat) (B:Imm->World->Prop) (p:Nat) (τ:TypeId->Option TE) (md:Nat) (rf:List Nat) (CP:CPT) (YP:YPT)
noncomputable def ev (c:Code):Nat->Env->Hp->(Exit->Env->Hp->Nat->Prop)->Prop:=
 Code.rec (motive:=λ_=>Nat->Env->Hp->(Exit->Env->Hp->Nat->Prop)->Prop)
  (λn env H K=>K .normal env H n)
  (λid ops d n env H K=>match d with
    |true=>wz ops.toList [] λms=>rC τ md rf CP YP ops.toList ops.toList 0 n env H [] λenv H n log=>ifK (mE ms log) (K .normal env H n)
    |false=>rC τ md rf CP YP ops.toList ops.toList 0 n env H [] λenv H n log=>K .normal env H n)
  (λa b iha ihb n env H K=>iha n env H λe env H n=>match e with|.normal=>ihb n env H K|e=>K e env H n)
  (λc a b iha ihb n env H K=>PI (eo env c) c env (λenv=>iha n env H K) (λenv=>ihb n env H K))
  (λid c ih n env H K=>ih n env H λe env H n=>match e with
    |.exit i=>(match alI i id with|true=>K .normal env H n|false=>K (.exit i) env H n)
    |e=>K e env H n)
  (λc _ n env H K=>jB (n+jG c) λn'=>Lp md rf CP YP n (AW P r B p (.loop c) (λe env H=>K e env H n') env H))
  (λg ps x y _ _ n env H K=>jB (n+jG x+jG y+4) λn'=>Lp md rf CP YP n (AW P r B p (.rangeFunc g ps x y) (λe env H=>K e env H n') env H))
  (λid n env H K=>K (.exit id) env H n)
  (λ_ ih n env H K=>ih n env H λe env H n=>match e with|.goto _=>False|e=>K e env H n)
  (λ_ n env H K=>K .normal env H n)
  (λ_ _ _ _ _=>False)
  (λn env H K=>K .ret env H n)
  (λ_ _ _ _ _=>False) c
end
theorem kr {P:Program} {r:Option Nat} {τ:TypeId->Option TE} {B:Imm->World->Prop} {p:Nat} (hB:BOK B) (hm:P.follows .mixedOrders=true) (hτ:bC P τ) {md rf CP YP} (hC:j5 P B CP) (hY:ni P r B YP):
 ∀(c:Code) (hok:eU c=true) (n:Nat) (env:Env) (H:Hp) (K:Exit->Env->Hp->Nat->Prop),ev P r B p τ md rf CP YP c n env H K->AW P r B p c (λe env H=>∃n,K e env H n) env H:=by
 intro c;induction c with
 |skip=>intro _ n env H K h;exact ab6 ⟨n,h⟩
 |exit id=>intro _ n env H K h;exact ab7 ⟨n,h⟩
 |ret=>intro _ n env H K h;exact af2 ⟨n,h⟩
 |region id ops d=>
  intro hok n env H K h;cases d with
  |true=>
   have h:wz ops.toList [] λms=>rC τ md rf CP YP ops.toList ops.toList 0 n env H [] λenv H n log=>ifK (mE ms log) (K .normal env H n):=h;rw[Tp]at h;exact FX hB hm hτ hC hY hok (K:=λenv H n log=>K .normal env H n) (λenv H n log h=>⟨n,h⟩) h
  |false=>exact Dy hB hτ hC hY (K:=λenv H n log=>K .normal env H n) (λenv H n log h=>⟨n,h⟩) h
 |seq a b iha ihb=>
  intro hok n env H K h;simp only[eU,alM]at hok;refine af0 ((iha hok.1 n env H _ h).mono ?_)
  rintro e env H ⟨n,h⟩
  cases e with
  |normal=>exact ihb hok.2 n env H K h
  |_=>exact⟨n,h⟩
 |cond c a b iha ihb=>
  intro hok n env H K h;simp only[eU,alM]at hok;have h:PI (eo env c) c env (λenv=>ev P r B p τ md rf CP YP a n env H K) (λenv=>ev P r B p τ md rf CP YP b n env H K):=h;unfold PI at h;split at h
  ·rename_i t hc
   split at h
   ·exact xW (t:=true) (.inl hc) (iha hok.1 n env H K h)
   ·exact xW (t:=false) (.inl hc) (ihb hok.2 n env H K h)
  ·rename_i t hc
   cases t with
   |true=>
    have h1:=h.1 rfl;refine xW (t:=true) (.inr hc) ?_;simp only[if_true];split at h1
    ·rename_i d
     rw[mR]at h1;exact(iha hok.1 n _ H K h1).eqE (EqE.bool hc)
    ·exact iha hok.1 n _ H K h1
   |false=>
    have h1:=h.2 rfl;refine xW (t:=false) (.inr hc) ?_;simp only[amn,if_false];split at h1
    ·rename_i d
     rw[mR]at h1;exact(ihb hok.2 n _ H K h1).eqE (EqE.bool hc)
    ·exact ihb hok.2 n _ H K h1
  ·exact h.elim
 |block id c ih=>
  intro hok n env H K h;refine Xl ((ih hok n env H _ h).mono ?_)
  rintro e env H ⟨n,h⟩
  cases e with
  |exit i=>
   simp only at h⊢;cases hb:alI i id<;>rw[hb]at h<;>exact⟨n,h⟩
  |_=>exact⟨n,h⟩
 |loop c ih=>
  intro hok n env H K h;have h:jB (n+jG c) λn'=>Lp md rf CP YP n (AW P r B p (.loop c) (λe env H=>K e env H n') env H):=h;rw[jT]at h;exact h.get.mono λe env H h=>⟨_,h⟩
 |rangeFunc g ps x y _ _=>
  intro hok n env H K h;have h:jB (n+jG x+jG y+4) λn'=>Lp md rf CP YP n (AW P r B p (.rangeFunc g ps x y) (λe env H=>K e env H n') env H):=h;rw[jT]at h;exact h.get.mono λe env H h=>⟨_,h⟩
 |scope c ih=>
  intro hok n env H K h;refine Xm ((ih hok n env H _ h).mono ?_)
  rintro e env H ⟨n,h⟩
  cases e with
  |goto l=>exact h.elim
  |_=>exact⟨n,h⟩
 |label l=>intro _ n env H K h;exact Xn ⟨n,h⟩
 |_=>intro _ n env H K h;exact h.elim
def BK:PV->Option PV
 |.agg cs=>match l8 cs with|some ds=>some (.agg ds)|none=>none
 |.any=>some .any
 |p=>iL p
def jP:List PV->Option (List PV)
 | []=>some []
 |x::xs=>match BK x with
  |some y=>match jP xs with
   |some ys=>some (y::ys)
   |none=>none
  |none=>none
theorem rD {p q:PV} (h:BK p=some q) {S:Imm} {w:World} {ι:Ix} {v:Value} (hr:Rep S w ι p v):Rep S w noI q v:=by
 unfold BK at h;split at h
 ·rename_i cs
  split at h
  ·rename_i ds hds
   cases h
   obtain⟨h1,h2⟩:=kX hds;cases hr with
   |agg _ _ vs hl hh=>exact .agg _ _ _ (h1.trans hl) (λi hi=>h2 i qqO (hh i qqO))
  ·cases h
 ·cases h;exact .any _ _
 ·exact jE h hr
theorem iD:∀{ps qs:List PV},jP ps=some qs->qs.length=ps.length/\∀i,i<ps.length->∀{S:Imm} {w:World} {ι:Ix} {v:Value},Rep S w ι (aG ps i) v->Rep S w noI (aG qs i) v:=by
 intro ps;induction ps with
 |nil=>intro qs h;simp[jP]at h;subst h;exact⟨rfl,λi hi=>by simp at hi⟩
 |cons p ps ih=>
  intro qs h;unfold jP at h;split at h
  ·rename_i y hy
   split at h
   ·rename_i ys hys
    cases h
    obtain⟨h1,h2⟩:=ih hys;refine⟨by simp[h1],λi hi=>?_⟩
    cases i with
    |zero=>intro S w ι v hr;exact rD hy hr
    |succ i=>exact h2 i (by simpa using hi)
   ·cases h
  ·cases h
def PK (v:PV) (H:Hp) (K:PV->Hp->Prop):Prop:=
 match v with
 |.rsl k off n=>bR H k λo=>match o with
  |.cells c fz=>l9 c λd=>jY d λce=>gH d λcn=>match alI off 0 with
   |true=>n≤cn/\(match fz with
    |true=>K (.isl (d.sub 0 n) .none) H
    |false=>jv H k (.cells d true) λH=>K (.isl (d.sub 0 n) .none) H)
   |false=>False
  |_=>False
 |v=>match BK v with
  |some v=>bP v λv=>K v H
  |none=>False
def PL:List PV->Hp->(List PV->Hp->Prop)->Prop
 | [],H,K=>K [] H
 |v::vs,H,K=>PK v H λu H=>PL vs H λus H=>K (u::us) H
def PN (v:PV) (H:Hp) (K:PV->Hp->Prop):Prop:=
 match v with
 |.agg vs=>PL vs H λus H=>K (.agg us) H
 |v=>PK v H K
def wB:List PV->Hp->(List PV->Hp->Prop)->Prop
 | [],H,K=>K [] H
 |v::vs,H,K=>PN v H λu H=>wB vs H λus H=>K (u::us) H
section
variable {P:Program} {τ:TypeId->Option TE} {B:Imm->World->Prop} {p:Nat}
def Frz (P:Program) (H H':Hp) (R R':Imm->World->Ix->Prop):Prop:=
 ∀{S:Imm} {w:World} {ι:Ix},Mem S w ι H->R S w ι->∃S',Mem S' w ι H'/\Keeps S w S' w/\(∀p,Tr p S w ι H S' w ι H')/\R' S' w ι
theorem BL {v:PV} {H:Hp} {K:PV->Hp->Prop} (h:PK v H K):∃u H',K u H'/\∀val,Frz P H H' (λS w ι=>Rep S w ι v val) (λS w ι=>Rep S w noI u val):=by
 unfold PK at h;split at h
 ·rename_i k off n
  rw[bD]at h;obtain⟨ob,hob,h⟩:=h;split at h
  ·rename_i c fz
   have h':=iC h;clear h;obtain⟨d,h,d1,d2,d3⟩:=h';simp only[fI,dM]at h;split at h
   ·rename_i hoff
    have hoff:=alN hoff;subst hoff;obtain⟨hn,h⟩:=h;have fin:∀{S:Imm} {w:World} {ι:Ix} {c:CL} {val:Value},n≤c.cnt->(∀b,ι.o k=some b->∀j,j<c.ncell->S b j/\Rep S w noI (c.get j) (rdv w b j))->Rep S w ι (.rsl k 0 n) val->Rep S w noI (.isl (c.sub 0 n) .none) val:=by
     intro S w ι c val hn hs hr;cases hr with
     |rsl _ _ _ _ b cap hk hc _=>
      have:=o7 (S:=S) (w:=w) (c:=c) (b:=b) (off:=0) (λj hj=>by rw[alO];exact(hs b hk j hj).1) (λj hj=>by rw[alO];exact(hs b hk j hj).2) (x:=0) (y:=n) qqO hn (cap:=cap) qqO noI
      simpa using this
     |rslz _ _ _ b o hk=>
      exact lN _ (by rw[jU _ qqO]) (.inr ⟨b,o,rfl⟩) noI
    split at h
    ·refine⟨_,_,h,λval S w ι M hr=>⟨S,M,.refl _ _,λp=>.refl _ _ _ _ _,?_⟩⟩
     exact fin hn (λb hb j hj=>⟨(M.frozen hob hb j qqO).1,d3 j qqO (M.frozen hob hb j qqO).2⟩) hr
    ·rw[lD]at h
     refine⟨_,_,h,λval S w ι M hr=>?_⟩;obtain⟨S',M',K',T,F⟩:=M.freeze (c':=d) hob d2 (λj hj=>by intro S w ι v hr;exact d3 j hj hr)
     exact⟨S',M',K',T,fin hn (λb hb=>F b hb) (hr.mono K' _ (.refl _))⟩
   ·exact h.elim
  ·exact h.elim
 ·split at h
  ·rename_i u hu
   rw[bO]at h;exact⟨u,H,h,λval S w ι M hr=>⟨S,M,.refl _ _,λp=>.refl _ _ _ _ _,rD hu hr⟩⟩
  ·exact h.elim
theorem Lj:∀(vs:List PV) {H:Hp} {K:List PV->Hp->Prop},PL vs H K->∃us H',K us H'/\us.length=vs.length/\
 ∀(val:Nat->Value),Frz P H H' (λS w ι=>∀i,i<vs.length->Rep S w ι (aG vs i) (val i)) (λS w ι=>∀i,i<us.length->Rep S w noI (aG us i) (val i)):=by
 intro vs;induction vs with
 |nil=>intro H K h;exact⟨_,_,h,rfl,λval S w ι M hr=>⟨S,M,.refl _ _,λp=>.refl _ _ _ _ _,λi hi=>by simp at hi⟩⟩
 |cons v vs ih=>
  intro H K h;obtain⟨u,H1,h,h1⟩:=BL (P:=P) h;obtain⟨us,H2,h,hl,h2⟩:=ih h;refine⟨_,_,h,by simp[hl],λval S w ι M hr=>?_⟩
  obtain⟨S1,M1,K1,T1,R1⟩:=h1 (val 0) M (hr 0 qqS);obtain⟨S2,M2,K2,T2,R2⟩:=h2 (λi=>val (i+1)) M1 (λi hi=>by have:=(hr (i+1) (by simpa using hi)).mono K1 _ (.refl _);simpa [aG]using this)
  refine⟨S2,M2,K1.trans K2,λp=>(T1 p).trans (T2 p),λi hi=>?_⟩;cases i with
  |zero=>exact R1.mono K2 _ (.refl _)
  |succ i=>simpa [aG]using R2 i (by simpa using hi)
theorem Ll {v:PV} {H:Hp} {K:PV->Hp->Prop} (h:PN v H K):∃u H',K u H'/\∀val,Frz P H H' (λS w ι=>Rep S w ι v val) (λS w ι=>Rep S w noI u val):=by
 unfold PN at h;split at h
 ·rename_i vs
  obtain⟨us,H',h,hl,hs⟩:=Lj (P:=P) _ h;refine⟨_,_,h,λval S w ι M hr=>?_⟩;cases hr with
  |agg _ _ ws hw hh=>
   obtain⟨S',M',K',T',R'⟩:=hs (λi=>ws.getD i undef) M hh;exact⟨S',M',K',T',.agg _ _ _ (hl.trans hw) R'⟩
 ·exact BL h
theorem Ip:∀(vs:List PV) {H:Hp} {K:List PV->Hp->Prop},wB vs H K->∃us H',K us H'/\us.length=vs.length/\
 ∀(val:Nat->Value),Frz P H H' (λS w ι=>∀i,i<vs.length->Rep S w ι (aG vs i) (val i)) (λS w ι=>∀i,i<us.length->Rep S w noI (aG us i) (val i)):=by
 intro vs;induction vs with
 |nil=>intro H K h;exact⟨_,_,h,rfl,λval S w ι M hr=>⟨S,M,.refl _ _,λp=>.refl _ _ _ _ _,λi hi=>by simp at hi⟩⟩
 |cons v vs ih=>
  intro H K h;obtain⟨u,H1,h,h1⟩:=Ll (P:=P) h;obtain⟨us,H2,h,hl,h2⟩:=ih h;refine⟨_,_,h,by simp[hl],λval S w ι M hr=>?_⟩
  obtain⟨S1,M1,K1,T1,R1⟩:=h1 (val 0) M (hr 0 qqS);obtain⟨S2,M2,K2,T2,R2⟩:=h2 (λi=>val (i+1)) M1 (λi hi=>by have:=(hr (i+1) (by simpa using hi)).mono K1 _ (.refl _);simpa [aG]using this)
  refine⟨S2,M2,K1.trans K2,λp=>(T1 p).trans (T2 p),λi hi=>?_⟩;cases i with
  |zero=>exact R1.mono K2 _ (.refl _)
  |succ i=>simpa [aG]using R2 i (by simpa using hi)
end
def oH (τ:TypeId->Option TE):List ResultVar->Env->Hp->(List PV->Prop)->Prop
 | [],env,H,K=>K []
 |r::rs,env,H,K=>match r with
  |.tmp t=>bP (aG env t) λv=>oH τ rs env H λvs=>K (v::vs)
  |.cell a ty=>teK τ ty λte=>match aG env a with
   |.rp k off=>bR H k λo=>match o with
    |.cells c _=>rdK te c off λv=>oH τ rs env H λvs=>K (v::vs)
    |_=>False
   |.ip c off=>rdK te c off λv=>oH τ rs env H λvs=>K (v::vs)
   |_=>False
def dJ (vs:List PV):PV:=match vs with| [v]=>v|vs=>.tup vs
section
variable {P:Program} {τ:TypeId->Option TE}
theorem BM (hτ:bC P τ) {env:Env} {H:Hp}:∀(rs:List ResultVar) {K:List PV->Prop},oH τ rs env H K->∃vs,K vs/\∀{S:Imm} {w:World} {ι:Ix} {tmps:Array Value},Mem S w ι H->bH S w ι env tmps->
 ∃vals:List Value,(rs.mapM λ(x:ResultVar)=>(match x with|.tmp t=>pure (tmps.getD t undef)|.cell a t=>do loadVar t (<-asAddr (tmps.getD a undef)):Sem Value)).run P w=.ok vals w/\vals.length=vs.length/\
  ∀i,i<vs.length->Rep S w ι (aG vs i) (vals.getD i undef):=by
 intro rs;induction rs with
 |nil=>intro K h;exact⟨_,h,λM R=>⟨[],rfl,rfl,λi hi=>by simp at hi⟩⟩
 |cons x rs ih=>
  intro K h;have cons:∀{v:PV} {K:List PV->Prop},(oH τ rs env H λvs=>K (v::vs))->
   (∀{S:Imm} {w:World} {ι:Ix} {tmps:Array Value},Mem S w ι H->bH S w ι env tmps->∃val,((match x with|.tmp t=>pure (tmps.getD t undef)|.cell a t=>do loadVar t (<-asAddr (tmps.getD a undef)):Sem Value)).run P w=.ok val w/\Rep S w ι v val)->
   ∃vs,K vs/\∀{S:Imm} {w:World} {ι:Ix} {tmps:Array Value},Mem S w ι H->bH S w ι env tmps->
    ∃vals:List Value,((x::rs).mapM λ(x:ResultVar)=>(match x with|.tmp t=>pure (tmps.getD t undef)|.cell a t=>do loadVar t (<-asAddr (tmps.getD a undef)):Sem Value)).run P w=.ok vals w/\vals.length=vs.length/\
     ∀i,i<vs.length->Rep S w ι (aG vs i) (vals.getD i undef):=by
   intro v K h hx;obtain⟨vs,hK,hs⟩:=ih h;refine⟨_,hK,λM R=>?_⟩;rename_i S w ι tmps;obtain⟨val,r1,r2⟩:=hx M R;obtain⟨vals,q1,q2,q3⟩:=hs M R;refine⟨val::vals,?_,by simp[q2],λi hi=>?_⟩
   ·rw[List.mapM_cons,Sem.run_bind,r1]
    simp only[Result.andThen,Sem.run_bind,q1,Sem.run_pure]
   ·cases i with
    |zero=>simpa [aG]using r2
    |succ i=>simpa [aG]using q3 i (by simpa using hi)
  unfold oH at h;split at h
  ·rename_i t
   rw[bO]at h;refine cons h λM R=>⟨_,rfl,?_⟩;rename_i S w ι tmps;exact o8 (a:={tmps:=tmps,defers:=[]}) R (.tmp t) (λg e=>by cases e)
  ·rename_i a ty
   rw[bZ]at h;obtain⟨te,ht,h⟩:=h;split at h
   ·rename_i k off hk
    rw[bD]at h;obtain⟨o,ho,h⟩:=h;split at h
    ·obtain⟨v,h,hv⟩:=og hτ ht h
     refine cons h λM R=>?_;rename_i S w ι tmps;have h1:=o8 (a:={tmps:=tmps,defers:=[]}) R (.tmp a) (λg e=>by cases e)
     simp only[eo,Act.eval,hk]at h1;generalize he:tmps.getD a undef=x at h1
     cases h1 with
     |rp _ _ _ b hb=>
      obtain⟨val,r1,r2⟩:=hv (M.lies ho hb);refine⟨val,?_,r2⟩;rw[alO]at r1;simp only[asAddr,he,Sem.run_bind,Sem.run_pure,Result.andThen];exact r1
    ·exact h.elim
   ·rename_i c off hk
    obtain⟨v,h,hv⟩:=og hτ ht h;refine cons h λM R=>?_;rename_i S w ι tmps;have h1:=o8 (a:={tmps:=tmps,defers:=[]}) R (.tmp a) (λg e=>by cases e)
    simp only[eo,Act.eval,hk]at h1;generalize he:tmps.getD a undef=x at h1
    cases h1 with
    |ip _ _ _ b o hs hh=>
     obtain⟨val,r1,r2⟩:=hv (qd.of_imm (ι:=ι) M.imm hs hh);refine⟨val,?_,r2⟩;simp only[asAddr,he,Sem.run_bind,Sem.run_pure,Result.andThen];exact r1
   ·exact h.elim
end
end Go.Eng
