/- An engine that walks through a function of the program with symbolic values, and the proofs that it is sound. No condition. -/
import Derived.Laws.Tables
import Derived.MapKept
import Derived.Lib.ConvBytes
import Derived.Test.YtmkagljofpddpaaGreatDoorEa
open Array renaming getElem?_push→alu,getD_eq_getD_getElem?→alz,getElem?_eq_getElem→alv,length_toList→alY,getElem?_setIfInBounds_ne→al1,getElem?_eq_none→alr,size_append→ams,size_map→amt,range→amu,getElem?_append_left→amC
open Bool renaming and_eq_true→alM,not_eq_true'→ama,not_false→ame,not_true→amf,false_eq_true→amn
open Classical renaming not_not→amr
open List renaming length_nil→alf,length_cons→alj,getD_eq_getElem?_getD→alC,getElem?_set→alX,getElem_of_mem→alG,length_set→alZ,getElem?_set_ne→al0,length_take→amh,getElem?_take→ami,range→alA,getElem?_toArray→amv,getElem?_cons_zero→amw,getElem?_cons_succ→amx,getElem?_append→amA,getElem?_append_right→amB
open Nat renaming le_refl→alo,sub_self→alW,le_of_ble_eq_true→alU,zero_add→alO,add_zero→alg,eq_of_beq_eq_true→alN,mul_le_mul_right→al2,add_mul→al3,one_mul→al4,pos_of_ne_zero→al5,div_lt_iff_lt_mul→al6,div_add_mod→al7,mod_lt→al8,mul_comm→alP,le_div_iff_mul_le→al9,mul_one→alV,div_one→amb,mod_one→amc,min_eq_left→amd,ne_of_gt→amg,add_assoc→alk,eq_zero_or_pos→amk,mul_add_div→alQ,mul_add_mod→alS,zero_le→aml,beq→alI,zero_mul→amo,le_mul_of_pos_right→amq,mul_le_mul→amy,lt_or_ge→alq
open Option renaming getD_some→amj,map_some→aly,map_none→amm
namespace Go.Eng
open Go.RowKit
set_option linter.unusedSimpArgs false
set_option linter.unusedVariables false
variable {P:Program} {r:Option Nat} {τ:TypeId->Option TE}
theorem j6 {o:Oper} {ρ:Operand->PV} {H0:Hp} {n:Nat} {c:CL} {v:PV} {accs:List Nat} (hd:∀c,o.op≠ .defer c)
 (h:∀(S:Imm) (w:World) (ι:Ix) (H:Hp) (a:Act),Mem S w ι H->(∀x∈o.op.operands.toList,Rep S w ι (ρ x) (a.eval x))->(∀k∈accs,av H k=av H0 k)->
   ∃val arr e,(execOp a.eval o).run P w=.ok (.value val) {w with heap:=w.heap.push (.cells arr e)}/\c.ncell≤arr.size/\(∀j,j<c.ncell->Rep S w ι (c.get j) (arr.getD j undef))/\
    (∀S' w' ι',ι'.o n=some w.heap.size->w'.heap[w.heap.size]? =some (.cells arr e (0,0))->Rep S' w' ι' v val)):
 bJ P r o ρ H0 v [(n,.cells c false)] accs [n]:=by
 intro S w ι H a next Q M hr ha hn hk;obtain⟨val,arr,e,h1,h2,h3,h4⟩:=h S w ι H a M hr ha;have hno:=hn n qqS;obtain⟨M',T⟩:=M.new hno h2 h3 (e:=e);exact cZ hd h1 (hk val S _ _ M' (jS (M.none_o hno)) (kG M.imm _) (h4 _ _ _ (by simp[Ix.seto]) (gV _ _)) T)
theorem Xf {τ:TypeId->Option TE} {te:TE} {K:TypeId->Prop} (h:Xd τ te K):te.zero.cells= #[.pointer none,.slice none 0 0]/\∃e,K e:=by
 unfold Xd at h;split at h
 ·split at h
  ·rw[bZ]at h
   obtain⟨tf,_,h⟩:=h;split at h
   ·exact⟨h.1,_,h.2⟩
   ·exact h.elim
  ·exact h.elim
 ·exact h.elim
theorem EN (hτ:bC P τ) {te:TE} {t:TypeId} (ht:τ t=some te) {o:Oper} (ho:o.op=.alloc t) (w:World) (a:Act):
 (execOp a.eval o).run P w=.ok (.value (.pointer (some ⟨w.heap.size,0,none⟩))) {w with heap:=w.heap.push (.cells te.zero.cells t)}:=by
 simp only[execOp,ho];refine eH ?_;simp[Instr.alloc,iw hτ ht,Result.andThen,newVar,newRow]
theorem SQ (hτ:bC P τ) {o:Oper} {ρ:Operand->PV} {H0:Hp} {n:Nat} {t e:TypeId} {te:TE} (ho:o.op=.alloc t) (ht:τ t=some te) (hz:te.zero.cells= #[.pointer none,.slice none 0 0]):
 bJ P r o ρ H0 (.rp n 0) [(n,.bld t e .empty)] [] [n]:=by
 intro S w ι H a next Q M hr ha hn hk;have hno:=hn n qqS;have h1:=EN hτ ht ho w a;have hnS:∀j,¬S w.heap.size j:=λj hs=>by have:=eZ (M.imm _ j hs);omega
 have hw:({w with heap:=w.heap.push (.cells te.zero.cells t)}:World).heap[w.heap.size]? =some (.cells te.zero.cells t (0,0)):=gV _ _;have hoth:∀b,b<w.heap.size->({w with heap:=w.heap.push (.cells te.zero.cells t)}:World).heap[b]? =w.heap[b]? :=λb hb=>by
  simp[alu,Nat.ne_of_lt hb]
 obtain⟨M',le,keeps,T⟩:=M.gather [] (n:=n) (o':=.bld t e .empty) (X:=λb=>b=w.heap.size) (bn:=w.heap.size) (H':=aP H n (.bld t e .empty)) (λk hk=>by simp at hk) hno rfl (λb=>by simp[AO.has,Ix.setm])
  (w':={w with heap:=w.heap.push (.cells te.zero.cells t)}) ⟨rfl,rfl,rfl,qqS,λb hb=>gM (hoth b hb)⟩ hw (λb hb _=>hoth b hb) (.inl (alo _)) hnS (λb hb=>.inl (Nat.le_of_eq hb.symm))
  (λ_ _=>⟨w.heap.size,.pointer none,.slice none 0 0,by simp[Ix.setm],by rw[hw,hz],.inl rfl,λb' j hb'=>by
    have:b'=w.heap.size:=by simpa [Ix.setm]using hb'
    subst this;exact hnS j,by simp[Value.ownBlock],World.ownsRowF_nil _ _ _ _,λb'=>by simp[Ix.setm,Value.ownBlock]⟩)
  (λk=>by rw[aW];simp)
 exact cZ (λc e=>by rw[ho]at e;cases e) h1 (hk _ S _ _ M' le keeps (.rp _ _ _ _ (by simp[Ix.setm])) T)
theorem KP (hτ:bC P τ) {md rf CP YP} {o:Oper} {ρ:Operand->PV} {H:Hp} {n:Nat} {t:TypeId} (ho:o.op=.alloc t) {K:KR}
 (h:opK τ md rf CP YP ρ H n o.dst o.op K):∃v sets accs news,K v sets accs news/\bJ P r o ρ H v sets accs news:=by
 rw[ho]at h;simp only[opK,bZ,bW]at h;obtain⟨te,ht,hfr,hK⟩:=h;split at hK
 ·obtain⟨hz,e,hK⟩:=Xf hK
  exact⟨_,_,_,_,hK,SQ hτ ho ht hz⟩
 rw[bN]at hK;refine⟨_,_,_,_,hK,j6 (λc e=>by rw[ho]at e;cases e) λS w ι H' a M hr ha=>?_⟩
 refine⟨.pointer (some ⟨w.heap.size,0,none⟩),te.zero.cells,t,EN hτ ht ho w a,?_,?_,?_⟩
 ·simp[CL.ncell,ng]
 ·intro j hj
  simp only[CL.ncell,ng]at hj;have:=tH (S:=S) (w:=w) (ι:=ι) te.zero.cells.toList j hj;simpa [CL.get,alz]using this
 ·exact λS' w' ι' hi _=>.rp _ _ _ _ hi
theorem SS (hτ:bC P τ) {md rf CP YP} {o:Oper} {ρ:Operand->PV} {H:Hp} {n:Nat} {t:TypeId} {x:Operand} (ho:o.op=.box t x) {K:KR}
 (h:opK τ md rf CP YP ρ H n o.dst o.op K):∃v sets accs news,K v sets accs news/\bJ P r o ρ H v sets accs news:=by
 rw[ho]at h;simp only[opK,bZ,bO]at h;obtain⟨te,ht,h⟩:=h;obtain⟨cs,h,hs⟩:=pY h;rw[bW]at h;refine⟨_,_,_,_,h.2,j6 (λc e=>by rw[ho]at e;cases e) λS w ι H' a M hr ha=>?_⟩
 obtain⟨h1,h2,h3⟩:=hs (hr x (by simp[ho,Op.operands]))
 refine⟨.pointer (some ⟨w.heap.size,0,none⟩),(a.eval x).cells,t,?_,?_,?_,λS' w' ι' hi _=>.rp _ _ _ _ hi⟩
 ·simp only[execOp,ho]
  refine eH ?_;simp[Instr.box,newVar,newRow,Result.andThen]
 ·simp[CL.ncell,h2]
 ·exact λj hj=>(h3 j hj).1
theorem mh (ps:List PV):∀(l:List PV) (o:Nat),(setCells l o ps).length=l.length:=by
 induction ps with
 |nil=>intro l o;rfl
 |cons p ps ih=>intro l o;simp[setCells,ih]
theorem vT (ps:List PV):∀(l:List PV) (o j:Nat),o+ps.length≤l.length->aG (setCells l o ps) j=if o≤j/\j<o+ps.length then aG ps (j-o)else aG l j:=by
 induction ps with
 |nil=>intro l o j h;simp only[setCells,alf];rw[if_neg qqO]
 |cons p ps ih=>
  intro l o j h;simp only[alj]at h;rw[setCells,ih _ _ _ (by simp;omega),pW]
  by_cases h1:j=o
  ·subst h1
   rw[if_neg qqO,if_pos qqO,if_pos (by simp only[alj];omega),alW];rfl
  ·by_cases h2:o+1≤j/\j<o+1+ps.length
   ·rw[if_pos h2,if_pos (by simp only[alj];omega)]
    obtain⟨d,rfl⟩:∃d,j=o+1+d:=⟨j-(o+1),qqO⟩;rw[show o+1+d-(o+1)=d by omega,show o+1+d-o=d+1 by omega];rfl
   ·rw[if_neg h2,if_neg qqO,if_neg (by simp only[alj];omega)]
theorem Rep.drop {S:Imm} {w:World} {ι:Ix} {c:CL} {t:Tok} {v:Value} (h:Rep S w ι (.isl c t) v):Rep S w ι (.isl c .none) v:=by
 cases h with
 |islnil _ _ _ hc=>exact .islnil _ _ _ hc
 |isl _ _ _ b off cap hc hs hh hf ho=>exact .isl _ _ _ _ _ _ hc hs hh (λe=>by cases e) (λk e=>by cases e)
theorem EO {c:CL} {off:Nat} {cs:List PV} {K:CL->Prop} (h:wrK c off cs K):∃c',K c'/\c'.ncell=c.ncell/\off+cs.length≤c.ncell/\
 ∀j (S:Imm) (w:World) (ι:Ix) (v:Value),(if off≤j/\j<off+cs.length then Rep S w ι (aG cs (j-off)) v else Rep S w ι (c.get j) v)->j<c.ncell->Rep S w ι (c'.get j) v:=by
 unfold wrK at h;have one':∀(off j:Nat),off≤j/\j<off+1↔j=off:=λoff j=>qqO;split at h
 ·rename_i ds
  rw[aK,bN]at h;have hb:=alU h.1;refine⟨_,h.2,by simp[CL.ncell,mh],hb,λj S w ι v hv hj=>?_⟩
  simp only[CL.get,vT _ _ _ _ hb];split at hv
  ·rename_i hc;rw[if_pos hc];exact hv
  ·rename_i hc;rw[if_neg hc];exact hv
 ·rename_i q xs
  split at h
  ·rename_i q' x
   rw[aK]at h;obtain⟨hq,hlt,hK⟩:=h;have hq:=of_decide_eq_true hq;subst hq;refine⟨_,hK,by simp[CL.ncell],by simp[CL.ncell];omega,λj S w ι v hv hj=>?_⟩
   simp only[alj,alf,alO,one']at hv;simp only[CL.get,alC,alX];by_cases e:j=off
   ·subst e;simp only[if_true,alW,aG]at hv;simpa [hlt]using hv
   ·rw[if_neg e]at hv;simp only[CL.get,alC]at hv;rw[if_neg (Ne.symm e)];exact hv
  ·exact h.elim
 ·rename_i xs
  have key:∀(b:Bool) (p:PV),(p=.bp b∨p=.bool b)->cs=[p]->off<xs.length->∃c',(∀(K:CL->Prop),K (.bools (xs.set off b))->K c')/\c'.ncell=(CL.bools xs).ncell/\off+cs.length≤(CL.bools xs).ncell/\
   ∀j (S:Imm) (w:World) (ι:Ix) (v:Value),(if off≤j/\j<off+cs.length then Rep S w ι (aG cs (j-off)) v else Rep S w ι ((CL.bools xs).get j) v)->j<(CL.bools xs).ncell->Rep S w ι (c'.get j) v:=by
   intro b p hp hcs hlt;refine⟨.bools (xs.set off b),λK h=>h,by simp[CL.ncell],by simp[CL.ncell,hcs];omega,λj S w ι v hv hj=>?_⟩
   simp only[hcs,alj,alf,alO,one']at hv;simp only[CL.get,alC,alX];by_cases e:j=off
   ·subst e;simp only[if_true,alW,aG]at hv
    have:Rep S w ι (.bp b) v:=by
     rcases hp with rfl|rfl
     ·exact hv
     ·cases hv;constructor
    simpa [hlt]using this
   ·rw[if_neg e]at hv;simp only[CL.get,alC]at hv;rw[if_neg (Ne.symm e)];exact hv
  split at h
  ·rename_i b
   obtain⟨c',h1,h2⟩:=key b _ (.inl rfl) rfl h.1;exact⟨c',h1 _ h.2,h2⟩
  ·rename_i b
   obtain⟨c',h1,h2⟩:=key b _ (.inr rfl) rfl h.1;exact⟨c',h1 _ h.2,h2⟩
  ·exact h.elim
 ·rename_i xs
  split at h
  ·rename_i x
   refine⟨_,h.2,by simp[CL.ncell],by simp[CL.ncell];omega,λj S w ι v hv hj=>?_⟩
   simp only[alj,alf,alO,one']at hv;simp only[CL.get,alC,alX];by_cases e:j=off
   ·subst e;simp only[if_true,alW,aG]at hv;simpa [h.1]using hv
   ·rw[if_neg e]at hv;simp only[CL.get,alC]at hv;rw[if_neg (Ne.symm e)];exact hv
  ·exact h.elim
 ·rename_i q xss
  have key:∀(ys:List Int) (p:PV),(∀(S:Imm) (w:World) (ι:Ix) (v:Value),Rep S w ι p v->Rep S w ι (.isl (.ints q ys) .none) v)->cs=[p]->off<xss.length->
   ∃c',(∀(K:CL->Prop),K (.rows q (xss.set off ys))->K c')/\c'.ncell=(CL.rows q xss).ncell/\off+cs.length≤(CL.rows q xss).ncell/\
   ∀j (S:Imm) (w:World) (ι:Ix) (v:Value),(if off≤j/\j<off+cs.length then Rep S w ι (aG cs (j-off)) v else Rep S w ι ((CL.rows q xss).get j) v)->j<(CL.rows q xss).ncell->Rep S w ι (c'.get j) v:=by
   intro ys p hp hcs hlt;refine⟨.rows q (xss.set off ys),λK h=>h,by simp[CL.ncell],by simp[CL.ncell,hcs];omega,λj S w ι v hv hj=>?_⟩
   simp only[hcs,alj,alf,alO,one']at hv;simp only[CL.get,alC,alX];by_cases e:j=off
   ·subst e;simp only[if_true,alW,aG]at hv
    have:=hp _ _ _ _ hv;simpa [hlt]using this
   ·rw[if_neg e]at hv;simp only[CL.get,alC]at hv;rw[if_neg (Ne.symm e)];exact hv
  split at h
  ·rename_i q' ys t
   rw[aK]at h;obtain⟨hq,hlt,hK⟩:=h;have hq:=of_decide_eq_true hq;subst hq;obtain⟨c',h1,h2⟩:=key ys _ (λS w ι v hv=>hv.drop) rfl hlt;exact⟨c',h1 _ hK,h2⟩
  ·obtain⟨c',h1,h2⟩:=key [] .nils (λS w ι v hv=>by cases hv;exact .islnil _ _ _ rfl) rfl h.1
   exact⟨c',h1 _ h.2,h2⟩
  ·exact h.elim
 ·exact h.elim
theorem KQ (hτ:bC P τ) {md rf CP YP} {o:Oper} {ρ:Operand->PV} {H:Hp} {n:Nat} {t:TypeId} {x y:Operand} (ho:o.op=.store t x y) (hfz:OV rf x=false) {K:KR}
 (h:opK τ md rf CP YP ρ H n o.dst o.op K):∃v sets accs news,K v sets accs news/\bJ P r o ρ H v sets accs news:=by
 rw[ho]at h;simp only[opK,bZ,bO,hfz]at h;obtain⟨te,ht,h⟩:=h;have hd:∀c,o.op≠ .defer c:=λc e=>by rw[ho]at e;cases e
 split at h
 ·rename_i k off hρ
  obtain⟨cs,h,hs⟩:=pY h;rw[bD]at h;obtain⟨ob,hob,h⟩:=h;split at h
  ·rename_i c
   obtain⟨c',hK,hn1,hn2,hget⟩:=EO h;refine⟨_,_,_,_,hK,?_⟩;intro S w ι H' a next Q M hr ha hn hk;have hob':=(ha k qqS).trans hob;have hr1:=hr x (by simp[ho,Op.operands])
   obtain⟨e1,e2,e3⟩:=hs (hr y (by simp[ho,Op.operands]))
   rw[hρ]at hr1;obtain⟨b,arr,e,g1,g2,g3,g4,g5⟩:=M.obj k _ hob';cases hev:a.eval x<;>rw[hev]at hr1<;>cases hr1
   rename_i b' hb';rw[g1]at hb';cases hb'
   have hone:∀v∈(a.eval y).cells.toList,v.oneCell'=true:=by
    intro v hv;obtain⟨i,hi,rfl⟩:=alG hv;have h0:=e3 i (by rw[e2];simpa using hi)
    have:=h0.1.oneCell h0.2;simpa [alz,alv (show i<(a.eval y).cells.size by simpa using hi)]using this
   have hsz:off+0+(a.eval y).cells.toList.length≤arr.size:=by simp[<-e2];omega
   obtain⟨w',r1,u⟩:=bT P (a.eval y).cells.toList g2 hone hsz;have hc':∀j,j<c'.ncell->Rep S w ι (c'.get j) ((putRow arr (off+0) (a.eval y).cells.toList).getD j undef):=by
    intro j hj;refine hget j S w ι _ ?_ qqO;rw[fP _ _ _ _ (by simp[<-e2];omega)]
    simp only[alg,alY,<-e2];split
    ·rename_i hin
     have:=(e3 (j-off) qqO).1;simpa [alz]using this
    ·have:=g4 j qqO
     simpa using this
   obtain⟨M',T⟩:=M.write hob' g1 g2 u (by rw[cK];exact alo _) (by rw[cK];omega) hc'
   refine fB hd (w':=w') ?_ (hk undef S w' ι M' (.refl _) (T 0).keeps (.any _ _) T);simp only[execOp,ho];refine kZ ?_;simp only[Instr.storeAt,hev,Instr.sureAddr,Sem.run_bind,Sem.run_pure,Result.andThen,storeVar,bK hτ ht];rw[if_neg (by simp[<-e2,e1])]
   simpa [Result.andThen]using r1
  ·rename_i all l rc
   split at h
   ·rename_i k' b n' hv
    obtain⟨⟨hlt,hmem,hn'⟩,hK⟩:=h;refine⟨_,_,_,_,hK,?_⟩;intro S w ι H' a next Q M hr ha hn hk;have hob':=(ha k qqS).trans hob;have hr1:=hr x (by simp[ho,Op.operands])
    have hr2:=hr y (by simp[ho,Op.operands])
    obtain⟨e1,e2,e3⟩:=hs hr2;rw[hρ]at hr1;rw[hv]at hr2;obtain⟨b0,arr,e,g1,g2,g3,g4,g5,g6,g7,g8⟩:=M.obj k _ hob';cases hev:a.eval x<;>rw[hev]at hr1<;>cases hr1
    rename_i b' hb';rw[g1]at hb';cases hb'
    cases hey:a.eval y<;>rw[hey]at hr2<;>cases hr2
    rename_i cap hcap;have hu:Upd w (w.setCell ⟨b0,off,none⟩ (.slice (some ⟨b,0,none⟩) n' cap)) b0 (arr.setIfInBounds off (.slice (some ⟨b,0,none⟩) n' cap)) e:=zi g2 _;obtain⟨w',r1,u⟩:=bT P [.slice (some ⟨b,0,none⟩) n' cap] (o:=off) (i:=0) g2 (by intro v hv;simp at hv;subst hv;rfl) (by simp;omega)
    simp only[alg,putRow]at u;obtain⟨M',K',T⟩:=M.matOrd (l':=l.set off b) hob' g1 g2 u qqS (by simp;omega) (λi hi=>by
     simp only[alZ]at hi;obtain⟨q1,c1,q2,q3⟩:=g8 i hi;by_cases ei:i=off
     ·subst ei
      have e5:(l.set i b).getD i 0=b:=by simp[alC,hi]
      rw[e5];exact⟨hmem,cap,by rw[<-hn'];exact hcap,by rw[<-hn'];simp[alz,show i<arr.size by omega]⟩
     ·have e5:(l.set off b).getD i 0=l.getD i 0:=by rw[alC,alC,al0 (Ne.symm ei)]
      rw[e5];refine⟨q1,c1,q2,?_⟩;rw[<-q3];simp[alz,al1 (Ne.symm ei)])
    refine fB hd (w':=w') ?_ (hk undef S w' ι M' (.refl _) K' (.any _ _) T);simp only[execOp,ho];refine kZ ?_;rw[hey]at e2 e3;simp only[Instr.storeAt,hev,Instr.sureAddr,Sem.run_bind,Sem.run_pure,Result.andThen,storeVar,bK hτ ht,hey];rw[if_neg (by simp[<-e2,e1])]
    simpa [Result.andThen,Value.cells]using r1
   ·exact h.elim
  ·rename_i q f c
   have go:∀{S:Imm} {w:World} {ι:Ix} {H':Hp} {a:Act} {vy:Value},Mem S w ι H'->av H' k=some (.qmat q f c)->(∀x∈o.op.operands.toList,Rep S w ι (ρ x) (a.eval x))->a.eval y=vy->vy.cells= #[vy]->vy.oneCell'=true->off<q->
    ∃b0 arr e w',ι.o k=some b0/\w.heap[b0]? =some (.cells arr e (0,0))/\q≤arr.size/\(∀j,¬S b0 j)/\Upd w w' b0 (arr.setIfInBounds off vy) e/\(execOp a.eval o).run P w=.ok .skip w':=by
    intro S w ι H' a vy M hob' hr hev' hc1 hc2 hlt;have hr1:=hr x (by simp[ho,Op.operands])
    have hr2:=hr y (by simp[ho,Op.operands])
    obtain⟨e1,e2,e3⟩:=hs hr2;rw[hρ]at hr1;obtain⟨b0,arr,e,l,g1,g2,g3,g4,_⟩:=M.obj k _ hob';cases hev:a.eval x<;>rw[hev]at hr1<;>cases hr1
    rename_i b' hb';rw[g1]at hb';cases hb'
    obtain⟨w',r1,u⟩:=bT P [vy] (o:=off) (i:=0) g2 (by intro v hv;simp at hv;subst hv;exact hc2) (by simp;omega)
    simp only[alg,putRow]at u;refine⟨b0,arr,e,w',g1,g2,g3,g4,u,?_⟩;simp only[execOp,ho];refine kZ ?_;rw[hev']at e2 e3;simp only[Instr.storeAt,hev,Instr.sureAddr,Sem.run_bind,Sem.run_pure,Result.andThen,storeVar,bK hτ ht,hev'];rw[if_neg (by simp[<-e2,e1])]
    simpa [Result.andThen,hc1]using r1
   have set1:∀(arr:Array Value) (vy:Value),off<arr.size->(arr.setIfInBounds off vy).getD off undef=vy:=λarr vy h=>by simp[alz,h]
   have set2:∀(arr:Array Value) (vy:Value) (i:Nat),i≠off->(arr.setIfInBounds off vy).getD i undef=arr.getD i undef:=λarr vy i h=>by
    simp[alz,al1 (Ne.symm h)]
   unfold SH at h;split at h
   ·rename_i hv
    obtain⟨⟨hlt,hf⟩,hK⟩:=h;refine⟨_,_,_,_,hK,?_⟩;intro S w ι H' a next Q M hr ha hn hk;have hob':=(ha k qqS).trans hob;have hr2:=hr y (by simp[ho,Op.operands])
    rw[hv]at hr2;obtain⟨vy,hey⟩:∃vy,a.eval y=vy:=⟨_,rfl⟩;rw[hey]at hr2;cases hr2
    obtain⟨b0,arr,e,w',q1,q2,q3,q4,u,r1⟩:=go M hob' hr hey rfl rfl hlt;obtain⟨M',K',T⟩:=M.putNil hob' q1 hlt hf q2 u qqS (set1 _ _ qqO) (set2 _ _);exact fB hd r1 (hk undef S w' ι M' (.refl _) K' (.any _ _) T)
   ·rename_i hv
    obtain⟨d,c',od,h,hod,hox,hoT,hsrc⟩:=vS h;rw[aK]at h;obtain⟨⟨hlt,hf⟩,hkd,hK⟩:=h;have hkd:k≠d:=λe=>by subst e;simp at hkd
    refine⟨_,_,_,_,hK,?_⟩;intro S w ι H' a next Q M hr ha hn hk;have hob':=(ha k qqS).trans hob;have hod':=(ha d qqS).trans hod;have hr2:=hr y (by simp[ho,Op.operands])
    obtain⟨bd,cap,e1,e2,e3,e4,e5,e6,e7⟩:=hsrc M hod' hr2;obtain⟨b0,arr,e,w',q1,q2,q3,q4,u,r1⟩:=go M hob' hr e1 rfl rfl hlt;obtain⟨ι',M',le,K',T⟩:=M.putRow hob' hod' hkd q1 e2 hox hoT e3 e4 e5 e6 e7 hlt hf q2 u qqS (set1 _ _ qqO) (set2 _ _);exact fB hd r1 (hk undef S w' ι' M' le K' (.any _ _) T)
  ·exact h.elim
 ·rename_i k m i j hρ
  rw[bD]at h;obtain⟨ob,hob,h⟩:=h;split at h
  ·rename_i m' rs fz
   split at h
   ·exact h.elim
   ·split at h
    ·rename_i cs hv
     rw[aK]at h;simp only[alM]at h;obtain⟨⟨hlt,hlen,hone⟩,⟨e1,e2,e3,hagg⟩,hK⟩:=h;have e1:=alN e1;have e2:=alN e2;have e3:=alN e3;subst e1;subst e2;refine⟨_,_,_,_,hK,?_⟩;intro S w ι H' a next Q M hr ha hn hk;have hob':=(ha k qqS).trans hob;have hr1:=hr x (by simp[ho,Op.operands])
     have hr2:=hr y (by simp[ho,Op.operands])
     rw[hρ]at hr1;rw[hv]at hr2;obtain⟨b,arr,e,g1,g2,g3,g4,g5⟩:=M.obj k _ hob';cases hev:a.eval x<;>rw[hev]at hr1<;>cases hr1
     rename_i b' hb';rw[g1]at hb';cases hb'
     obtain⟨vy,hey⟩:∃v,a.eval y=v:=⟨_,rfl⟩;rw[hey]at hr2;cases hr2 with
     |agg _ _ vs hvl hvs=>
     have hrow:i*m+m≤rs.length*m:=by
      have:=al2 m (show i+1≤rs.length by omega)
      rw[al3,al4]at this;exact this
     have g3':rs.length*m≤arr.size:=g3;have hvm:vs.size=m:=qqO;have honeV:∀v∈vs.toList,v.oneCell'=true:=by
      intro v hv;obtain⟨q,hq,rfl⟩:=alG hv;have hq':q<cs.length:=by simp at hq;omega
      have:=(hvs q hq').oneCell (kH cs hone q hq');simpa [alz,alv (show q<vs.size by simpa using hq)]using this
     obtain⟨w',r1,u⟩:=bT P vs.toList (o:=i*m+0) (i:=0) g2 honeV (by simp;omega)
     simp only[alg]at u;have hput:∀j,(putRow arr (i*m) vs.toList).getD j undef=if i*m≤j/\j<i*m+m then vs.getD (j-i*m) undef else arr.getD j undef:=by
      intro j;rw[fP _ _ _ _ (by simp;omega)]
      simp only[alY,hvm];congr 1;simp[alz]
     obtain⟨M',T⟩:=M.write (c':=.recs m (rs.set i cs)) hob' g1 g2 u (by rw[cK];exact alo _) (by rw[cK];simpa [CL.ncell]using g3) (λj hj=>by
      simp only[CL.ncell,alZ]at hj;have hm0:0<m:=al5 (λhz=>by subst hz;simp at hj)
      have hdj:j / m<rs.length:=(al6 hm0).2 hj;have old:=g4 j (by simpa [CL.ncell]using hj)
      simp only[CL.get]at old⊢;have hdm:=al7 j m;have hml:=al8 j hm0;rw[hput];by_cases ej:j / m=i
      ·have hj1:i*m≤j:=by rw[<-ej,alP];omega
       have hj2:j-i*m=j % m:=by rw[<-ej,alP];omega
       rw[if_pos ⟨hj1,by rw[<-ej,alP];rw[<-ej]at hj1;omega⟩,hj2]
       rw[show(rs.set i cs).getD (j / m) []=cs by rw[ej];simp[alC,<-ej,hdj]]
       exact hvs (j % m) qqO
      ·rw[show(rs.set i cs).getD (j / m) []=rs.getD (j / m) [] by rw[alC,alC,al0 (Ne.symm ej)]]
       rw[if_neg (λhh=>ej (by
        have h1:i≤j / m:=(al9 hm0).2 hh.1;have h2:j / m<i+1:=(al6 hm0).2 (by rw[al3,al4];exact hh.2)
        omega))]
       exact old)
     refine fB hd (w':=w') ?_ (hk undef S w' ι M' (.refl _) (T 0).keeps (.any _ _) T);simp only[execOp,ho];refine kZ ?_;simp only[Instr.storeAt,hev,Instr.sureAddr,Sem.run_bind,Sem.run_pure,Result.andThen,storeVar,bK hτ ht,hey];rw[if_neg (by simp[Value.cells,e3,hvm])]
     simpa [Result.andThen,Value.cells]using r1
    ·exact h.elim
  ·exact h.elim
 ·rename_i k b m i j hρ
  rw[bD]at h;obtain⟨ob,hob,h⟩:=h;split at h
  ·rename_i all l rc
   obtain⟨hmem,h⟩:=h;unfold Z6 at h;split at h
   ·rename_i q c
    split at h
    ·rename_i q' z hv
     rw[aK]at h;simp only[alM,ama,decide_eq_true_eq]at h;obtain⟨hlt,⟨⟨e1,e2⟩,e3,hagg,e4⟩,hK⟩:=h;have e1:=alN e1;have e2:=alN e2;have e3:=alN e3;subst e1;subst e2;subst e4;refine⟨_,_,_,_,hK,?_⟩;intro S w ι H' a next Q M hr ha hn hk;have hob':=(ha k qqS).trans hob;have hr1:=hr x (by simp[ho,Op.operands])
     have hr2:=hr y (by simp[ho,Op.operands])
     rw[hρ]at hr1;rw[hv]at hr2;obtain⟨b0,arr0,e0,_,_,_,_,_,_,g7,_⟩:=M.obj k _ hob';obtain⟨arr,e,g1,g2,g3,g4⟩:=g7 b hmem;cases hev:a.eval x<;>rw[hev]at hr1<;>cases hr1
     cases hey:a.eval y<;>rw[hey]at hr2<;>cases hr2
     have hsz:i<arr.size:=Nat.lt_of_lt_of_le hlt g2;obtain⟨w',r1,u⟩:=bT P [.int q' z] (o:=i*1+0) (i:=0) g1 (by intro v hv;simp at hv;subst hv;rfl) (by simp;omega)
     simp only[alg,alV,putRow]at u;obtain⟨M',K',T⟩:=M.matRow (rc':=.ints q' (bA c b ((c b).set i z))) hob' hmem g1 u qqS (λb' hb'=>by simp[RC.at,bA,hb']) (by simp[RC.at,bA,CL.cnt]) (by simpa [RC.at,bA,CL.ncell]using g2) (λj hj=>by
      simp only[RC.at,bA,if_true,CL.ncell,alZ]at hj⊢;have:=g3 j hj;simp only[RC.at,CL.get]at this⊢;by_cases ej:j=i
      ·subst ej
       rw[show((c b).set j z).getD j 0=z by simp[alC,hj]]
       simp[alz,hsz];exact .int _ _ _
      ·rw[show((c b).set i z).getD j 0=(c b).getD j 0 by rw[alC,alC,al0 (Ne.symm ej)]]
       simpa [alz,al1 (Ne.symm ej)]using this)
     refine fB hd (w':=w') ?_ (hk undef S w' ι M' (.refl _) K' (.any _ _) T);simp only[execOp,ho];refine kZ ?_;simp only[Instr.storeAt,hev,Instr.sureAddr,Sem.run_bind,Sem.run_pure,Result.andThen,storeVar,bK hτ ht,hey];rw[if_neg (by simp[Value.cells,e3])]
     simpa [Result.andThen,Value.cells]using r1
    ·exact h.elim
   ·rename_i e' c
    split at h
    ·rename_i cs hv
     rw[aK]at h;simp only[alM]at h;obtain⟨⟨hlt,hlen,hone,hinl⟩,⟨⟨e1,e2⟩,e3,hagg⟩,hK⟩:=h;have e1:=alN e1;have e2:=alN e2;have e3:=alN e3;subst e1;subst e2;refine⟨_,_,_,_,hK,?_⟩;intro S w ι H' a next Q M hr ha hn hk;have hob':=(ha k qqS).trans hob;have hr1:=hr x (by simp[ho,Op.operands])
     have hr2:=hr y (by simp[ho,Op.operands])
     rw[hρ]at hr1;rw[hv]at hr2;obtain⟨b0,arr0,e0,_,_,_,_,_,_,g7,_⟩:=M.obj k _ hob';obtain⟨arr,e,g1,g2,g3,g4⟩:=g7 b hmem;cases hev:a.eval x<;>rw[hev]at hr1<;>cases hr1
     obtain⟨vy,hey⟩:∃v,a.eval y=v:=⟨_,rfl⟩;rw[hey]at hr2;cases hr2 with
     |agg _ _ vs hvl hvs=>
     have hvs':=hvs;have hrow:i*m+m≤(c b).length*m:=by
      have:=al2 m (show i+1≤(c b).length by omega)
      rw[al3,al4]at this;exact this
     have g2':(c b).length*m≤arr.size:=g2;have hvm:vs.size=m:=qqO;have honeV:∀v∈vs.toList,v.oneCell'=true:=by
      intro v hv;obtain⟨q,hq,rfl⟩:=alG hv;have hq':q<cs.length:=by simp at hq;omega
      have:=(hvs q hq').oneCell (kH cs hone q hq');simpa [alz,alv (show q<vs.size by simpa using hq)]using this
     obtain⟨w',r1,u⟩:=bT P vs.toList (o:=i*m+0) (i:=0) g1 honeV (by simp;omega)
     simp only[alg]at u;have hput:∀j,(putRow arr (i*m) vs.toList).getD j undef=if i*m≤j/\j<i*m+m then vs.getD (j-i*m) undef else arr.getD j undef:=by
      intro j;rw[fP _ _ _ _ (by simp;omega)]
      simp only[alY,hvm];congr 1;simp[alz]
     obtain⟨M',K',T⟩:=M.matRow (rc':=.recs m (bA c b ((c b).set i cs))) hob' hmem g1 u (by rw[cK];exact alo _) (λb' hb'=>by simp[RC.at,bA,hb']) (by simp[RC.at,bA,CL.cnt]) (by rw[cK];simpa [RC.at,bA,CL.ncell]using g2) (λj hj=>by
      simp only[RC.at,bA,if_true,CL.ncell,alZ]at hj⊢;have hm0:0<m:=al5 (λhz=>by subst hz;simp at hj)
      have hdj:j / m<(c b).length:=(al6 hm0).2 hj;have old:=g3 j (by simpa [RC.at,CL.ncell]using hj)
      simp only[RC.at,CL.get]at old⊢;have hdm:=al7 j m;have hml:=al8 j hm0;rw[hput];by_cases ej:j / m=i
      ·have hj1:i*m≤j:=by rw[<-ej,alP];omega
       have hj2:j-i*m=j % m:=by rw[<-ej,alP];omega
       rw[if_pos ⟨hj1,by rw[<-ej,alP];rw[<-ej]at hj1;omega⟩,hj2]
       rw[show((c b).set i cs).getD (j / m) []=cs by rw[ej];simp[alC,<-ej,hdj]]
       exact jC hinl (j % m) qqO (hvs (j % m) qqO)
      ·rw[show((c b).set i cs).getD (j / m) []=(c b).getD (j / m) [] by rw[alC,alC,al0 (Ne.symm ej)]]
       rw[if_neg (λhh=>ej (by
        have h1:i≤j / m:=(al9 hm0).2 hh.1;have h2:j / m<i+1:=(al6 hm0).2 (by rw[al3,al4];exact hh.2)
        omega))]
       exact old)
     refine fB hd (w':=w') ?_ (hk undef S w' ι M' (.refl _) K' (.any _ _) T);simp only[execOp,ho];refine kZ ?_;simp only[Instr.storeAt,hev,Instr.sureAddr,Sem.run_bind,Sem.run_pure,Result.andThen,storeVar,bK hτ ht,hey];rw[if_neg (by simp[Value.cells,e3,hvm])]
     simpa [Result.andThen,Value.cells]using r1
    ·rename_i z hv
     rw[aK]at h;simp only[alM,ama]at h;obtain⟨hlt,⟨⟨e1,e2⟩,e3,hagg,e4⟩,hK⟩:=h;have e1:=alN e1;have e2:=alN e2;have e3:=alN e3;have e4:=alN e4;subst e1;subst e2;subst e4;refine⟨_,_,_,_,hK,?_⟩;intro S w ι H' a next Q M hr ha hn hk;have hob':=(ha k qqS).trans hob;have hr1:=hr x (by simp[ho,Op.operands])
     have hr2:=hr y (by simp[ho,Op.operands])
     rw[hρ]at hr1;rw[hv]at hr2;obtain⟨b0,arr0,e0,_,_,_,_,_,_,g7,_⟩:=M.obj k _ hob';obtain⟨arr,e,g1,g2,g3,g4⟩:=g7 b hmem;cases hev:a.eval x<;>rw[hev]at hr1<;>cases hr1
     cases hey:a.eval y<;>rw[hey]at hr2<;>cases hr2
     have g2':(c b).length*1≤arr.size:=g2;have hsz:i<arr.size:=qqO;obtain⟨w',r1,u⟩:=bT P [.string z] (o:=i*1+0) (i:=0) g1 (by intro v hv;simp at hv;subst hv;rfl) (by simp;omega)
     simp only[alg,alV,putRow]at u;obtain⟨M',K',T⟩:=M.matRow (rc':=.recs 1 (bA c b ((c b).set i [.str z]))) hob' hmem g1 u qqS (λb' hb'=>by simp[RC.at,bA,hb']) (by simp[RC.at,bA,CL.cnt]) (by simpa [RC.at,bA,CL.ncell]using g2) (λj hj=>by
      simp only[RC.at,bA,if_true,CL.ncell,alZ,alV]at hj⊢;have:=g3 j (by simpa [RC.at,CL.ncell]using hj)
      simp only[RC.at,CL.get,amb,amc]at this⊢;by_cases ej:j=i
      ·subst ej
       rw[show((c b).set j [.str z]).getD j []=[.str z] by simp[alC,hj]]
       simp[alz,hsz,aG];exact .str _ _
      ·rw[show((c b).set i [.str z]).getD j []=(c b).getD j [] by rw[alC,alC,al0 (Ne.symm ej)]]
       simpa [alz,al1 (Ne.symm ej)]using this)
     refine fB hd (w':=w') ?_ (hk undef S w' ι M' (.refl _) K' (.any _ _) T);simp only[execOp,ho];refine kZ ?_;simp only[Instr.storeAt,hev,Instr.sureAddr,Sem.run_bind,Sem.run_pure,Result.andThen,storeVar,bK hτ ht,hey];rw[if_neg (by simp[Value.cells,e3])]
     simpa [Result.andThen,Value.cells]using r1
    ·exact h.elim
   ·rename_i e' q f
    split at h
    ·rename_i cs hv
     rw[aK]at h;simp only[alM]at h;obtain⟨⟨hlt,hlen,hone,hinl⟩,⟨⟨e1,e2⟩,e3,hagg⟩,hK⟩:=h;have e1:=alN e1;have e2:=alN e2;have e3:=alN e3;subst e1;subst e2;refine⟨_,_,_,_,hK,?_⟩;intro S w ι H' a next Q M hr ha hn hk;have hob':=(ha k qqS).trans hob;have hr1:=hr x (by simp[ho,Op.operands])
     have hr2:=hr y (by simp[ho,Op.operands])
     rw[hρ]at hr1;rw[hv]at hr2;obtain⟨b0,arr0,e0,_,_,_,_,_,_,g7,_⟩:=M.obj k _ hob';obtain⟨arr,e,g1,g2,g3,g4⟩:=g7 b hmem;cases hev:a.eval x<;>rw[hev]at hr1<;>cases hr1
     obtain⟨vy,hey⟩:∃v,a.eval y=v:=⟨_,rfl⟩;rw[hey]at hr2;cases hr2 with
     |agg _ _ vs hvl hvs=>
     have hvs':=hvs;have hrow:i*m+m≤q*m:=by
      have:=al2 m (show i+1≤q by omega)
      rw[al3,al4]at this;exact this
     have g2':q*m≤arr.size:=g2;have hvm:vs.size=m:=qqO;have honeV:∀v∈vs.toList,v.oneCell'=true:=by
      intro v hv;obtain⟨q,hq,rfl⟩:=alG hv;have hq':q<cs.length:=by simp at hq;omega
      have:=(hvs q hq').oneCell (kH cs hone q hq');simpa [alz,alv (show q<vs.size by simpa using hq)]using this
     obtain⟨w',r1,u⟩:=bT P vs.toList (o:=i*m+0) (i:=0) g1 honeV (by simp;omega)
     simp only[alg]at u;have hput:∀j,(putRow arr (i*m) vs.toList).getD j undef=if i*m≤j/\j<i*m+m then vs.getD (j-i*m) undef else arr.getD j undef:=by
      intro j;rw[fP _ _ _ _ (by simp;omega)]
      simp only[alY,hvm];congr 1;simp[alz]
     obtain⟨M',K',T⟩:=M.matRow (rc':=.fn m q (bA f b (bA (f b) i cs))) hob' hmem g1 u (by rw[cK];exact alo _) (λb' hb'=>by simp[RC.at,bA,hb']) (by simp[RC.at,bA,CL.cnt]) (by rw[cK];simpa [RC.at,bA,CL.ncell]using g2) (λj hj=>by
      simp only[RC.at,bA,if_true,CL.ncell]at hj⊢;have hm0:0<m:=al5 (λhz=>by subst hz;simp at hj)
      have hdj:j / m<q:=(al6 hm0).2 hj;have old:=g3 j (by simpa [RC.at,CL.ncell]using hj)
      simp only[RC.at,CL.get]at old⊢;have hdm:=al7 j m;have hml:=al8 j hm0;rw[hput];by_cases ej:j / m=i
      ·have hj1:i*m≤j:=by rw[<-ej,alP];omega
       have hj2:j-i*m=j % m:=by rw[<-ej,alP];omega
       rw[if_pos ⟨hj1,by rw[<-ej,alP];rw[<-ej]at hj1;omega⟩,hj2]
       rw[show bA (f b) i cs (j / m)=cs from if_pos ej];exact jC hinl (j % m) qqO (hvs (j % m) qqO)
      ·rw[show bA (f b) i cs (j / m)=f b (j / m)from if_neg ej]
       rw[if_neg (λhh=>ej (by
        have h1:i≤j / m:=(al9 hm0).2 hh.1;have h2:j / m<i+1:=(al6 hm0).2 (by rw[al3,al4];exact hh.2)
        omega))]
       exact old)
     refine fB hd (w':=w') ?_ (hk undef S w' ι M' (.refl _) K' (.any _ _) T);simp only[execOp,ho];refine kZ ?_;simp only[Instr.storeAt,hev,Instr.sureAddr,Sem.run_bind,Sem.run_pure,Result.andThen,storeVar,bK hτ ht,hey];rw[if_neg (by simp[Value.cells,e3,hvm])]
     simpa [Result.andThen,Value.cells]using r1
    ·rename_i z hv
     rw[aK]at h;simp only[alM,ama]at h;obtain⟨hlt,⟨⟨e1,e2⟩,e3,hagg,e4⟩,hK⟩:=h;have e1:=alN e1;have e2:=alN e2;have e3:=alN e3;have e4:=alN e4;subst e1;subst e2;subst e4;refine⟨_,_,_,_,hK,?_⟩;intro S w ι H' a next Q M hr ha hn hk;have hob':=(ha k qqS).trans hob;have hr1:=hr x (by simp[ho,Op.operands])
     have hr2:=hr y (by simp[ho,Op.operands])
     rw[hρ]at hr1;rw[hv]at hr2;obtain⟨b0,arr0,e0,_,_,_,_,_,_,g7,_⟩:=M.obj k _ hob';obtain⟨arr,e,g1,g2,g3,g4⟩:=g7 b hmem;cases hev:a.eval x<;>rw[hev]at hr1<;>cases hr1
     cases hey:a.eval y<;>rw[hey]at hr2<;>cases hr2
     have g2':q*1≤arr.size:=g2;have hsz:i<arr.size:=qqO;obtain⟨w',r1,u⟩:=bT P [.string z] (o:=i*1+0) (i:=0) g1 (by intro v hv;simp at hv;subst hv;rfl) (by simp;omega)
     simp only[alg,alV,putRow]at u;obtain⟨M',K',T⟩:=M.matRow (rc':=.fn 1 q (bA f b (bA (f b) i [.str z]))) hob' hmem g1 u qqS (λb' hb'=>by simp[RC.at,bA,hb']) (by simp[RC.at,bA,CL.cnt]) (by simpa [RC.at,bA,CL.ncell]using g2) (λj hj=>by
      simp only[RC.at,bA,if_true,CL.ncell,alV]at hj⊢;have:=g3 j (by simpa [RC.at,CL.ncell]using hj)
      simp only[RC.at,CL.get,amb,amc]at this⊢;by_cases ej:j=i
      ·subst ej
       rw[show bA (f b) j [.str z] j=[.str z]from if_pos rfl];simp[alz,hsz,aG];exact .str _ _
      ·rw[show bA (f b) i [.str z] j=f b j from if_neg ej]
       simpa [alz,al1 (Ne.symm ej)]using this)
     refine fB hd (w':=w') ?_ (hk undef S w' ι M' (.refl _) K' (.any _ _) T);simp only[execOp,ho];refine kZ ?_;simp only[Instr.storeAt,hev,Instr.sureAddr,Sem.run_bind,Sem.run_pure,Result.andThen,storeVar,bK hτ ht,hey];rw[if_neg (by simp[Value.cells,e3])]
     simpa [Result.andThen,Value.cells]using r1
    ·exact h.elim
  ·exact h.elim
 ·exact h.elim
variable {P:Program} {r:Option Nat} {τ:TypeId->Option TE}
theorem lM {md:Nat} {k:IntKind} {n:Int} {K:PV->Prop} (h:arK md k n K):K (.int k (k.wrap n)):=by
 unfold arK at h;split at h
 ·exact h
 ·split at h
  ·exact h
  ·rw[oW h.1];exact h.2
 ·rw[oW h.1];exact h.2
theorem OZ {t:TypeId} {md:Nat} {op:BinOp} {a:IntKind} {m n:Int} {K:PV->Prop} (h:OJ md op a m n K) (hsh:op≠ .shl/\op≠ .shr):
 ∃v val,K v/\(∀S w ι,Rep S w ι v val)/\∀w,(binOp op t (.int a m) (.int a n)).run P w=.ok val w:=by
 cases op with
 |add=>exact⟨_,_,lM h,λ_ _ _=>.int _ _ _,λw=>by simp[binOp,Op.intArith]⟩
 |sub=>exact⟨_,_,lM h,λ_ _ _=>.int _ _ _,λw=>by simp[binOp,Op.intArith]⟩
 |mul=>exact⟨_,_,lM h,λ_ _ _=>.int _ _ _,λw=>by simp[binOp,Op.intArith]⟩
 |quo=>
  simp only[OJ]at h;have key:n≠0->∀w,(binOp .quo t (.int a m) (.int a n)).run P w=.ok (.int a (a.wrap (m.tdiv n))) w:=λhn w=>by simp[binOp,Op.intDiv,hn]
  split at h
  ·obtain⟨⟨h1,h2,h3⟩,h4⟩:=h
   refine⟨_,_,h4,λ_ _ _=>.int _ _ _,λw=>?_⟩;rw[key qqO w,Int.tdiv_eq_ediv_of_nonneg h1,oW h3]
  ·obtain⟨⟨h1,h3⟩,h4⟩:=h
   refine⟨_,_,h4,λ_ _ _=>.int _ _ _,λw=>?_⟩;rw[key h1 w,oW h3]
  ·exact⟨_,_,h.2,λ_ _ _=>.int _ _ _,key h.1⟩
 |rem=>
  simp only[OJ]at h;have key:n≠0->∀w,(binOp .rem t (.int a m) (.int a n)).run P w=.ok (.int a (m.tmod n)) w:=λhn w=>by simp[binOp,Op.intDiv,hn]
  split at h
  ·obtain⟨⟨h1,h2⟩,h4⟩:=h
   refine⟨_,_,h4,λ_ _ _=>.int _ _ _,λw=>?_⟩;rw[key qqO w,Int.tmod_eq_emod_of_nonneg h1]
  ·exact⟨_,_,h.2,λ_ _ _=>.int _ _ _,key h.1⟩
 |eql=>exact⟨_,_,h,λ_ _ _=>.bp _ _,λw=>by simp[binOp,Op.intCmp];rfl⟩
 |neq=>exact⟨_,_,h,λ_ _ _=>.bp _ _,λw=>by simp[binOp,Op.intCmp];rfl⟩
 |lss=>exact⟨_,_,h,λ_ _ _=>.bp _ _,λw=>by simp[binOp,Op.intCmp]⟩
 |leq=>exact⟨_,_,h,λ_ _ _=>.bp _ _,λw=>by simp[binOp,Op.intCmp]⟩
 |gtr=>exact⟨_,_,h,λ_ _ _=>.bp _ _,λw=>by simp[binOp,Op.intCmp]⟩
 |geq=>exact⟨_,_,h,λ_ _ _=>.bp _ _,λw=>by simp[binOp,Op.intCmp]⟩
 |and=>exact⟨_,_,h,λ_ _ _=>.int _ _ _,λw=>by simp[binOp,Op.intBits]⟩
 |or=>exact⟨_,_,h,λ_ _ _=>.int _ _ _,λw=>by simp[binOp,Op.intBits]⟩
 |xor=>exact⟨_,_,h,λ_ _ _=>.int _ _ _,λw=>by simp[binOp,Op.intBits]⟩
 |andNot=>exact⟨_,_,h,λ_ _ _=>.int _ _ _,λw=>by simp[binOp,Op.intBits]⟩
 |shl=>exact absurd rfl hsh.1
 |shr=>exact absurd rfl hsh.2
theorem Mk (x y:ByteArray):(x.toList==y.toList)=decide (x=y):=by
 rw[ByteArray.toList_eq,ByteArray.toList_eq];by_cases h:x=y
 ·subst h;simp
 ·rw[decide_eq_false h]
  simp only[beq_eq_false_iff_ne,ne_eq];exact λe=>h (Go.WideShapes.bytes_inj e)
theorem O1 {op:BinOp} {x y:ByteArray} {K:PV->Prop} (h:WY op x y K) {t:TypeId}:∃v val,K v/\(∀S w ι,Rep S w ι v val)/\∀w,(binOp op t (.string x) (.string y)).run P w=.ok val w:=by
 cases op<;>simp only[WY]at h<;>try exact h.elim
 ·refine⟨_,_,h.2,λ_ _ _=>.str _ _,λw=>?_⟩
  simp only[binOp,Op.stringOp];rw[if_neg (by simp[IntKind.max,IntKind.signed,IntKind.bits];omega)];rfl
 ·exact⟨_,_,h,λ_ _ _=>.bp _ _,λw=>by simp[binOp,Op.stringOp,Mk]⟩
 ·exact⟨_,_,h,λ_ _ _=>.bp _ _,λw=>by simp[binOp,Op.stringOp,Mk]⟩
 ·exact⟨_,_,h,λ_ _ _=>.bp _ _,λw=>by simp[binOp,Op.stringOp]⟩
theorem O4 {op:BinOp} {x y:Bool} {K:PV->Prop} (h:zy op x y K) {t:TypeId} (ht:P.underlying t=some .bool):∃v val,K v/\(∀S w ι,Rep S w ι v val)/\∀w,(binOp op t (.bool x) (.bool y)).run P w=.ok val w:=by
 have he:∀w,(Op.equal t (.bool x) (.bool y)).run P w=.ok (x==y) w:=λw=>by
  have e:Op.maxDepth=9999+1:=rfl;unfold Op.equal;rw[e,Op.equalIn];simp only[Sem.run_bind,run_underlying ht,Result.andThen,Sem.run_pure]
 cases op<;>simp only[zy]at h<;>try exact h.elim
 ·exact⟨_,_,h,λ_ _ _=>.bp _ _,λw=>by simp only[binOp,Sem.run_bind,he,Result.andThen,Sem.run_pure]⟩
 ·exact⟨_,_,h,λ_ _ _=>.bp _ _,λw=>by simp only[binOp,Sem.run_bind,he,Result.andThen,Sem.run_pure]⟩
structure Held (P:Program) (t:TypeId) (vx vy:Value):Prop where
 get:(vx≠ .nilIface/\∀c,vx≠ .agg c)∨(P.eqGuardType P.depth t=false/\∃xs ys,vx=.agg xs/\vy=.agg ys)
theorem KS {k:CK} {c d:PV} {K:Bool->Prop} (h:OL k c d K):∃r,K r/\∀{S:Imm} {w:World} {ι:Ix} {u v:Value},Rep S w ι c u->Rep S w ι d v->k.fits u/\k.fits v/\(r=true↔u=v):=by
 unfold OL at h;split at h
 ·split at h
  ·split at h
   ·rw[aK]at h
    obtain⟨h1,h⟩:=h;simp only[alM,decide_eq_true_eq]at h1;obtain⟨rfl,rfl⟩:=h1;refine⟨_,h,λhx hy=>?_⟩;cases hx;cases hy
    exact⟨⟨_,rfl⟩,⟨_,rfl⟩,qqS⟩
   ·exact h.elim
  ·exact h.elim
 ·split at h
  ·split at h
   ·refine⟨_,h,λhx hy=>?_⟩
    cases hx;cases hy
    exact⟨⟨_,rfl⟩,⟨_,rfl⟩,qqS⟩
   ·exact h.elim
  ·exact h.elim
 ·split at h
  ·split at h
   ·refine⟨_,h,λhx hy=>?_⟩
    cases hx;cases hy
    exact⟨⟨_,rfl⟩,⟨_,rfl⟩,qqS⟩
   ·exact h.elim
  ·exact h.elim
theorem zk (ks:List CK):∀{cs ds:List PV} {K:Bool->Prop} (h:flatK ks cs ds K),∃r,K r/\cs.length=ks.length/\ds.length=ks.length/\∀{S:Imm} {w:World} {ι:Ix} {xs ys:Array Value} {off:Nat},off+cs.length=xs.size->off+ds.length=ys.size->
 (∀i,i<cs.length->Rep S w ι (aG cs i) (xs.getD (off+i) undef))->(∀i,i<ds.length->Rep S w ι (aG ds i) (ys.getD (off+i) undef))->dW ks xs off/\dW ks ys off/\(r=true↔fu ks xs ys off):=by
 induction ks with
 |nil=>
  intro cs ds K h;cases cs with
  |cons _ _=>exact h.elim
  |nil=>cases ds with
   |cons _ _=>exact h.elim
   |nil=>exact⟨true,h,rfl,rfl,λh1 h2 _ _=>⟨by simp only[dW,alf]at*;omega,by simp only[dW,alf]at*;omega,by simp[fu]⟩⟩
 |cons k r ih=>
  intro cs ds K h;cases cs with
  |nil=>exact h.elim
  |cons c cs=>cases ds with
   |nil=>exact h.elim
   |cons d ds=>
    obtain⟨b,h,hb⟩:=KS (by simpa only[flatK]using h)
    obtain⟨t,h,e1,e2,ht⟩:=ih h;refine⟨_,h,by simp[e1],by simp[e2],λ{S w ι xs ys off} h1 h2 h3 h4=>?_⟩
    simp only[alj]at h1 h2;obtain⟨f1,f2,f3⟩:=hb (h3 0 qqS) (h4 0 qqS);obtain⟨g1,g2,g3⟩:=ht (xs:=xs) (ys:=ys) (off:=off+1) qqO qqO (λi hi=>by have:=h3 (i+1) (by simpa using hi);rw[show off+1+i=off+(i+1) by omega];exact this) (λi hi=>by have:=h4 (i+1) (by simpa using hi);rw[show off+1+i=off+(i+1) by omega];exact this)
    have q1:xs[off]? =some (xs.getD (off+0) undef):=by simp[show off<xs.size by omega]
    have q2:ys[off]? =some (ys.getD (off+0) undef):=by simp[show off<ys.size by omega]
    refine⟨⟨⟨_,q1,f1⟩,g1⟩,⟨⟨_,q2,f2⟩,g2⟩,?_⟩;simp only[fu,q1,q2,alM,f3,g3,Option.some.injEq]
theorem O5 {md:Nat} {op:BinOp} {te:TE} {x y:PV} {K:PV->Prop} (h:WZ md op te x y K) {t:TypeId} (ht:P.underlying t=some te.und) (hcmp:∀ks,te.cmp=some ks->Gf P t ks):
 ∃v,K v/\∀{S:Imm} {w:World} {ι:Ix} {vx vy:Value},Rep S w ι x vx->Rep S w ι y vy->Held P t vx vy/\∃val,(binOp op t vx vy).run P w=.ok val w/\Rep S w ι v val:=by
 have boolc:∀(s u:Bool) (p q:PV),te.und=.bool->zy op s u K->(∀{S:Imm} {w:World} {ι:Ix} {v:Value},Rep S w ι p v->v=.bool s)->(∀{S:Imm} {w:World} {ι:Ix} {v:Value},Rep S w ι q v->v=.bool u)->
  ∃v,K v/\∀{S:Imm} {w:World} {ι:Ix} {vx vy:Value},Rep S w ι p vx->Rep S w ι q vy->Held P t vx vy/\∃val,(binOp op t vx vy).run P w=.ok val w/\Rep S w ι v val:=by
  intro s u p q hu hb hp hq;obtain⟨v,val,h1,h2,h3⟩:=O4 (P:=P) hb (by rw[ht,hu])
  refine⟨v,h1,λhx hy=>?_⟩;rw[hp hx,hq hy];exact⟨⟨.inl ⟨qqS,qqS⟩⟩,val,h3 _,h2 _ _ _⟩
 have bv:∀{s:Bool} {S:Imm} {w:World} {ι:Ix} {v:Value},Rep S w ι (.bool s) v->v=.bool s:=λh=>by cases h;rfl
 have bpv:∀{s:Bool} {S:Imm} {w:World} {ι:Ix} {v:Value},Rep S w ι (.bp s) v->v=.bool s:=λh=>by cases h;rfl
 unfold WZ at h;split at h
 ·rename_i cs
  split at h
  ·rename_i ds
   split at h
   ·rename_i ks hks
    obtain⟨hg,n,hn,hA⟩:=hcmp ks hks;have key:∀{r:Bool} {S:Imm} {w:World} {ι:Ix} {vx vy:Value},(∀{S:Imm} {w:World} {ι:Ix} {xs ys:Array Value} {off:Nat},off+cs.length=xs.size->off+ds.length=ys.size->
     (∀i,i<cs.length->Rep S w ι (aG cs i) (xs.getD (off+i) undef))->(∀i,i<ds.length->Rep S w ι (aG ds i) (ys.getD (off+i) undef))->dW ks xs off/\dW ks ys off/\(r=true↔fu ks xs ys off))->
     Rep S w ι (.agg cs) vx->Rep S w ι (.agg ds) vy->Held P t vx vy/\(∃xs ys,vx=.agg xs/\vy=.agg ys)/\(Op.equal t vx vy).run P w=.ok r w:=by
     intro r S w ι vx vy hr hx hy;cases hx with
     |agg _ _ xs l1 c1=>cases hy with
      |agg _ _ ys l2 c2=>
       obtain⟨f1,f2,f3⟩:=hr (xs:=xs) (ys:=ys) (off:=0) qqO qqO (λi hi=>by rw[alO];exact c1 i hi) (λi hi=>by rw[alO];exact c2 i hi)
       obtain⟨r',e1,e2⟩:=hA w Op.maxDepth xs ys (by unfold Op.maxDepth;omega) f1 f2
       refine⟨⟨.inr ⟨hg,xs,ys,rfl,rfl⟩⟩,⟨xs,ys,rfl,rfl⟩,?_⟩;have:r'=r:=by rw[Bool.eq_iff_iff,e2,f3]
       rw[<-this];exact e1
    split at h
    ·obtain⟨r,h,_,_,hr⟩:=zk ks h
     refine⟨_,h,λhx hy=>?_⟩;obtain⟨k1,⟨xs,ys,rfl,rfl⟩,k2⟩:=key hr hx hy;exact⟨k1,.bool r,by simp only[binOp,Sem.run_bind,k2,Result.andThen,Sem.run_pure],.bp _ _⟩
    ·obtain⟨r,h,_,_,hr⟩:=zk ks h
     refine⟨_,h,λhx hy=>?_⟩;obtain⟨k1,⟨xs,ys,rfl,rfl⟩,k2⟩:=key hr hx hy;exact⟨k1,.bool (!r),by simp only[binOp,Sem.run_bind,k2,Result.andThen,Sem.run_pure],.bp _ _⟩
    ·exact h.elim
   ·exact h.elim
  ·exact h.elim
 ·rename_i a m
  split at h
  ·rename_i b n
   split at h
   ·obtain⟨⟨h1,h2⟩,h3⟩:=h
    refine⟨_,lM h3,λhx hy=>?_⟩;cases hx;cases hy
    refine⟨⟨.inl ⟨qqS,qqS⟩⟩,_,?_,.int _ _ _⟩;simp only[binOp,Op.shift];rw[if_neg qqO,amd h2];rfl
   ·obtain⟨⟨h1,h2,h4⟩,h3⟩:=h
    refine⟨_,h3,λhx hy=>?_⟩;cases hx;cases hy
    refine⟨⟨.inl ⟨qqS,qqS⟩⟩,.int a (m.fdiv (2 ^ n.toNat)),?_,?_⟩
    ·simp only[binOp,Op.shift]
     rw[if_neg qqO,amd h2];rfl
    ·rw[Int.fdiv_eq_ediv_of_nonneg _ (Int.pow_nonneg qqO)];exact .int _ _ _
   ·rename_i op' hs1 hs2
    rw[aK]at h;have e:=of_decide_eq_true h.1;subst e;obtain⟨v,val,h1,h2,h3⟩:=OZ (P:=P) (t:=t) h.2 ⟨λe=>hs1 e,λe=>hs2 e⟩;refine⟨v,h1,λhx hy=>?_⟩;cases hx;cases hy
    exact⟨⟨.inl ⟨qqS,qqS⟩⟩,val,h3 _,h2 _ _ _⟩
  ·exact h.elim
 ·rename_i s
  split at h
  ·rename_i u
   obtain⟨v,val,h1,h2,h3⟩:=O1 (P:=P) h (t:=t);refine⟨v,h1,λhx hy=>?_⟩;cases hx;cases hy
   exact⟨⟨.inl ⟨qqS,qqS⟩⟩,val,h3 _,h2 _ _ _⟩
  ·exact h.elim
 ·split at h
  ·rename_i hu
   split at h
   ·exact boolc _ _ _ _ hu h bpv bpv
   ·exact boolc _ _ _ _ hu h bpv bv
   ·exact h.elim
  ·exact h.elim
 ·split at h
  ·rename_i hu
   split at h
   ·exact boolc _ _ _ _ hu h bv bpv
   ·exact boolc _ _ _ _ hu h bv bv
   ·exact h.elim
  ·exact h.elim
 ·split at h
  ·split at h
   ·rename_i c tk _ _ e hu
    have hsl:∀{S:Imm} {w:World} {ι:Ix} {vx vy:Value},c.cnt≠0->Rep S w ι (.isl c tk) vx->Rep S w ι .nils vy->(∃b n m,vx=.slice (some b) n m)/\vy=.slice none 0 0:=by
     intro S w ι vx vy hc hx hy;cases hy
     cases hx with
     |islnil _ _ _ h0=>exact absurd h0 hc
     |isl _ _ _ b off cap _ _ _ _ _=>exact⟨⟨_,_,_,rfl⟩,rfl⟩
    have heq:∀(b:Addr) (n m:Nat) (w:World),(Op.equal t (.slice (some b) n m) (.slice none 0 0)).run P w=.ok false w:=λb n m w=>by
     have e:Op.maxDepth=9999+1:=rfl;unfold Op.equal;rw[e,Op.equalIn];rw[hu]at ht;simp only[Sem.run_bind,run_underlying ht,Result.andThen,Sem.run_pure]
    split at h
    ·refine⟨_,h.2,λ{S w ι vx vy} hx hy=>?_⟩
     obtain⟨⟨b,n,m,rfl⟩,rfl⟩:=hsl h.1 hx hy;exact⟨⟨.inl ⟨qqS,qqS⟩⟩,.bool false,by simp only[binOp,Sem.run_bind,heq,Result.andThen,Sem.run_pure],.bp _ _⟩
    ·refine⟨_,h.2,λ{S w ι vx vy} hx hy=>?_⟩
     obtain⟨⟨b,n,m,rfl⟩,rfl⟩:=hsl h.1 hx hy;exact⟨⟨.inl ⟨qqS,qqS⟩⟩,.bool true,by simp only[binOp,Sem.run_bind,heq,Result.andThen,Sem.run_pure,ame],.bp _ _⟩
    ·exact h.elim
   ·exact h.elim
  ·exact h.elim
 ·split at h
  ·split at h
   ·rename_i e hu
    have heq:∀(w:World),(Op.equal t (.slice none 0 0) (.slice none 0 0)).run P w=.ok true w:=λw=>by
     have e:Op.maxDepth=9999+1:=rfl;unfold Op.equal;rw[e,Op.equalIn];rw[hu]at ht;simp only[Sem.run_bind,run_underlying ht,Result.andThen,Sem.run_pure];rfl
    split at h
    ·refine⟨_,h,λ{S w ι vx vy} hx hy=>?_⟩
     cases hx;cases hy
     exact⟨⟨.inl ⟨qqS,qqS⟩⟩,.bool true,by simp only[binOp,Sem.run_bind,heq,Result.andThen,Sem.run_pure],.bool _ _⟩
    ·refine⟨_,h,λ{S w ι vx vy} hx hy=>?_⟩
     cases hx;cases hy
     exact⟨⟨.inl ⟨qqS,qqS⟩⟩,.bool false,by simp only[binOp,Sem.run_bind,heq,Result.andThen,Sem.run_pure,amf],.bool _ _⟩
    ·exact h.elim
   ·exact h.elim
  ·exact h.elim
 ·split at h
  ·split at h
   ·rename_i e hu
    have hsl:∀{S:Imm} {w:World} {ι:Ix} {vx vy:Value} {k off n:Nat},Rep S w ι (.rsl k off n) vx->Rep S w ι .nils vy->(∃b n m,vx=.slice (some b) n m)/\vy=.slice none 0 0:=by
     intro S w ι vx vy k off n hx hy;cases hy
     cases hx with
     |rsl _ _ _ _ _ _ _ _ _=>exact⟨⟨_,_,_,rfl⟩,rfl⟩
     |rslz _ _ _ _ _ _=>exact⟨⟨_,_,_,rfl⟩,rfl⟩
    have heq:∀(b:Addr) (n m:Nat) (w:World),(Op.equal t (.slice (some b) n m) (.slice none 0 0)).run P w=.ok false w:=λb n m w=>by
     have e:Op.maxDepth=9999+1:=rfl;unfold Op.equal;rw[e,Op.equalIn];rw[hu]at ht;simp only[Sem.run_bind,run_underlying ht,Result.andThen,Sem.run_pure]
    split at h
    ·refine⟨_,h,λ{S w ι vx vy} hx hy=>?_⟩
     obtain⟨⟨b,n,m,rfl⟩,rfl⟩:=hsl hx hy;exact⟨⟨.inl ⟨qqS,qqS⟩⟩,.bool false,by simp only[binOp,Sem.run_bind,heq,Result.andThen,Sem.run_pure],.bool _ _⟩
    ·refine⟨_,h,λ{S w ι vx vy} hx hy=>?_⟩
     obtain⟨⟨b,n,m,rfl⟩,rfl⟩:=hsl hx hy;exact⟨⟨.inl ⟨qqS,qqS⟩⟩,.bool true,by simp only[binOp,Sem.run_bind,heq,Result.andThen,Sem.run_pure,ame],.bool _ _⟩
    ·exact h.elim
   ·exact h.elim
  ·exact h.elim
 ·split at h
  ·split at h
   ·rename_i c _ _ e hu
    have heq1:∀(b:Addr) (n m:Nat) (w:World),(Op.equal t (.slice (some b) n m) (.slice none 0 0)).run P w=.ok false w:=λb n m w=>by
     have e:Op.maxDepth=9999+1:=rfl;unfold Op.equal;rw[e,Op.equalIn];rw[hu]at ht;simp only[Sem.run_bind,run_underlying ht,Result.andThen,Sem.run_pure]
    have heq0:∀(w:World),(Op.equal t (.slice none 0 0) (.slice none 0 0)).run P w=.ok true w:=λw=>by
     have e:Op.maxDepth=9999+1:=rfl;unfold Op.equal;rw[e,Op.equalIn];rw[hu]at ht;simp only[Sem.run_bind,run_underlying ht,Result.andThen,Sem.run_pure];rfl
    split at h
    ·refine⟨_,h,λ{S w ι vx vy} hx hy=>?_⟩
     cases hy
     cases hx with
     |nnl0 _ _ h0=>exact⟨⟨.inl ⟨qqS,qqS⟩⟩,.bool true,by simp only[binOp,Sem.run_bind,heq0,Result.andThen,Sem.run_pure],by rw[decide_eq_true h0];exact .bp _ _⟩
     |nnl1 _ _ b off cap h0 _ _ _=>exact⟨⟨.inl ⟨qqS,qqS⟩⟩,.bool false,by simp only[binOp,Sem.run_bind,heq1,Result.andThen,Sem.run_pure],by rw[decide_eq_false (amg h0)];exact .bp _ _⟩
    ·refine⟨_,h,λ{S w ι vx vy} hx hy=>?_⟩
     cases hy
     cases hx with
     |nnl0 _ _ h0=>exact⟨⟨.inl ⟨qqS,qqS⟩⟩,.bool false,by simp only[binOp,Sem.run_bind,heq0,Result.andThen,Sem.run_pure,amf],by rw[decide_eq_false (λh=>h h0)];exact .bp _ _⟩
     |nnl1 _ _ b off cap h0 _ _ _=>exact⟨⟨.inl ⟨qqS,qqS⟩⟩,.bool true,by simp only[binOp,Sem.run_bind,heq1,Result.andThen,Sem.run_pure,ame],by rw[decide_eq_true (amg h0)];exact .bp _ _⟩
    ·exact h.elim
   ·exact h.elim
  ·exact h.elim
 ·exact h.elim
theorem O6 {op:BinOp} {t:TypeId} {x y:Operand} {a b:Value} (h:a≠ .nilIface/\∀c,a≠ .agg c) (w:World):(eqGuard op t x y a b).run P w=.ok () w:=by
 unfold eqGuard;cases a with
 |nilIface=>exact absurd rfl h.1
 |agg c=>exact absurd rfl (h.2 c)
 |_=>cases op<;>simp
theorem ab0 {op:BinOp} {t:TypeId} {x y:Operand} {a b:Value} (h:Held P t a b) (w:World):(eqGuard op t x y a b).run P w=.ok () w:=by
 rcases h.get with h1|⟨h1,xs,ys,e1,e2⟩
 ·exact O6 h1 w
 ·rw[e1,e2];exact run_eqGuard_agg w op t x y xs ys h1
theorem SV {d:TypeDesc} {v:PV} {y:Operand} (h:OW d v y=true):y=.const .nilIface/\v=.nili/\∃ms,d=.interface ms:=by
 unfold OW at h;split at h
 ·split at h
  ·split at h
   ·split at h
    ·exact⟨rfl,rfl,_,rfl⟩
    ·cases h
   ·cases h
  ·cases h
 ·cases h
theorem Ml {t:TypeId} {ms:Array (String × TypeId)} (ht:P.underlying t=some (.interface ms)) (w:World):(binOp .eql t .nilIface .nilIface).run P w=.ok (.bool true) w/\(binOp .neq t .nilIface .nilIface).run P w=.ok (.bool false) w:=by
 have heq:(Op.equal t .nilIface .nilIface).run P w=.ok true w:=by
  have e:Op.maxDepth=9999+1:=rfl;unfold Op.equal;rw[e,Op.equalIn];simp only[Sem.run_bind,run_underlying ht,Result.andThen,Sem.run_pure]
 constructor
 ·simp only[binOp,Sem.run_bind,heq,Result.andThen,Sem.run_pure]
 ·simp only[binOp,Sem.run_bind,heq,Result.andThen,Sem.run_pure,amf]
theorem O7 (op:BinOp) (t:TypeId) (x:Operand) (w:World):(eqGuard op t x (.const .nilIface) .nilIface .nilIface).run P w=.ok () w:=by
 unfold eqGuard;cases op<;>simp
theorem SX (hτ:bC P τ) {md rf CP YP} {o:Oper} {ρ:Operand->PV} {H:Hp} {n:Nat} {op:BinOp} {t u:TypeId} {x y:Operand} (ho:o.op=.binOp op t x y u) {K:KR}
 (h:opK τ md rf CP YP ρ H n o.dst o.op K):∃v sets accs news,K v sets accs news/\bJ P r o ρ H v sets accs news:=by
 rw[ho]at h;simp only[opK,bZ]at h;obtain⟨te,ht,h⟩:=h;split at h
 ·rename_i hn
  obtain⟨rfl,hx,ms,hu⟩:=SV hn;have hund:P.underlying t=some (.interface ms):=(hτ.und t te ht).trans (congrArg some hu);have fin:∀(b:Bool),(∀w:World,(binOp op t .nilIface .nilIface).run P w=.ok (.bool b) w)->bJ P r o ρ H (.bool b) [] [] []:=λb hb=>
   aX (λc e=>by rw[ho]at e;cases e) λS w ι H' a M hr ha=>by
    have h1:=hr x (by simp[ho,Op.operands])
    rw[hx]at h1;have h2:a.eval x=.nilIface:=by generalize a.eval x=v at h1;cases h1;rfl
    have h3:a.eval (.const .nilIface)=.nilIface:=rfl;refine⟨.bool b,?_,.bool _ _⟩;simp only[execOp,ho,h2,h3];exact eH (by simp[O7,Result.andThen,hb])
  split at h
  ·exact⟨_,_,_,_,h,fin true λw=>(Ml hund w).1⟩
  ·exact⟨_,_,_,_,h,fin false λw=>(Ml hund w).2⟩
  ·exact h.elim
 simp only[bO]at h;obtain⟨v,hK,hs⟩:=O5 h (hτ.und t te ht) (λks hk=>hτ.cmp t te ks ht hk);refine⟨v,_,_,_,hK,aX (λc e=>by rw[ho]at e;cases e) λS w ι H' a M hr ha=>?_⟩
 obtain⟨hg,val,h1,h2⟩:=hs (hr x (by simp[ho,Op.operands])) (hr y (by simp[ho,Op.operands]))
 refine⟨val,?_,h2⟩;simp only[execOp,ho];exact eH (by simp[ab0 hg,Result.andThen,h1])
theorem Xg (hτ:bC P τ) {md rf CP YP} {o:Oper} {ρ:Operand->PV} {H:Hp} {n:Nat} {op:UnOp} {t:TypeId} {x:Operand} (ho:o.op=.unOp op t x) {K:KR}
 (h:opK τ md rf CP YP ρ H n o.dst o.op K):∃v sets accs news,K v sets accs news/\bJ P r o ρ H v sets accs news:=by
 rw[ho]at h;simp only[opK,bO]at h;have key:∃v,K v [] [] []/\∀{S:Imm} {w:World} {ι:Ix} {vx:Value},Rep S w ι (ρ x) vx->∃val,(Op.unary op vx).run P w=.ok val w/\Rep S w ι v val:=by
  unfold unK at h;split at h
  ·split at h
   ·rename_i b hb
    refine⟨_,h,λhx=>?_⟩;rw[hb]at hx;cases hx
    exact⟨_,rfl,.bp _ _⟩
   ·rename_i b hb
    split at h
    ·refine⟨_,h,λhx=>?_⟩
     rw[hb]at hx;cases hx
     exact⟨_,rfl,.bool _ _⟩
    ·refine⟨_,h,λhx=>?_⟩
     rw[hb]at hx;cases hx
     exact⟨_,rfl,.bool _ _⟩
   ·exact h.elim
  ·split at h
   ·rename_i k m hb
    refine⟨_,lM h,λhx=>?_⟩;rw[hb]at hx;cases hx
    exact⟨_,by simp[Op.unary,Op.intArith];rfl,by simpa using Rep.int _ _ _⟩
   ·exact h.elim
  ·exact h.elim
 obtain⟨v,hK,hs⟩:=key;refine⟨v,_,_,_,hK,aX (λc e=>by rw[ho]at e;cases e) λS w ι H' a M hr ha=>?_⟩
 obtain⟨val,h1,h2⟩:=hs (hr x (by simp[ho,Op.operands]))
 exact⟨val,by simp only[execOp,ho];exact eH h1,h2⟩
theorem Mq {τ:TypeId->Option TE} {t:TypeId} (h:u8D τ t=true):∃te,τ t=some te/\te.und=.int .u8:=by
 unfold u8D at h;split at h
 ·rename_i te ht
  split at h
  ·rename_i k hk
   split at h
   ·exact⟨te,ht,hk⟩
   ·cases h
  ·cases h
 ·cases h
theorem ab1 {τ:TypeId->Option TE} {ts td:TE} (h:cvN τ ts td=1):∃e te,td.und=.slice e/\τ e=some te/\te.und=.int .u8:=by
 unfold cvN at h;split at h
 ·rename_i e he
  split at h
  ·rename_i hu
   obtain⟨te,h1,h2⟩:=Mq hu;exact⟨e,te,he,h1,h2⟩
  ·cases h
 ·split at h
  ·split at h<;>cases h
  ·cases h
 ·cases h
theorem ab2 {τ:TypeId->Option TE} {ts td:TE} (h:cvN τ ts td≠1) (h':cvN τ ts td≠0):td.und=.string/\∃e te,ts.und=.slice e/\τ e=some te/\te.und=.int .u8:=by
 unfold cvN at h h';split at h
 ·split at h
  ·exact absurd rfl h
  ·rename_i hu _ hu';simp[hu,hu']at h'
 ·rename_i hs
  split at h
  ·rename_i e he
   split at h
   ·rename_i hu
    obtain⟨te,h1,h2⟩:=Mq hu;exact⟨hs,e,te,he,h1,h2⟩
   ·rename_i hu;simp[hs,he,hu]at h'
  ·rename_i he;simp[hs]at h'
 ·simp_all
theorem vJ {P:Program} (w:World) (src e:TypeId) (hs:P.underlying src=some (.slice e)) (he:P.underlying e=some (.int .u8)) (a:Option Addr):
 ∀dst,P.underlying dst=some .string->(convert src dst (.slice a 0 0)).run P w=.ok (.string ByteArray.empty) w:=by
 intro dst hd;cases a with
 |none=>exact run_convert_bytes_nil w src e hs he 0 0 dst hd
 |some a=>
  have hl:(loadCells a 0).run P w=.ok (([]:List Int).map (Value.int .u8)).toArray w:=rfl;rw[run_convert_bytes_string w src dst e _ 0 0 hs he hd,run_bytesToString w a 0 0 [] hl];rfl
theorem Hy (hτ:bC P τ) {s d:TypeId} {ts td te:TE} {e:TypeId} (hts:τ s=some ts) (htd:τ d=some td) (hs:ts.und=.slice e) (hd:td.und=.string) (he:τ e=some te) (hu:te.und=.int .u8) {H0:Hp} {x:PV} {K:PV->List Nat->Prop} (h:Ht H0 x K):
 ∃v acc,K v acc/\∀{S:Imm} {w:World} {ι:Ix} {H:Hp} {vx:Value},Mem S w ι H->(∀k∈acc,av H k=av H0 k)->Rep S w ι x vx->∃val,(convert s d vx).run P w=.ok val w/\Rep S w ι v val:=by
 have u1:P.underlying s=some (.slice e):=(hτ.und s ts hts).trans (congrArg some hs);have u2:P.underlying d=some .string:=(hτ.und d td htd).trans (congrArg some hd);have u3:P.underlying e=some (.int .u8):=(hτ.und e te he).trans (congrArg some hu);unfold Ht at h;split at h
 ·split at h
  ·rename_i t k xs
   rw[aK]at h;obtain⟨h1,h⟩:=h;have h1:=of_decide_eq_true h1;subst h1;refine⟨_,_,h,λ{S w ι H vx} M _ hx=>?_⟩;cases hx with
   |islnil _ _ _ hc=>
    obtain rfl:xs=[]:=List.eq_nil_of_length_eq_zero hc;exact⟨_,vJ w s e u1 u3 _ d u2,.str _ _⟩
   |isl _ _ _ b off cap hc hS hh hf ho=>
    refine⟨_,run_convert_bytes_arg w s e u1 u3 b off xs.length cap xs rfl (λi hi=>?_) d u2,.str _ _⟩;have h1:=hh i hi;have h2:=M.imm b (off+i) (hS i hi);rw[jA];obtain⟨y,hy⟩:=Option.isSome_iff_exists.1 h2;have h3:rdv w b (off+i)=y:=by unfold rdv;rw[hy];rfl
    rw[h3]at h1;rw[hy];have h4:(CL.ints .u8 xs).get i=.int .u8 (xs.getD i 0):=rfl;rw[h4]at h1;cases h1;rfl
  ·exact h.elim
 ·rename_i i off m
  rw[bD]at h;obtain⟨o,ho,h⟩:=h;split at h
  ·split at h
   ·rename_i fz k xs
    split at h
    ·exact h.elim
    ·rw[aK]at h
     obtain⟨hl,h1,h⟩:=h;have h1:=of_decide_eq_true h1;subst h1;refine⟨_,_,h,λ{S w ι H vx} M ha hx=>?_⟩;have hH:=(ha i qqS).trans ho;obtain⟨b,arr,et,g1,g2,g3,g4,g5⟩:=M.obj _ _ hH;cases hx with
     |rslz _ _ _ b' o' hk=>
      rw[List.take_zero];exact⟨_,vJ w s e u1 u3 _ d u2,.str _ _⟩
     |rsl _ _ _ _ b' cap hk hc hr=>
      rw[g1]at hk;cases hk
      have hlen:((xs.drop off).take m).length=m:=by rw[amh,List.length_drop];omega
      refine⟨_,run_convert_bytes_arg w s e u1 u3 b off m cap ((xs.drop off).take m) hlen (λj hj=>?_) d u2,.str _ _⟩;rw[jA,aL g2];have g3':xs.length≤arr.size:=g3;have h1:=g4 (off+j) (show off+j<xs.length by omega)
      rw[alz,alv qqO]at h1;have h4:(CL.ints .u8 xs).get (off+j)=.int .u8 (xs.getD (off+j) 0):=rfl;rw[h4]at h1;rw[alv qqO];have h5:((xs.drop off).take m).getD j 0=xs.getD (off+j) 0:=by
       rw[alC,alC,ami,if_pos hj,List.getElem?_drop]
      rw[h5];simp only[amj]at h1;generalize arr[off+j]'_=y at h1⊢
      cases h1;rfl
   ·exact h.elim
  ·exact h.elim
 ·refine⟨_,_,h,λ{S w ι H vx} M _ hx=>?_⟩
  cases hx
  exact⟨_,run_convert_bytes_nil w s e u1 u3 0 0 d u2,.str _ _⟩
 ·exact h.elim
theorem O8 (hτ:bC P τ) {md rf CP YP} {o:Oper} {ρ:Operand->PV} {H:Hp} {n:Nat} {s d:TypeId} {x:Operand} (ho:o.op=.convert s d x) {K:KR} (hno:∀ts td,τ s=some ts->τ d=some td->cvN τ ts td≠1)
 (h:opK τ md rf CP YP ρ H n o.dst o.op K):∃v sets accs news,K v sets accs news/\bJ P r o ρ H v sets accs news:=by
 rw[ho]at h;simp only[opK,bZ]at h;obtain⟨ts,hts,td,htd,h⟩:=h;have key:∃v acc,K v [] acc []/\∀{S:Imm} {w:World} {ι:Ix} {H':Hp} {vx:Value},Mem S w ι H'->(∀k∈acc,av H' k=av H k)->Rep S w ι (ρ x) vx->∃val,(convert s d vx).run P w=.ok val w/\Rep S w ι v val:=by
  split at h
  ·rw[bO]at h
   unfold Z4 at h;split at h
   ·rename_i k hu
    split at h
    ·rename_i k' m hb
     refine⟨_,_,lM h,λ_ _ hx=>?_⟩;rw[hb]at hx;cases hx
     refine⟨_,?_,.int _ _ _⟩;simp only[convert,Sem.run_bind,run_underlying (hτ.und s ts hts),run_underlying (hτ.und d td htd),Result.andThen,hu];rfl
    ·exact h.elim
   ·rename_i hu
    split at h
    ·rename_i m hb
     refine⟨_,_,h,λ_ _ hx=>?_⟩;rw[hb]at hx;cases hx
     refine⟨_,?_,.str _ _⟩;simp only[convert,Sem.run_bind,run_underlying (hτ.und s ts hts),run_underlying (hτ.und d td htd),Result.andThen,hu];rfl
    ·exact h.elim
   ·exact h.elim
  ·rename_i h1
   exact absurd h1 (hno _ _ hts htd)
  ·rename_i h0 h1
   obtain⟨hd,e,te,hs,he,hu⟩:=ab2 h1 h0;exact Hy hτ hts htd hs hd he hu h
 obtain⟨v,acc,hK,hs⟩:=key;refine⟨v,_,_,_,hK,aX (λc e=>by rw[ho]at e;cases e) λS w ι H' a M hr ha=>?_⟩
 obtain⟨val,h1,h2⟩:=hs M ha (hr x (by simp[ho,Op.operands]))
 exact⟨val,by simp only[execOp,ho];exact eH h1,h2⟩
theorem Bj {md rf CP YP} {o:Oper} {ρ:Operand->PV} {H:Hp} {n:Nat} {x:Operand} (ho:o.op=.move x∨o.op=.assign x) {K:KR}
 (h:opK τ md rf CP YP ρ H n o.dst o.op K):∃v sets accs news,K v sets accs news/\bJ P r o ρ H v sets accs news:=by
 have h':K (ρ x) [] [] []:=by rcases ho with ho|ho<;>rw[ho]at h<;>simpa only[opK,bO]using h
 refine⟨_,_,_,_,h',aX (λc e=>by rcases ho with ho|ho<;>rw[ho]at e<;>cases e) λS w ι H' a M hr ha=>?_⟩
 refine⟨a.eval x,?_,hr x (by rcases ho with ho|ho<;>simp[ho,Op.operands])⟩
 rcases ho with ho|ho<;>simp[execOp,ho]
theorem O9 {md rf CP YP} {o:Oper} {ρ:Operand->PV} {H:Hp} {n:Nat} {c x y:Operand} (ho:o.op=.pick c x y) {K:KR}
 (h:opK τ md rf CP YP ρ H n o.dst o.op K):∃v sets accs news,K v sets accs news/\bJ P r o ρ H v sets accs news:=by
 rw[ho]at h;simp only[opK,bO]at h;have key:∀(t:Bool),(∀{S:Imm} {w:World} {ι:Ix} {v:Value},Rep S w ι (ρ c) v->v=.bool t)->K (if t then ρ x else ρ y) [] [] []->∃v sets accs news,K v sets accs news/\bJ P r o ρ H v sets accs news:=by
  intro t ht hK;refine⟨_,_,_,_,hK,aX (λc e=>by rw[ho]at e;cases e) λS w ι H' a M hr ha=>?_⟩
  have hc:=ht (hr c (by simp[ho,Op.operands]))
  refine⟨if t then a.eval x else a.eval y,?_,?_⟩
  ·simp only[execOp,ho,hc,asBool];simp
  ·cases t
   ·exact hr y (by simp[ho,Op.operands])
   ·exact hr x (by simp[ho,Op.operands])
 split at h
 ·rename_i t hρ
  split at h
  ·exact key true (λhr=>by rw[hρ]at hr;cases hr;rfl) (by simpa using h)
  ·exact key false (λhr=>by rw[hρ]at hr;cases hr;rfl) (by simpa using h)
 ·rename_i t hρ
  refine key t (λhr=>by rw[hρ]at hr;cases hr;rfl) ?_
  cases t
  ·simpa using h.2 rfl
  ·simpa using h.1 rfl
 ·exact h.elim
variable {P:Program} {r:Option Nat} {τ:TypeId->Option TE}
theorem Hz (ρ:Operand->PV) (l:List Operand):(kS ρ l).length=l.length:=by
 induction l with
 |nil=>rfl
 |cons x xs ih=>simp[kS,ih]
theorem Xh (ρ:Operand->PV) (l:List Operand):∀i (h:i<l.length),aG (kS ρ l) i=ρ l[i]:=by
 induction l with
 |nil=>intro i h;simp at h
 |cons x xs ih=>
  intro i h;cases i with
  |zero=>rfl
  |succ i=>simpa [kS,aG]using ih i (by simpa using h)
theorem lF {S:Imm} {w:World} {ι:Ix} {ρ:Operand->PV} {a:Act} (l:Array Operand) (h:∀x∈l.toList,Rep S w ι (ρ x) (a.eval x)):bH S w ι (kS ρ l.toList) (l.map a.eval):=by
 refine⟨by simp[Hz],λi hi=>?_⟩
 rw[Hz]at hi;rw[Xh _ _ _ hi];have:=h l.toList[i] (List.getElem_mem _);simpa [alz,alv (show i<l.size by simpa using hi)]using this
theorem KT (vs:List Value):∀(k off:Nat) (cells:Array Value),(vs.zipIdx k).foldl (λcs (x:Value × Nat)=>cs.setIfInBounds (off+x.2) x.1) cells=putRow cells (off+k) vs:=by
 induction vs with
 |nil=>intro k off cells;rfl
 |cons v vs ih=>intro k off cells;simp only[List.zipIdx_cons,List.foldl_cons,putRow];rw[ih];rfl
theorem SY {place:Nat->Option (Nat × Nat)} {cells:Array Value} {i off size:Nat} {v:Value} {rest:List (Nat × Value)} (hp:place i=some (off,size)) (hs:v.cells.size=size) (hb:off+v.cells.size≤cells.size):
 Instr.fill place cells ((i,v)::rest)=Instr.fill place (putRow cells off v.cells.toList) rest:=by
 rw[Instr.fill,hp];simp only;rw[if_neg (by simp[hs];omega)]
 congr 1
 have:=KT v.cells.toList 0 off cells;rw[alg]at this;rw[<-this,<-Array.foldl_toList];congr 1;simp
theorem ab3 {S:Imm} {w:World} {ι:Ix} {l:List PV} {vs:Array Value} (h:bH S w ι l vs) {o:Nat} {cs:List PV} {ws:Array Value} (hc:bH S w ι cs ws) (hb:o+cs.length≤l.length):
 bH S w ι (setCells l o cs) (putRow vs o ws.toList):=by
 have e1:=h.1;have e2:=hc.1;refine⟨by rw[mh,cK];exact h.1,λj hj=>?_⟩
 rw[mh]at hj;rw[vT _ _ _ _ hb,fP _ _ _ _ (by simp;omega)]
 simp only[alY,<-e2];split
 ·have:=hc.2 (j-o) qqO
  simpa [alz]using this
 ·exact h.2 j hj
theorem Mr {S:Imm} {w:World} {ι:Ix} {p:PV} {v:Value} (h:Rep S w ι p v) (ho:one p=true):bH S w ι [p] v.cells:=by
 rw[h.cellsOne ho];refine⟨rfl,λi hi=>?_⟩;simp at hi;subst hi;exact h
theorem tJ {S:Imm} {w:World} {ι:Ix} {ρ:Operand->PV} {a:Act} {place:Nat->Option (Nat × Nat)} {F:List PV->List (Nat × PV)->Option (List PV)}
 (hF0:∀l,F l []=some l)
 (hF:∀l i v rest cs,F l ((i,v)::rest)=some cs->∃o sz ds,place i=some (o,sz)/\ds.length=sz/\o+sz≤l.length/\F (setCells l o ds) rest=some cs/\∀val,Rep S w ι v val->bH S w ι ds val.cells)
 (parts:List (Nat × Operand)):∀(l cs:List PV) (vs:Array Value),(∀x∈parts,Rep S w ι (ρ x.2) (a.eval x.2))->F l (partsOf ρ parts)=some cs->bH S w ι l vs->
  ∃vs',Instr.fill place vs (parts.map λx=>(x.1,a.eval x.2))=some vs'/\bH S w ι cs vs':=by
 induction parts with
 |nil=>intro l cs vs hr h hl;rw[partsOf,hF0]at h;cases h;exact⟨vs,rfl,hl⟩
 |cons x xs ih=>
  intro l cs vs hr h hl;obtain⟨i,x⟩:=x;rw[partsOf]at h;obtain⟨o,sz,ds,hp,hd,hb,h',hrep⟩:=hF _ _ _ _ _ h;have hds:=hrep _ (hr (i,x) qqS);have e1:=hl.1;have e2:ds.length=(a.eval x).cells.size:=hds.1;obtain⟨vs',h1,h2⟩:=ih _ cs _ (λy hy=>hr y (List.mem_cons_of_mem _ hy)) h' (ab3 hl hds qqO);refine⟨vs',?_,h2⟩;simp only[List.map_cons];rw[SY hp qqO qqO];exact h1
theorem Pb {S:Imm} {w:World} {ι:Ix} {pl:List (Nat × Nat)} (l:List PV) (i:Nat) (v:PV) (rest:List (Nat × PV)) (cs:List PV) (h:qL l pl ((i,v)::rest)=some cs):
 ∃o sz ds,pl[i]? =some (o,sz)/\ds.length=sz/\o+sz≤l.length/\qL (setCells l o ds) pl rest=some cs/\∀val,Rep S w ι v val->bH S w ι ds val.cells:=by
 unfold qL at h;split at h
 ·cases h
 ·rename_i o sz hp
  split at h
  ·rename_i ds
   split at h
   ·rename_i hb
    simp only[alM]at hb;have e1:=alN hb.1;have e2:=alU hb.2;exact⟨o,sz,ds,hp,e1,e2,h,λval hr=>by cases hr with|agg _ _ vs hl hh=>exact⟨hl,hh⟩⟩
   ·cases h
  ·split at h
   ·rename_i hb
    simp only[alM]at hb;have e1:=alN hb.1.2;have e2:=alU hb.2;exact⟨o,sz,[v],hp,by simp[e1],qqO,h,λval hr=>Mr hr hb.1.1⟩
   ·cases h
theorem tK {S:Imm} {w:World} {ι:Ix} {esz:Nat} (l:List PV) (i:Nat) (v:PV) (rest:List (Nat × PV)) (cs:List PV) (h:jZ l esz ((i,v)::rest)=some cs):
 ∃o sz ds,(some (i*esz,esz):Option (Nat × Nat))=some (o,sz)/\ds.length=sz/\o+sz≤l.length/\jZ (setCells l o ds) esz rest=some cs/\∀val,Rep S w ι v val->bH S w ι ds val.cells:=by
 unfold jZ at h;split at h
 ·rename_i ds
  split at h
  ·rename_i hb
   simp only[alM]at hb;have e1:=alN hb.1;have e2:=alU hb.2;exact⟨i*esz,esz,ds,rfl,e1,e2,h,λval hr=>by cases hr with|agg _ _ vs hl hh=>exact⟨hl,hh⟩⟩
  ·cases h
 ·split at h
  ·rename_i hb
   simp only[alM]at hb;have e1:=alN hb.1.2;have e2:=alU hb.2;subst e1;exact⟨i*1,1,[v],rfl,rfl,qqO,by rw[alV];exact h,λval hr=>Mr hr hb.1.1⟩
  ·cases h
theorem KU (hτ:bC P τ):∀(fs:List Field) (pl:List (Nat × Nat)),placesOf τ fs=some pl->fs.mapM (λf=>(P.info? f.type).map λi=>(f.offset,i.size))=some pl:=by
 intro fs;induction fs with
 |nil=>intro pl h;simp[placesOf]at h;subst h;rfl
 |cons f fs ih=>
  intro pl h;unfold placesOf at h;split at h
  ·rename_i te ht
   split at h
   ·rename_i l hl
    cases h
    obtain⟨i,h1,h2,h3,h4⟩:=hτ.info _ _ ht;simp[List.mapM_cons,h1,ih l hl,h3]
   ·cases h
  ·cases h
theorem KV (hτ:bC P τ) {md rf CP YP} {o:Oper} {ρ:Operand->PV} {H:Hp} {n:Nat} {t:TypeId} {parts:Array (Nat × Operand)} (ho:o.op=.build t parts) {K:KR}
 (h:opK τ md rf CP YP ρ H n o.dst o.op K):∃v sets accs news,K v sets accs news/\bJ P r o ρ H v sets accs news:=by
 rw[ho]at h;simp only[opK,bZ,bN]at h;obtain⟨te,ht,h⟩:=h;obtain⟨it,i1,i2,i3,i4⟩:=hτ.info _ _ ht;have hz:∀{S:Imm} {w:World} {ι:Ix},bH S w ι (mU te.zero.cells.toList) te.zero.cells:=by
  intro S w ι;refine⟨by simp[ng],λi hi=>?_⟩
  rw[ng]at hi;have:=tH (S:=S) (w:=w) (ι:=ι) te.zero.cells.toList i hi;simpa [alz]using this
 have hparts:∀{S:Imm} {w:World} {ι:Ix} {a:Act},(∀x∈o.op.operands.toList,Rep S w ι (ρ x) (a.eval x))->∀x∈parts.toList,Rep S w ι (ρ x.2) (a.eval x.2):=by
  intro S w ι a hr x hx;exact hr x.2 (by simp[ho,Op.operands];exact⟨x.1,by simpa using hx⟩)
 split at h
 ·rename_i fs hu
  split at h
  ·rename_i pl hpl
   split at h
   ·rename_i cs hcs
    refine⟨_,_,_,_,h,aX (λc e=>by rw[ho]at e;cases e) λS w ι H' a M hr ha=>?_⟩
    obtain⟨vs',h1,h2⟩:=tJ (S:=S) (w:=w) (ι:=ι) (ρ:=ρ) (a:=a) (place:=λi=>pl.toArray[i]?) (F:=λl ps=>qL l pl ps) (λl=>by simp[qL])
     (λl i v rest cs hh=>by simpa using Pb l i v rest cs hh) parts.toList _ cs te.zero.cells (hparts hr) hcs hz
    refine⟨.agg vs',?_,.agg _ _ _ h2.1 h2.2⟩;simp only[execOp,ho];refine eH (run_build w t _ vs' ?_);simp only[Program.built,i1,hτ.und _ _ ht,hu,i2,KU hτ _ _ hpl];simpa using h1
   ·exact h.elim
  ·exact h.elim
 ·rename_i q e hu
  obtain⟨te',hte',h⟩:=h;obtain⟨je,j1,j2,j3,j4⟩:=hτ.info _ _ hte';split at h
  ·rename_i cs hcs
   refine⟨_,_,_,_,h,aX (λc e=>by rw[ho]at e;cases e) λS w ι H' a M hr ha=>?_⟩
   obtain⟨vs',h1,h2⟩:=tJ (S:=S) (w:=w) (ι:=ι) (ρ:=ρ) (a:=a) (place:=λi=>some (i*te'.size,te'.size)) (F:=λl ps=>jZ l te'.size ps) (λl=>by simp[jZ])
    (λl i v rest cs hh=>tK l i v rest cs hh) parts.toList _ cs te.zero.cells (hparts hr) hcs hz
   refine⟨.agg vs',?_,.agg _ _ _ h2.1 h2.2⟩;simp only[execOp,ho];refine eH (run_build w t _ vs' ?_);simp only[Program.built,i1,hτ.und _ _ ht,hu,i2,j1,j3];simpa using h1
  ·exact h.elim
 ·exact h.elim
theorem oJ (hτ:bC P τ) {t:TypeId} {tf:TE} (ht:τ t=some tf) {cs:List PV} {vs:Array Value} {S:Imm} {w:World} {ι:Ix} (h:bH S w ι cs vs) {off:Nat}:
 (tf.isAgg=true->off+tf.size≤cs.length->∃val,(part t vs off).run P w=.ok val w/\Rep S w ι (.agg (CL.gets (.pv cs) off tf.size)) val)/\
 (tf.isAgg=false->off+1≤cs.length->∃val,(part t vs off).run P w=.ok val w/\Rep S w ι (aG cs off) val):=by
 have e1:=h.1;refine⟨λha hb=>⟨.agg (vs.extract off (off+tf.size)),?_,?_⟩,λha hb=>⟨vs.getD off undef,?_,h.2 off qqO⟩⟩
 ·simp[part,jm hτ ht,Result.andThen,ha,bK hτ ht]
 ·refine .agg _ _ _ (by simp[p9];omega) (λi hi=>?_)
  rw[p9]at hi;rw[zF _ _ _ _ hi];have:=h.2 (off+i) qqO;simp only[CL.get];rw[alz]at this⊢;rw[Array.getElem?_extract,if_pos qqO];exact this
 ·have:off<vs.size:=qqO
  simp[part,jm hτ ht,Result.andThen,ha,alv this,alz]
theorem KW (hτ:bC P τ) {md rf CP YP} {o:Oper} {ρ:Operand->PV} {H:Hp} {n:Nat} {t:TypeId} {x:Operand} {f:Nat} (ho:o.op=.field t x f) {K:KR}
 (h:opK τ md rf CP YP ρ H n o.dst o.op K):∃v sets accs news,K v sets accs news/\bJ P r o ρ H v sets accs news:=by
 rw[ho]at h;simp only[opK,bZ]at h;obtain⟨te,ht,h⟩:=h;split at h
 ·rename_i fs hu
  split at h
  ·rename_i fd hfd
   obtain⟨tf,htf,h⟩:=h;split at h
   ·rename_i cs hρ
    have run:∀{S:Imm} {w:World} {ι:Ix} {a:Act},(∀x∈o.op.operands.toList,Rep S w ι (ρ x) (a.eval x))->∃vs,bH S w ι cs vs/\
     ∀{val:Value},(part fd.type vs fd.offset).run P w=.ok val w->(execOp a.eval o).run P w=.ok (.value val) w:=by
     intro S w ι a hr;have hx:=hr x (by simp[ho,Op.operands])
     rw[hρ]at hx;cases hev:a.eval x<;>rw[hev]at hx<;>cases hx
     rename_i vs hl hh;refine⟨vs,⟨hl,hh⟩,λhp=>?_⟩;simp only[execOp,ho];refine eH ?_;simp only[Instr.field,Sem.run_bind,run_underlying (hτ.und _ _ ht),hu,Result.andThen,hfd,hev,asAgg,Sem.run_pure,hp]
    split at h
    ·rename_i hagg
     rw[aK,bN]at h;have hb:=alU h.1;refine⟨_,_,_,_,h.2,aX (λc e=>by rw[ho]at e;cases e) λS w ι H' a M hr ha=>?_⟩
     obtain⟨vs,hv,hrun⟩:=run hr;obtain⟨val,h1,h2⟩:=(oJ hτ htf hv).1 hagg hb;exact⟨val,hrun h1,h2⟩
    ·rename_i hagg
     rw[aK,bO]at h;have hb:=alU h.1;refine⟨_,_,_,_,h.2,aX (λc e=>by rw[ho]at e;cases e) λS w ι H' a M hr ha=>?_⟩
     obtain⟨vs,hv,hrun⟩:=run hr;obtain⟨val,h1,h2⟩:=(oJ hτ htf hv).2 hagg hb;exact⟨val,hrun h1,h2⟩
   ·exact h.elim
  ·exact h.elim
 ·exact h.elim
theorem Bl {x:PV} {d:Nat} {K:PV->Prop} (h:Hq x d K):∃v,K v/\∀{S:Imm} {w:World} {ι:Ix} {vx:Value},Rep S w ι x vx->∃b o,vx=.pointer (some ⟨b,o,none⟩)/\Rep S w ι v (.pointer (some ⟨b,o+d,none⟩)):=by
 unfold Hq at h;split at h
 ·exact⟨_,h,λhx=>by cases hx;exact⟨_,_,rfl,.rp _ _ _ _ ‹_›⟩⟩
 ·refine⟨_,h,λhx=>?_⟩
  cases hx with
  |ip _ c off b o hs hh=>exact⟨_,_,rfl,by rw[alk];exact .ip _ _ _ _ _ hs hh⟩
 ·refine⟨_,h,λhx=>?_⟩
  cases hx with
  |rpe _ k m i j b hk=>exact⟨_,_,rfl,by rw[alk];exact .rpe _ _ _ _ _ _ hk⟩
 ·refine⟨_,h,λhx=>?_⟩
  cases hx with
  |ipe _ c i j b o hs hh=>exact⟨_,_,rfl,by rw[alk,alk];exact .ipe _ _ _ _ _ _ hs hh⟩
 ·refine⟨_,h,λhx=>?_⟩
  cases hx with
  |rowp _ k b m i j=>exact⟨_,_,rfl,by rw[alk];exact .rowp _ _ _ _ _ _⟩
 ·exact h.elim
theorem Bn (hτ:bC P τ) {md rf CP YP} {o:Oper} {ρ:Operand->PV} {H:Hp} {n:Nat} {t:TypeId} {x:Operand} {f:Nat} (ho:o.op=.fieldAddr t x f) {K:KR}
 (h:opK τ md rf CP YP ρ H n o.dst o.op K):∃v sets accs news,K v sets accs news/\bJ P r o ρ H v sets accs news:=by
 rw[ho]at h;simp only[opK,bZ]at h;obtain⟨te,ht,h⟩:=h;split at h
 ·rename_i fs hu
  split at h
  ·rename_i fd hfd
   simp only[aK,abZ]at h;obtain⟨tf,htf,hb,h⟩:=h;have hb:=alU hb;obtain⟨v,hK,hs⟩:=Bl h;refine⟨v,_,_,_,hK,aX (λc e=>by rw[ho]at e;cases e) λS w ι H' a M hr ha=>?_⟩
   obtain⟨b,off,h1,h2⟩:=hs (hr x (by simp[ho,Op.operands]))
   refine⟨_,?_,h2⟩;simp only[execOp,ho];refine eH ?_;simp only[Instr.fieldAt,Sem.run_bind,run_underlying (hτ.und _ _ ht),hu,Result.andThen,hfd,h1,Instr.sureAddr,Sem.run_pure,fieldPlace,bK hτ htf];rw[if_neg qqO];simp only[Sem.run_pure,fQ]
  ·exact h.elim
 ·exact h.elim
variable {P:Program} {r:Option Nat} {τ:TypeId->Option TE}
theorem jD {i:PV} {n:Nat} {K:Nat->Prop} (h:tq i n K):∃j,K j/\j<n/\∀{S:Imm} {w:World} {ι:Ix} {v:Value},Rep S w ι i v->∃k x,v=.int k x/\0≤x/\x<n/\x.toNat=j:=by
 unfold tq at h;split at h
 ·exact⟨_,h.2,qqO,λhr=>by cases hr;exact⟨_,_,rfl,h.1.1,h.1.2,rfl⟩⟩
 ·exact h.elim
theorem Du {md rf CP YP} {o:Oper} {ρ:Operand->PV} {H:Hp} {n:Nat} {x:Operand} (ho:o.op=.nilCheck x) {K:KR}
 (h:opK τ md rf CP YP ρ H n o.dst o.op K):∃v sets accs news,K v sets accs news/\bJ P r o ρ H v sets accs news:=by
 rw[ho]at h;simp only[opK]at h;have key:∀{v:PV},ρ x=v->(∀{S:Imm} {w:World} {ι:Ix} {vx:Value},Rep S w ι v vx->(∃ad,vx=.pointer (some ad))∨∃f u c,vx=.func (.func f) u c)->K v [] [] []->
  ∃v sets accs news,K v sets accs news/\bJ P r o ρ H v sets accs news:=by
  intro v hv hs hK;refine⟨_,_,_,_,hK,aX (λc e=>by rw[ho]at e;cases e) λS w ι H' a M hr ha=>?_⟩
  have hx:=hr x (by simp[ho,Op.operands])
  rw[hv]at hx;refine⟨a.eval x,?_,hx⟩;simp only[execOp,ho];rcases hs hx with⟨ad,e⟩|⟨f,u,c,e⟩<;>rw[e]<;>rfl
 split at h
 ·exact key ‹_› (λhr=>by cases hr;exact .inl ⟨_,rfl⟩) h
 ·exact key ‹_› (λhr=>by cases hr;exact .inl ⟨_,rfl⟩) h
 ·exact key ‹_› (λhr=>by cases hr;exact .inl ⟨_,rfl⟩) h
 ·exact key ‹_› (λhr=>by cases hr;exact .inl ⟨_,rfl⟩) h
 ·exact key ‹_› (λhr=>by cases hr;exact .inr ⟨_,_,_,rfl⟩) h
 ·exact h.elim
theorem FQ {md rf CP YP} {o:Oper} {ρ:Operand->PV} {H:Hp} {n:Nat} {x:Operand} {i:Nat} (ho:o.op=.extract x i) {K:KR}
 (h:opK τ md rf CP YP ρ H n o.dst o.op K):∃v sets accs news,K v sets accs news/\bJ P r o ρ H v sets accs news:=by
 rw[ho]at h;simp only[opK]at h;split at h
 ·rename_i vs hρ
  rw[aK,bO]at h;have hb:=alU h.1;refine⟨_,_,_,_,h.2,aX (λc e=>by rw[ho]at e;cases e) λS w ι H' a M hr ha=>?_⟩
  have hx:=hr x (by simp[ho,Op.operands])
  rw[hρ]at hx;cases hev:a.eval x<;>rw[hev]at hx<;>cases hx
  rename_i us hl hh;refine⟨us.getD i undef,?_,hh i qqO⟩;simp only[execOp,ho];refine eH ?_;simp[Instr.extract,hev,alv (show i<us.size by omega),alz]
 ·exact h.elim
theorem Bo (hτ:bC P τ) {md rf CP YP} {o:Oper} {ρ:Operand->PV} {H:Hp} {n:Nat} {t:TypeId} {x y:Operand} (ho:o.op=.indexAddr t x y) {K:KR}
 (h:opK τ md rf CP YP ρ H n o.dst o.op K):∃v sets accs news,K v sets accs news/\bJ P r o ρ H v sets accs news:=by
 rw[ho]at h;simp only[opK,bZ,bO,dM]at h;obtain⟨te,ht,h⟩:=h;have hd:∀c,o.op≠ .defer c:=λc e=>by rw[ho]at e;cases e
 split at h
 ·rename_i e hu
  obtain⟨te',ht',h⟩:=h;have run:∀{S:Imm} {w:World} {ι:Ix} {a:Act} {b off len cap:Nat} {k:IntKind} {q:Int},a.eval x=.slice (some ⟨b,off,none⟩) len cap->a.eval y=.int k q->0≤q->q<len->
   (execOp a.eval o).run P w=.ok (.value (.pointer (some ⟨b,off+q.toNat*te'.size,none⟩))) w:=by
   intro S w ι a b off len cap k q e1 e2 e3 e4;simp only[execOp,ho];refine eH ?_;simp only[Instr.indexAt,e2,asIntOf,Sem.run_bind,Sem.run_pure,Result.andThen,run_underlying (hτ.und _ _ ht),hu,e1];rw[Sem.run_ite,if_pos ⟨e3,e4⟩];simp only[Sem.run_bind,bK hτ ht',Result.andThen,Sem.run_pure,fQ]
  split at h
  ·rename_i c tk hρ
   obtain⟨j,hK,hj,hi⟩:=jD h;have key:∀{v:PV},K v [] [] []->(∀{S:Imm} {w:World} {ι:Ix} {b off:Nat},(∀q,q<c.ncell->S b (off+q))->(∀q,q<c.ncell->Rep S w noI (c.get q) (rdv w b (off+q)))->Rep S w ι v (.pointer (some ⟨b,off+j*te'.size,none⟩)))->
    ∃v sets accs news,K v sets accs news/\bJ P r o ρ H v sets accs news:=by
    intro v hv hrep;refine⟨_,_,_,_,hv,aX hd λS w ι H' a M hr ha=>?_⟩;have hx:=hr x (by simp[ho,Op.operands])
    obtain⟨k,q,e2,e3,e4,e5⟩:=hi (hr y (by simp[ho,Op.operands]))
    rw[hρ]at hx;obtain⟨vx,hev⟩:∃v,a.eval x=v:=⟨_,rfl⟩;rw[hev]at hx;cases hx with
    |islnil _ _ _ hz=>omega
    |isl _ _ _ b off cap hc hs hh hf ho'=>
     refine⟨_,run (S:=S) (ι:=ι) hev e2 e3 e4,?_⟩;rw[e5];exact hrep hs hh
   split at hK
   ·rename_i m rs
    rw[aK]at hK;have e:=alN hK.1;exact key hK.2 (λhs hh=>by rw[<-e];exact .ipe _ (.recs m rs) j 0 _ _ hs hh)
   ·rename_i m q f
    rw[aK]at hK;have e:=alN hK.1;exact key hK.2 (λhs hh=>by rw[<-e];exact .ipe _ (.genr m q f) j 0 _ _ hs hh)
   ·rw[aK]at hK
    have e:=alN hK.1;exact key hK.2 (λhs hh=>by rw[e,alV];exact .ip _ _ _ _ _ hs hh)
  ·rename_i k off m hρ
   obtain⟨j,hK,hj,hi⟩:=jD h;rw[bD]at hK;obtain⟨ob,hob,hK⟩:=hK;have key:∀{v:PV},K v [] [k] []->(∀{S:Imm} {w:World} {ι:Ix} {b:Nat},ι.o k=some b->Rep S w ι v (.pointer (some ⟨b,off+j*te'.size,none⟩)))->
    ∃v sets accs news,K v sets accs news/\bJ P r o ρ H v sets accs news:=by
    intro v hv hrep;refine⟨_,_,_,_,hv,aX hd λS w ι H' a M hr ha=>?_⟩;have hx:=hr x (by simp[ho,Op.operands])
    obtain⟨k',q,e2,e3,e4,e5⟩:=hi (hr y (by simp[ho,Op.operands]))
    rw[hρ]at hx;obtain⟨vx,hev⟩:∃v,a.eval x=v:=⟨_,rfl⟩;rw[hev]at hx;cases hx with
    |rslz=>omega
    |rsl _ _ _ _ b cap hk hc _=>
     refine⟨_,run (S:=S) (ι:=ι) hev e2 e3 e4,?_⟩;rw[e5];exact hrep hk
   split at hK
   ·rename_i q rs fz
    rw[aK,alM]at hK;have e:=alN hK.1.1;have e0:=alN hK.1.2;refine key hK.2 (λhk=>?_);rw[e0,<-e,alO,<-alg (j*q)];exact .rpe _ _ _ _ _ _ hk
   ·exact key hK (λhk=>.rp _ _ _ _ hk)
   ·exact key hK (λhk=>.rp _ _ _ _ hk)
   ·exact key hK (λhk=>.rp _ _ _ _ hk)
   ·exact hK.elim
  ·rename_i k b m hρ
   obtain⟨j,hK,hj,hi⟩:=jD h;refine⟨_,_,_,_,hK,aX hd λS w ι H' a M hr ha=>?_⟩;have hx:=hr x (by simp[ho,Op.operands])
   obtain⟨k',q,e2,e3,e4,e5⟩:=hi (hr y (by simp[ho,Op.operands]))
   rw[hρ]at hx;obtain⟨vx,hev⟩:∃v,a.eval x=v:=⟨_,rfl⟩;rw[hev]at hx;cases hx with
   |row _ _ _ _ cap hc=>
    refine⟨_,run (S:=S) (ι:=ι) hev e2 e3 e4,?_⟩;rw[e5,alO];exact .rowp _ _ _ _ _ _
  ·rename_i k es m hρ
   obtain⟨j,hK,hj,hi⟩:=jD h;rw[bD]at hK;obtain⟨ob,hob,hK⟩:=hK;split at hK
   ·rename_i q rs fz
    rw[aK]at hK;have e:=alN hK.1;refine⟨_,_,_,_,hK.2,aX hd λS w ι H' a M hr ha=>?_⟩;have hx:=hr x (by simp[ho,Op.operands])
    obtain⟨k',q',e2,e3,e4,e5⟩:=hi (hr y (by simp[ho,Op.operands]))
    rw[hρ]at hx;obtain⟨vx,hev⟩:∃v,a.eval x=v:=⟨_,rfl⟩;rw[hev]at hx;cases hx with
    |rsc _ _ _ _ b cap hk hc he hr'=>
     refine⟨_,run (S:=S) (ι:=ι) hev e2 e3 e4,?_⟩;rw[e5,<-e,alO,<-alg (j*q)];exact .rpe _ _ _ _ _ _ hk
   ·rename_i q rs
    rw[aK]at hK;have e:=alN hK.1;refine⟨_,_,_,_,hK.2,λS w ι H' a next Q M hr ha hn hk=>?_⟩;have hx:=hr x (by simp[ho,Op.operands])
    obtain⟨k',q',e2,e3,e4,e5⟩:=hi (hr y (by simp[ho,Op.operands]))
    rw[hρ]at hx;obtain⟨vx,hev⟩:∃v,a.eval x=v:=⟨_,rfl⟩;rw[hev]at hx;cases hx with
    |rsc _ _ _ _ b cap hkb hc he hr'=>
     have hob':=(ha k qqS).trans hob;obtain⟨b',g1,arr,e9,g2,g3,g4,g5⟩:=M.obj k _ hob';obtain⟨M',T⟩:=M.stay (o':=.cells (.recs q rs) false) hob' rfl rfl rfl (.refl _) (.refl _ _) (λ_ _=>rfl) (λb hb=>hb) ⟨b',arr,e9,g1,g2,g3,λj hj=>(g4 j hj).up ι,g5⟩;refine cZ hd (run (S:=S) (ι:=ι) hev e2 e3 e4) (hk _ S w ι M' (.refl _) (.refl _ _) ?_ T);rw[e5,<-e,alO,<-alg (j*q)];exact .rpe _ _ _ _ _ _ hkb
   ·exact hK.elim
  ·exact h.elim
 ·rename_i m e hu
  obtain⟨te',ht',h⟩:=h;obtain⟨j,hK,hj,hi⟩:=jD h;obtain⟨v,hK,hs⟩:=Bl hK;refine⟨v,_,_,_,hK,aX hd λS w ι H' a M hr ha=>?_⟩;obtain⟨b,off,h1,h2⟩:=hs (hr x (by simp[ho,Op.operands]))
  obtain⟨k',q,e2,e3,e4,e5⟩:=hi (hr y (by simp[ho,Op.operands]))
  refine⟨_,?_,h2⟩;simp only[execOp,ho];refine eH ?_;simp only[Instr.indexAt,e2,asIntOf,Sem.run_bind,Sem.run_pure,Result.andThen,run_underlying (hτ.und _ _ ht),hu,h1,Instr.sureAddr];rw[Sem.run_ite,if_pos ⟨e3,e4⟩];simp only[Sem.run_bind,bK hτ ht',Result.andThen,Sem.run_pure,fQ,e5]
 ·exact h.elim
theorem KY (hτ:bC P τ) {md rf CP YP} {o:Oper} {ρ:Operand->PV} {H:Hp} {n:Nat} {t:TypeId} {x y:Operand} (ho:o.op=.index t x y) {K:KR}
 (h:opK τ md rf CP YP ρ H n o.dst o.op K):∃v sets accs news,K v sets accs news/\bJ P r o ρ H v sets accs news:=by
 rw[ho]at h;simp only[opK,bZ,bO]at h;obtain⟨te,ht,h⟩:=h;have hd:∀c,o.op≠ .defer c:=λc e=>by rw[ho]at e;cases e
 split at h
 ·rename_i m e hu
  obtain⟨te',ht',h⟩:=h;split at h
  ·rename_i cs hρ
   obtain⟨j,hK,hj,hi⟩:=jD h;have run:∀{S:Imm} {w:World} {ι:Ix} {a:Act},(∀x∈o.op.operands.toList,Rep S w ι (ρ x) (a.eval x))->∃vs,bH S w ι cs vs/\
    ∀{val:Value},(part e vs (j*te'.size)).run P w=.ok val w->(execOp a.eval o).run P w=.ok (.value val) w:=by
    intro S w ι a hr;have hx:=hr x (by simp[ho,Op.operands])
    obtain⟨k',q,e2,e3,e4,e5⟩:=hi (hr y (by simp[ho,Op.operands]))
    rw[hρ]at hx;cases hev:a.eval x<;>rw[hev]at hx<;>cases hx
    rename_i vs hl hh;refine⟨vs,⟨hl,hh⟩,λhp=>?_⟩;simp only[execOp,ho];refine eH ?_;simp only[Instr.index,e2,asIntOf,Sem.run_bind,Sem.run_pure,Result.andThen,run_underlying (hτ.und _ _ ht),hu,hev];rw[Sem.run_ite,if_pos ⟨e3,e4⟩];simp only[Sem.run_bind,bK hτ ht',Result.andThen,e5,hp]
   split at hK
   ·rename_i hagg
    refine⟨_,_,_,_,hK.2,aX hd λS w ι H' a M hr ha=>?_⟩;obtain⟨vs,hv,hrun⟩:=run hr;obtain⟨val,h1,h2⟩:=(oJ hτ ht' hv).1 hagg hK.1;exact⟨val,hrun h1,h2⟩
   ·rename_i hagg
    refine⟨_,_,_,_,hK.2,aX hd λS w ι H' a M hr ha=>?_⟩;obtain⟨vs,hv,hrun⟩:=run hr;obtain⟨val,h1,h2⟩:=(oJ hτ ht' hv).2 hagg hK.1;exact⟨val,hrun h1,h2⟩
  ·exact h.elim
 ·rename_i hu
  split at h
  ·rename_i s hρ
   obtain⟨j,hK,hj,hi⟩:=jD h;refine⟨_,_,_,_,hK,aX hd λS w ι H' a M hr ha=>?_⟩;have hx:=hr x (by simp[ho,Op.operands])
   obtain⟨k',q,e2,e3,e4,e5⟩:=hi (hr y (by simp[ho,Op.operands]))
   rw[hρ]at hx;cases hev:a.eval x<;>rw[hev]at hx<;>cases hx
   refine⟨.int .u8 ((s.data.getD j 0).toNat:Nat),?_,.int _ _ _⟩;simp only[execOp,ho];refine eH ?_;have hlt:j<s.size:=hj;have hgs:s[j]? =some (s.data.getD j 0):=by
    rw[getElem?_pos s j hlt];congr 1;have hlt':j<s.data.size:=hlt;rw[alz,alv hlt'];rfl
   simp only[Instr.index,e2,asIntOf,Sem.run_bind,Sem.run_pure,Result.andThen,run_underlying (hτ.und _ _ ht),hu,hev,e5,if_pos e3,hgs]
  ·exact h.elim
 ·exact h.elim
variable {P:Program} {r:Option Nat} {τ:TypeId->Option TE}
theorem bI (c:CL):c.ncell=c.cnt*c.esz:=by cases c<;>simp[CL.ncell,CL.cnt,CL.esz]
theorem Ms (c:CL) (a b:Nat):(c.sub a b).esz=c.esz:=by cases c<;>rfl
theorem jU (c:CL) {a b:Nat} (h:b≤c.cnt):(c.sub a b).cnt=b-a:=by
 cases c<;>simp[CL.sub,CL.cnt]at h⊢ <;>omega
theorem EP (l:List PV):∀(a i:Nat),aG (l.drop a) i=aG l (a+i):=by
 induction l with
 |nil=>intro a i;simp[aG]
 |cons x xs ih=>
  intro a i;cases a with
  |zero=>simp
  |succ a=>rw[List.drop_succ_cons,ih,show a+1+i=(a+i)+1 by omega];rfl
theorem ER (l:List PV):∀(n i:Nat),i<n->aG (l.take n) i=aG l i:=by
 induction l with
 |nil=>intro n i h;simp[aG]
 |cons x xs ih=>
  intro n i h;cases n with
  |zero=>omega
  |succ n=>cases i with
   |zero=>rfl
   |succ i=>simp only[List.take_succ_cons,aG];exact ih n i qqO
theorem Mt (c:CL) {a b j:Nat} (hj:j<(b-a)*c.esz):(c.sub a b).get j=c.get (a*c.esz+j):=by
 cases c with
 |pv cs=>simp only[CL.esz,alV]at hj⊢;simp only[CL.sub,CL.get];rw[ER _ _ _ hj,EP]
 |ints k xs=>simp only[CL.esz,alV]at hj⊢;simp[CL.sub,CL.get,ami,hj]
 |bools xs=>simp only[CL.esz,alV]at hj⊢;simp[CL.sub,CL.get,ami,hj]
 |strs xs=>simp only[CL.esz,alV]at hj⊢;simp[CL.sub,CL.get,ami,hj]
 |rows k xs=>simp only[CL.esz,alV]at hj⊢;simp[CL.sub,CL.get,ami,hj]
 |gen n f=>simp only[CL.esz,alV]at hj⊢;simp[CL.sub,CL.get]
 |recs m rs=>
  simp only[CL.esz]at hj⊢;have hm:0<m:=by rcases amk m with h|h;(subst h;simp at hj);exact h
  have hq:j / m<b-a:=by rw[al6 hm];exact hj
  simp only[CL.sub,CL.get];rw[show(a*m+j) / m=a+j / m by rw[alP,alQ hm],show(a*m+j) % m=j % m by rw[alP,alS]]
  simp[ami,hq]
 |genr m n f=>
  simp only[CL.esz]at hj⊢;have hm:0<m:=by rcases amk m with h|h;(subst h;simp at hj);exact h
  simp only[CL.sub,CL.get];rw[show(a*m+j) / m=a+j / m by rw[alP,alQ hm],show(a*m+j) % m=j % m by rw[alP,alS]]
theorem FR {len:Nat} {lo hi:Option PV} {K:Nat->Nat->Prop} (h:xU len lo hi K):∃a b,K a b/\a≤b/\b≤len/\
 ∀{S:Imm} {w:World} {ι:Ix} {vlo vhi:Option Value} {cap:Nat} {isS:Bool},len≤cap->(∀p,lo=some p->∃v,vlo=some v/\Rep S w ι p v)->(lo=none->vlo=none)->(∀p,hi=some p->∃v,vhi=some v/\Rep S w ι p v)->(hi=none->vhi=none)->
  (Instr.sliceBounds isS len cap vlo vhi none).run P w=.ok (a,b,cap) w:=by
 have sb:∀{k:IntKind} {x:Int} {y:Nat} {code:BoundsCode} {w:World},0≤x->x≤y->(Instr.sliceBound (.int k x) y code).run P w=.ok x.toNat w:=by
  intro k x y code w h1 h2;simp only[Instr.sliceBound,asIntOf,Sem.run_bind,Sem.run_pure,Result.andThen];rw[Sem.run_ite,if_pos ⟨h1,h2⟩];rfl
 unfold xU at h;split at h
 ·split at h
  ·refine⟨0,len,h,aml _,alo _,λhc h1 h2 h3 h4=>?_⟩
   rw[h2 rfl,h4 rfl];simp[Instr.sliceBounds,Result.andThen]
  ·rename_i k x
   refine⟨0,x.toNat,h.2,aml _,qqO,λhc h1 h2 h3 h4=>?_⟩;obtain⟨v,e,hr⟩:=h3 _ rfl;cases hr
   rw[h2 rfl,e];simp only[Instr.sliceBounds,Sem.run_bind,Sem.run_pure,Result.andThen];rw[sb h.1.1 qqO]
  ·exact h.elim
 ·rename_i k x
  split at h
  ·refine⟨x.toNat,len,h.2,qqO,alo _,λhc h1 h2 h3 h4=>?_⟩
   obtain⟨v,e,hr⟩:=h1 _ rfl;cases hr
   rw[h4 rfl,e];simp only[Instr.sliceBounds,Sem.run_bind,Sem.run_pure,Result.andThen];rw[sb h.1.1 qqO]
  ·rename_i k' y
   refine⟨x.toNat,y.toNat,h.2,qqO,qqO,λhc h1 h2 h3 h4=>?_⟩;obtain⟨v,e,hr⟩:=h1 _ rfl;cases hr
   obtain⟨v',e',hr'⟩:=h3 _ rfl;cases hr'
   rw[e,e'];simp only[Instr.sliceBounds,Sem.run_bind,Sem.run_pure,Result.andThen];rw[sb qqO qqO];simp only[Result.andThen];rw[sb h.1.1 qqO]
  ·exact h.elim
 ·exact h.elim
theorem o7 {S:Imm} {w:World} {c:CL} {b off:Nat} (hs:∀j,j<c.ncell->S b (off+j)) (hh:∀j,j<c.ncell->Rep S w noI (c.get j) (rdv w b (off+j))) {x y:Nat} (hxy:x≤y) (hy:y≤c.cnt) {cap:Nat} (hc:y-x≤cap) (ι:Ix):
 Rep S w ι (.isl (c.sub x y) .none) (.slice (some ⟨b,off+x*c.esz,none⟩) (y-x) cap):=by
 have e:=jU c (a:=x) hy;have hn:(c.sub x y).ncell=(y-x)*c.esz:=by rw[bI,e,Ms]
 have hlt:∀j,j<(c.sub x y).ncell->x*c.esz+j<c.ncell:=by
  intro j hj;rw[hn]at hj;rw[bI];have h1:(x+(y-x))*c.esz≤c.cnt*c.esz:=al2 _ qqO;rw[al3]at h1;omega
 have:=Rep.isl (S:=S) (w:=w) ι (c.sub x y) .none b (off+x*c.esz) cap qqO (λj hj=>by rw[alk];exact hs _ (hlt j hj))
  (λj hj=>by rw[Mt c (by rw[hn]at hj;exact hj),alk];exact hh _ (hlt j hj)) (λe=>by cases e) (λk e=>by cases e)
 rw[e]at this;exact this
theorem lN {S:Imm} {w:World} (c:CL) (hc:c.cnt=0) {a:Option Addr} {cap:Nat} (ha:a=none/\cap=0∨∃b o,a=some ⟨b,o,none⟩) (ι:Ix):Rep S w ι (.isl c .none) (.slice a 0 cap):=by
 rcases ha with⟨rfl,rfl⟩|⟨b,o,rfl⟩
 ·exact .islnil _ _ _ hc
 ·have hn:c.ncell=0:=by rw[bI,hc];simp
  have:=Rep.isl (S:=S) (w:=w) ι c .none b o cap qqO (λj hj=>qqO) (λj hj=>qqO) (λe=>by cases e) (λk e=>by cases e)
  rw[hc]at this;exact this
theorem Rep.dropP {S:Imm} {w:World} {ι:Ix} {p:PV} {v:Value} (h:Rep S w ι p v):Rep S w ι (dropP p) v:=by
 cases p<;>first|exact h|exact h.dropC
theorem HV (hτ:bC P τ) {rf:List Nat} {o:Oper} {ρ:Operand->PV} {H:Hp} {t:TypeId} {x m:Operand} {lo hi:Option Operand} (ho:o.op=.slice t x lo hi (some m)) {K:KR}
 (h:rQ τ rf ρ H o.dst t x lo hi (some m) K):∃v sets accs news,K v sets accs news/\bJ P r o ρ H v sets accs news:=by
 have hd:∀c,o.op≠ .defer c:=λc e=>by rw[ho]at e;cases e
 cases lo with
 |none=>exact h.elim
 |some lo=>
 cases hi with
 |none=>exact h.elim
 |some hi=>
 simp only[rQ,bZ]at h;obtain⟨te,ht,h⟩:=h;split at h
 ·rename_i e hu
  obtain⟨te',ht',h⟩:=h;split at h
  ·rename_i c tk hρ
   unfold Mg at h;split at h
   ·rename_i ka a hla
    split at h
    ·rename_i kb b hlb
     split at h
     ·rename_i km mm hlm
      simp only[fI,dM,aK]at h;obtain⟨⟨h0,h1,h2,h3⟩,hsz,hK⟩:=h;have hsz:=alN hsz;have sb:∀{k:IntKind} {x:Int} {y:Nat} {code:BoundsCode} {w:World},0≤x->x≤y->(Instr.sliceBound (.int k x) y code).run P w=.ok x.toNat w:=by
       intro k x y code w h1 h2;simp only[Instr.sliceBound,asIntOf,Sem.run_bind,Sem.run_pure,Result.andThen];rw[Sem.run_ite,if_pos ⟨h1,h2⟩];rfl
      refine⟨_,_,_,_,hK,aX hd λS w ι H' ac M hr ha=>?_⟩;have ra:=hr lo (by simp[ho,Op.operands])
      have rb:=hr hi (by simp[ho,Op.operands])
      have rm:=hr m (by simp[ho,Op.operands])
      have hx:=hr x (by simp[ho,Op.operands])
      rw[hla]at ra;rw[hlb]at rb;rw[hlm]at rm;rw[hρ]at hx;obtain⟨va,ea⟩:∃v,ac.eval lo=v:=⟨_,rfl⟩;obtain⟨vb,eb⟩:∃v,ac.eval hi=v:=⟨_,rfl⟩;obtain⟨vm,em⟩:∃v,ac.eval m=v:=⟨_,rfl⟩;obtain⟨vx,hev⟩:∃v,ac.eval x=v:=⟨_,rfl⟩;rw[ea]at ra;rw[eb]at rb;rw[em]at rm;rw[hev]at hx;cases ra;cases rb;cases rm
      have hb:∀{ln cap:Nat},c.cnt≤cap->(Instr.sliceBounds true ln cap (some (.int ka a)) (some (.int kb b)) (some (.int km mm))).run P w=.ok (a.toNat,b.toNat,mm.toNat) w:=by
       intro ln cap hc;simp only[Instr.sliceBounds,Sem.run_bind,Sem.run_pure,Result.andThen,if_true,Option.isSome_some];rw[sb qqO qqO];simp only[Result.andThen];rw[sb qqO qqO];simp only[Result.andThen];rw[sb qqO qqO]
      have run:∀{ad:Option Addr} {ln cap:Nat},ac.eval x=.slice ad ln cap->c.cnt≤cap->
       (execOp ac.eval o).run P w=.ok (.value (.slice (if mm.toNat=a.toNat then ad else ad.map (·.add (a.toNat*te'.size))) (b.toNat-a.toNat) (mm.toNat-a.toNat))) w:=by
       intro ad ln cap hev hc;simp only[execOp,ho];refine eH ?_;simp only[Instr.sliceAt,Instr.slice,Sem.run_bind,run_underlying (hτ.und _ _ ht),hu,Result.andThen,hev,aly,ea,eb,em,hb hc,bK hτ ht',Sem.run_pure]
      cases hx with
      |islnil _ _ _ hz=>
       have e1:=run hev qqO;refine⟨_,e1,?_⟩;have qa:a.toNat=0:=qqO;have qb:b.toNat=0:=qqO;have qm:mm.toNat=0:=qqO;simp only[qa,qb,qm,if_true];exact .islnil _ _ _ (by rw[jU _ qqO])
      |isl _ _ _ bk off cap hc hs hh hf ho'=>
       refine⟨_,run hev hc,?_⟩;by_cases hca:mm.toNat=a.toNat
       ·rw[if_pos hca]
        have:b.toNat-a.toNat=0:=qqO;rw[this];exact lN _ (by rw[jU _ qqO];omega) (.inr ⟨_,_,rfl⟩) _
       ·rw[if_neg hca]
        simp only[aly,fQ,<-hsz];exact o7 hs hh qqO qqO qqO _
     ·exact h.elim
    ·exact h.elim
   ·exact h.elim
  ·exact h.elim
 ·exact h.elim
theorem HY (hτ:bC P τ) {rf:List Nat} {o:Oper} {ρ:Operand->PV} {H:Hp} {t:TypeId} {x:Operand} {lo hi mx:Option Operand} (ho:o.op=.slice t x lo hi mx) {K:KR}
 (h:rQ τ rf ρ H o.dst t x lo hi mx K):∃v sets accs news,K v sets accs news/\bJ P r o ρ H v sets accs news:=by
 cases mx with
 |some m=>exact HV hτ ho h
 |none=>
 simp only[rQ,bZ,dM,fI]at h;obtain⟨te,ht,h⟩:=h;have hd:∀c,o.op≠ .defer c:=λc e=>by rw[ho]at e;cases e
 have hb:∃ln,xU ln (lo.map ρ) (hi.map ρ) (λa b=>
  match te.und with
  |.string=>match ρ x with
   |.str s=>K (.str (s.extract a b)) [] [] []
   |_=>False
  |.slice e=>∃te',τ e=some te'/\match ρ x with
   |.isl c tk=>ifK (alI c.esz te'.size) (K (.isl (c.sub a b) .none) [] [] [])
   |.rsl k off m=>match(match o.dst with|some d=>iB d rf|none=>false)with
    |true=>bR H k λo=>Bc o λq xs=>ifK (alI off 0&&alI a 0) (K (.rsl k 0 b) [(k,.cells (.ints q (xs.take b)) false)] [k] [])
    |false=>K (.rsl k (off+a*te'.size) (b-a)) [] [] []
   |.nils=>K .nils [] [] []
   |_=>False
  |.array m e=>∃te',τ e=some te'/\match ρ x with
   |.rp k off=>bR H k λo=>match o with
    |.cells c _=>off+m*te'.size≤c.ncell/\ifK (Nat.ble 1 te'.size) (K (.rsl k (off+a*te'.size) (b-a)) [] [k] [])
    |_=>False
   |.ip c off=>off+m≤c.ncell/\ifK (alI c.esz 1&&alI te'.size 1) (K (.isl (c.sub (off+a) (off+b)) .none) [] [] [])
   |_=>False
  |_=>False)/\(match ρ x with|.isl c _=>ln=c.cnt|.rsl _ _ m=>ln=m|.str s=>ln=s.size|.nils=>ln=0|_=>(match te.und with|.array m _=>ln=m|_=>False)):=by
  split at h
  ·exact⟨_,h,by simp[*]⟩
  ·exact⟨_,h,by simp[*]⟩
  ·exact⟨_,h,by simp[*]⟩
  ·exact⟨_,h,by simp[*]⟩
  ·split at h
   ·exact⟨_,h,by simp[*]⟩
   ·exact h.elim
 obtain⟨ln,hb,hln⟩:=hb;obtain⟨a,b,hK,hab,hbl,hrun⟩:=FR (P:=P) hb;have runB:∀{S:Imm} {w:World} {ι:Ix} {ac:Act} {cap:Nat} {isS:Bool},(∀x∈o.op.operands.toList,Rep S w ι (ρ x) (ac.eval x))->ln≤cap->
  (Instr.sliceBounds isS ln cap (lo.map ac.eval) (hi.map ac.eval) none).run P w=.ok (a,b,cap) w:=by
  intro S w ι ac cap isS hr hc;refine hrun (S:=S) (w:=w) (ι:=ι) hc ?_ (λe=>by cases lo<;>simp at e⊢) ?_ (λe=>by cases hi<;>simp at e⊢)
  ·intro p hp
   cases lo with
   |none=>simp at hp
   |some q=>simp at hp;subst hp;exact⟨_,rfl,hr q (by simp[ho,Op.operands])⟩
  ·intro p hp
   cases hi with
   |none=>simp at hp
   |some q=>simp at hp;subst hp;exact⟨_,rfl,hr q (by simp[ho,Op.operands])⟩
 split at hK
 ·
  rename_i hu;split at hK
  ·rename_i s hρ
   refine⟨_,_,_,_,hK,aX hd λS w ι H' ac M hr ha=>?_⟩;have hx:=hr x (by simp[ho,Op.operands])
   rw[hρ]at hx hln;cases hev:ac.eval x<;>rw[hev]at hx<;>cases hx
   simp only at hln;subst hln;refine⟨.string (s.extract a b),?_,.str _ _⟩;simp only[execOp,ho];refine eH ?_;simp only[Instr.sliceAt,Instr.slice,Sem.run_bind,run_underlying (hτ.und _ _ ht),hu,Result.andThen,hev,amm,Option.isSome_none,amn,if_false,Sem.run_pure,runB hr (alo _)]
  ·exact hK.elim
 ·
  rename_i e hu;obtain⟨te',ht',hK⟩:=hK;have run:∀{S:Imm} {w:World} {ι:Ix} {ac:Act} {ad:Option Addr} {cap:Nat},(∀x∈o.op.operands.toList,Rep S w ι (ρ x) (ac.eval x))->ac.eval x=.slice ad ln cap->ln≤cap->
   (execOp ac.eval o).run P w=.ok (.value (.slice (if cap=a then ad else ad.map (·.add (a*te'.size))) (b-a) (cap-a))) w:=by
   intro S w ι ac ad cap hr hev hc;simp only[execOp,ho];refine eH ?_;simp only[Instr.sliceAt,Instr.slice,Sem.run_bind,run_underlying (hτ.und _ _ ht),hu,Result.andThen,hev,amm,runB hr hc,bK hτ ht',Sem.run_pure]
  split at hK
  ·rename_i c tk hρ
   rw[aK]at hK;have hsz:=alN hK.1;refine⟨_,_,_,_,hK.2,aX hd λS w ι H' ac M hr ha=>?_⟩;have hx:=hr x (by simp[ho,Op.operands])
   rw[hρ]at hx hln;simp only at hln;subst hln;obtain⟨vx,hev⟩:∃v,ac.eval x=v:=⟨_,rfl⟩;rw[hev]at hx;cases hx with
   |islnil _ _ _ hz=>
    have e1:=run hr (by rw[hev,hz]) qqO
    refine⟨_,e1,?_⟩;have ea:a=0:=qqO;have eb:b=0:=qqO;subst ea;subst eb;simp only[if_true];exact .islnil _ _ _ (by rw[jU _ qqO])
   |isl _ _ _ bk off cap hc hs hh hf ho'=>
    refine⟨_,run hr hev hc,?_⟩;by_cases hca:cap=a
    ·rw[if_pos hca]
     have:b-a=0:=qqO;rw[this];exact lN _ (by rw[jU _ hbl];omega) (.inr ⟨_,_,rfl⟩) _
    ·rw[if_neg hca]
     simp only[aly,fQ,<-hsz];exact o7 hs hh hab hbl qqO _
  ·rename_i k off m hρ
   split at hK
   ·rw[bD]at hK
    obtain⟨ob,hob,hK⟩:=hK;obtain⟨q,xs,eob,hK'⟩:=OU hK;clear hK;have hK:=hK';clear hK';subst eob
    ·rw[aK,alM]at hK
     have e1:=alN hK.1.1;have e2:=alN hK.1.2;subst e1 e2;refine⟨_,_,_,_,hK.2,λS w ι H' ac next Q M hr ha hn hk=>?_⟩;have hx:=hr x (by simp[ho,Op.operands])
     rw[hρ]at hx hln;simp only at hln;subst hln;obtain⟨vx,hev⟩:∃v,ac.eval x=v:=⟨_,rfl⟩;rw[hev]at hx;have hob':=(ha k qqS).trans hob;obtain⟨b0,arr,e0,g1,g2,g3,g4,g5⟩:=M.obj k _ hob';obtain⟨M',T⟩:=M.write (c':=.ints q (xs.take b)) hob' g1 g2 ⟨.refl _,λ_ _=>rfl,g2⟩ (alo _)
      (by simp only[CL.ncell,amh]at g3⊢;omega) (λj hj=>by
       simp only[CL.ncell,amh]at hj;have:=g4 j (by simp only[CL.ncell];omega)
       simpa [CL.get,ami,show j<b by omega]using this)
     cases hx with
     |rslz _ _ _ bk o' hk'=>
      have eb:b=0:=qqO;subst eb;exact cZ hd (run hr hev qqO) (hk _ S w ι M' (.refl _) (.refl _ _) (by simp only[if_true];exact .rslz _ _ _ _ _ hk') T)
     |rsl _ _ _ _ bk cap hk' hc hrd=>
      refine cZ hd (run hr hev hc) (hk _ S w ι M' (.refl _) (.refl _ _) ?_ T);simp only[Nat.sub_zero,amo];split
      ·exact .rsl _ _ _ _ _ _ hk' qqO hrd
      ·simp only[aly,fQ];exact .rsl _ _ _ _ _ _ hk' qqO hrd
   refine⟨_,_,_,_,hK,aX hd λS w ι H' ac M hr ha=>?_⟩;have hx:=hr x (by simp[ho,Op.operands])
   rw[hρ]at hx hln;simp only at hln;subst hln;obtain⟨vx,hev⟩:∃v,ac.eval x=v:=⟨_,rfl⟩;rw[hev]at hx;cases hx with
   |rslz _ _ _ bk o' hk=>
    have e1:=run hr hev qqO;refine⟨_,e1,?_⟩;have ea:a=0:=qqO;have eb:b=0:=qqO;subst ea;subst eb;simp only[if_true];exact .rslz _ _ _ _ _ hk
   |rsl _ _ _ _ bk cap hk hc hrd=>
    refine⟨_,run hr hev hc,?_⟩;by_cases hca:cap=a
    ·rw[if_pos hca]
     have:b-a=0:=qqO;rw[this,hca,alW];exact .rslz _ _ _ _ _ hk
    ·rw[if_neg hca]
     simp only[aly,fQ];exact .rsl _ _ _ _ _ _ hk qqO (λh0 j hj=>hrd qqO j qqO)
  ·rename_i hρ
   refine⟨_,_,_,_,hK,aX hd λS w ι H' ac M hr ha=>?_⟩;have hx:=hr x (by simp[ho,Op.operands])
   rw[hρ]at hx hln;simp only at hln;subst hln;cases hev:ac.eval x<;>rw[hev]at hx<;>cases hx
   refine⟨_,run hr hev (alo _),?_⟩;have ea:a=0:=qqO;have eb:b=0:=qqO;subst ea;subst eb;exact .nils _
  ·exact hK.elim
 ·rename_i m e hu
  obtain⟨te',ht',hK⟩:=hK;have run:∀{S:Imm} {w:World} {ι:Ix} {ac:Act} {bk of:Nat},(∀x∈o.op.operands.toList,Rep S w ι (ρ x) (ac.eval x))->ac.eval x=.pointer (some ⟨bk,of,none⟩)->ln=m->
   (execOp ac.eval o).run P w=.ok (.value (.slice (some (if m=a then⟨bk,of,none⟩else⟨bk,of+a*te'.size,none⟩)) (b-a) (m-a))) w:=by
   intro S w ι ac bk of hr hev hc;subst hc;simp only[execOp,ho];refine eH ?_;simp only[Instr.sliceAt,Sem.run_bind,run_underlying (hτ.und _ _ ht),hu,Result.andThen,hev,Instr.sureAddr,amm,runB hr (alo _),bK hτ ht',Sem.run_pure,fQ]
  split at hK
  ·rename_i k off hρ
   rw[bD]at hK;obtain⟨ob,hob,hK⟩:=hK;split at hK
   ·rename_i c fz
    rw[aK]at hK;obtain⟨hbn,hsz,hK⟩:=hK;have hsz:=alU hsz;refine⟨_,_,_,_,hK,aX hd λS w ι H' ac M hr ha=>?_⟩;have hx:=hr x (by simp[ho,Op.operands])
    rw[hρ]at hx hln;simp only[hu]at hln;cases hev:ac.eval x<;>rw[hev]at hx<;>cases hx
    rename_i bk hk;have hl:=M.lies ((ha k qqS).trans hob) hk;refine⟨_,run hr hev hln,?_⟩;have hms:m≤m*te'.size:=amq _ hsz;split
    ·rename_i hma
     have:b-a=0:=qqO;rw[this,hma,alW];exact .rslz _ _ _ _ _ hk
    ·exact .rsl _ _ _ _ _ _ hk qqO (λh0 j hj=>by have:=(hl j qqO).1;rwa [alO]at this)
   ·exact hK.elim
  ·rename_i c off hρ
   rw[aK,alM]at hK;have h1:=alN hK.2.1.1;have h2:=alN hK.2.1.2;refine⟨_,_,_,_,hK.2.2,aX hd λS w ι H' ac M hr ha=>?_⟩;have hx:=hr x (by simp[ho,Op.operands])
   rw[hρ]at hx hln;simp only[hu]at hln;obtain⟨vx,hev⟩:∃v,ac.eval x=v:=⟨_,rfl⟩;rw[hev]at hx;cases hx with
   |ip _ _ _ bk o' hs hh=>
    refine⟨_,run hr hev hln,?_⟩;have hcn:c.ncell=c.cnt:=by rw[bI,h1,alV]
    have hle:=hK.1;split
    ·have:b-a=0:=qqO
     rw[this];exact lN _ (by rw[jU _ qqO];omega) (.inr ⟨_,_,rfl⟩) _
    ·have:=o7 hs hh (x:=off+a) (y:=off+b) qqO qqO (cap:=m-a) qqO ι
     rw[h1,alV,show off+b-(off+a)=b-a by omega,<-alk]at this
     rw[h2,alV];exact this
  ·exact hK.elim
 ·exact hK.elim
theorem KZ (hτ:bC P τ) {md rf CP YP} {o:Oper} {ρ:Operand->PV} {H:Hp} {n:Nat} {t:TypeId} {x:Operand} {lo hi mx:Option Operand} (ho:o.op=.slice t x lo hi mx) {K:KR}
 (h:opK τ md rf CP YP ρ H n o.dst o.op K):∃v sets accs news,K v sets accs news/\bJ P r o ρ H v sets accs news:=by
 rw[ho]at h;simp only[opK]at h;obtain⟨v,sets,accs,news,hK,hs⟩:=HY (P:=P) (r:=r) hτ ho h;exact⟨v,sets,accs,news,hK,λS w ι H' a next Q M hr ha hn hk=>hs S w ι H' a next Q M (λx hx=>(hr x hx).dropP) ha hn hk⟩
variable {P:Program} {r:Option Nat} {τ:TypeId->Option TE}
theorem Mem.newImm {S:Imm} {w:World} {ι:Ix} {H:Hp} (M:Mem S w ι H) {c:CL} {arr:Array Value} {e:TypeId} (hn:c.ncell≤arr.size)
 (hc:∀j,j<c.ncell->Rep S w noI (c.get j) (arr.getD j undef)):
 ∃S',Mem S' {w with heap:=w.heap.push (.cells arr e)} ι H/\Keeps S w S' {w with heap:=w.heap.push (.cells arr e)}/\
  (∀j,j<c.ncell->S' w.heap.size j)/\(∀j,j<c.ncell->Rep S' {w with heap:=w.heap.push (.cells arr e)} noI (c.get j) (rdv {w with heap:=w.heap.push (.cells arr e)} w.heap.size j))/\
  ∀p,Tr p S w ι H S' {w with heap:=w.heap.push (.cells arr e)} ι H:=by
 let w':World:={w with heap:=w.heap.push (.cells arr e)}
 let S':Imm:=λb j=>S b j∨(b=w.heap.size/\j<c.ncell)
 have hk0:=kG M.imm (w:=w) (.cells arr e);have hkeep:Keeps S w S' w':=⟨λb j h=>⟨.inl h,(hk0.imm b j h).2⟩,hk0.cells⟩;have hnew:∀j,rd w' w.heap.size j=arr[j]? :=λj=>aL (gV w _) j;have hrep:∀j,j<c.ncell->Rep S' w' noI (c.get j) (rdv w' w.heap.size j):=λj hj=>by
  have:=(hc j hj).mono hkeep _ (.refl _);rw[alz]at this;rw[rdv,hnew];exact this
 have hlt:∀k o b,av H k=some o->o.has ι k b->b<w.heap.size:=λk o b ho hb=>(M.obj k o ho).lt hb;refine⟨S',⟨?_,M.liveO,M.liveT,M.dist,?_⟩,hkeep,λj hj=>.inr ⟨rfl,hj⟩,hrep,λp=>⟨iW _ _ (eu _ _),λb hb _=>iQ hb,hkeep,?_,λb h=>.inl h,λk _ b h=>h,λk _ b n h=>⟨b,n,h,.inl ⟨rfl,alo _⟩⟩⟩⟩
 ·intro k o ho
  refine(M.obj k o ho).mono hkeep (.refl _) (iW _ _ (eu _ _)) (λb hb=>iQ (hlt k o b ho hb)) (λ_=>rfl) rfl (λb j hb hs=>?_);rcases hs with h|⟨h,_⟩
  ·exact h
  ·have:=hlt k o b ho hb;omega
 ·intro b j hs
  rcases hs with h|⟨rfl,h⟩
  ·rw[(hkeep.imm b j h).2];exact M.imm b j h
  ·rw[hnew,alv qqO];rfl
 ·intro b j hb hs
  rcases hs with h|⟨h,_⟩
  ·exact .inl h
  ·omega
theorem vU {o:Oper} {ρ:Operand->PV} {H0:Hp} {c:CL} {accs:List Nat} (hd:∀c,o.op≠ .defer c)
 (h:∀(S:Imm) (w:World) (ι:Ix) (H:Hp) (a:Act),Mem S w ι H->(∀x∈o.op.operands.toList,Rep S w ι (ρ x) (a.eval x))->(∀k∈accs,av H k=av H0 k)->
   ∃arr e,(execOp a.eval o).run P w=.ok (.value (.slice (some ⟨w.heap.size,0,none⟩) c.cnt c.cnt)) {w with heap:=w.heap.push (.cells arr e)}/\c.ncell≤arr.size/\(∀j,j<c.ncell->Rep S w noI (c.get j) (arr.getD j undef))):
 bJ P r o ρ H0 (.isl c .full) [] accs []:=by
 intro S w ι H a next Q M hr ha hn hk;obtain⟨arr,e,h1,h2,h3⟩:=h S w ι H a M hr ha;obtain⟨S',M',K,hs,hh,T⟩:=M.newImm h2 h3 (e:=e);refine cZ hd h1 (hk _ S' _ ι M' (.refl _) K ?_ T);exact .isl _ _ _ _ _ _ (alo _) (λj hj=>by rw[alO];exact hs j hj) (λj hj=>by rw[alO];exact hh j hj) (λ_=>rfl) (λk e=>by cases e)
theorem jE {p q:PV} (h:iL p=some q) {S:Imm} {w:World} {ι:Ix} {v:Value} (hr:Rep S w ι p v):Rep S w noI q v:=by
 cases p with
 |isl c t=>
  have key:∀t',(t'=.full->t=.full)->(∀k,t'≠ .own k)->Rep S w noI (.isl c t') v:=by
   intro t' h1 h2;cases hr with
   |islnil _ _ _ hc=>exact .islnil _ _ _ hc
   |isl _ _ _ b off cap hc hs hh hf ho=>exact .isl _ _ _ _ _ _ hc hs hh (λe=>hf (h1 e)) (λk e=>absurd e (h2 k))
  cases t<;>cases h<;>exact key _ qqS qqS
 |ip c o=>cases h;cases hr with|ip _ _ _ b o' hs hh=>exact .ip _ _ _ _ _ hs hh
 |nnl c=>cases h;cases hr with
  |nnl0 _ _ h=>exact .nnl0 _ _ h
  |nnl1 _ _ b off cap h0 hc hs hh=>exact .nnl1 _ _ _ _ _ h0 hc hs hh
 |fn f us vs=>
  simp only[iL]at h;split at h
  ·rename_i h1
   split at h
   ·rename_i h2
    cases h
    cases hr with
    |fn _ _ _ _ us' vs' hk hl hu hv=>exact .fn _ _ _ _ _ _ hk hl (λi hi=>jC h1 i hi (hu i hi)) (λi hi=>jC h2 i hi (hv i hi))
   ·cases h
  ·cases h
 |ipe c i j=>cases h;cases hr with|ipe _ _ _ _ b o' hs hh=>exact .ipe _ _ _ _ _ _ hs hh
 |_=>first|(cases h;cases hr;constructor)|(simp[iL]at h)
theorem kX:∀{ps qs:List PV},l8 ps=some qs->qs.length=ps.length/\∀i,i<ps.length->∀{S:Imm} {w:World} {ι:Ix} {v:Value},Rep S w ι (aG ps i) v->Rep S w noI (aG qs i) v:=by
 intro ps;induction ps with
 |nil=>intro qs h;simp[l8]at h;subst h;exact⟨rfl,λi hi=>by simp at hi⟩
 |cons p ps ih=>
  intro qs h;unfold l8 at h;split at h
  ·rename_i y hy
   split at h
   ·rename_i ys hys
    cases h
    obtain⟨h1,h2⟩:=ih hys;refine⟨by simp[h1],λi hi=>?_⟩
    cases i with
    |zero=>intro S w ι v hr;exact jE hy hr
    |succ i=>exact h2 i (by simpa using hi)
   ·cases h
  ·cases h
theorem vV {k:IntKind}:∀{ps:List PV} {xs:List Int},rP k ps=some xs->xs.length=ps.length/\∀i,i<ps.length->∀{S:Imm} {w:World} {ι:Ix} {v:Value},Rep S w ι (aG ps i) v->Rep S w noI (.int k (xs.getD i 0)) v:=by
 intro ps;induction ps with
 |nil=>intro qs h;simp[rP]at h;subst h;exact⟨rfl,λi hi=>by simp at hi⟩
 |cons p ps ih=>
  intro qs h;unfold rP at h;split at h
  ·rename_i e;cases e
  ·rename_i k' n r e
   cases e
   split at h
   ·rename_i hk
    have hk:=of_decide_eq_true hk;subst hk;split at h
    ·rename_i ys hys
     cases h
     obtain⟨h1,h2⟩:=ih hys;refine⟨by simp[h1],λi hi=>?_⟩
     cases i with
     |zero=>intro S w ι v hr;cases hr;exact .int _ _ _
     |succ i=>intro S w ι v hr;simpa using h2 i (by simpa using hi) hr
    ·cases h
   ·cases h
  ·cases h
theorem vK:∀{ps:List PV} {xs:List Bool},mX ps=some xs->xs.length=ps.length/\∀i,i<ps.length->∀{S:Imm} {w:World} {ι:Ix} {v:Value},Rep S w ι (aG ps i) v->Rep S w noI (.bp (xs.getD i false)) v:=by
 intro ps;induction ps with
 |nil=>intro qs h;simp[mX]at h;subst h;exact⟨rfl,λi hi=>by simp at hi⟩
 |cons p ps ih=>
  intro qs h;unfold mX at h;split at h
  ·rename_i e;cases e
  ·rename_i n r e
   cases e
   split at h
   ·rename_i ys hys
    cases h
    obtain⟨h1,h2⟩:=ih hys;refine⟨by simp[h1],λi hi=>?_⟩
    cases i with
    |zero=>intro S w ι v hr;cases hr;exact .bp _ _
    |succ i=>intro S w ι v hr;simpa using h2 i (by simpa using hi) hr
   ·cases h
  ·rename_i n r e
   cases e
   split at h
   ·rename_i ys hys
    cases h
    obtain⟨h1,h2⟩:=ih hys;refine⟨by simp[h1],λi hi=>?_⟩
    cases i with
    |zero=>intro S w ι v hr;cases hr;exact .bp _ _
    |succ i=>intro S w ι v hr;simpa using h2 i (by simpa using hi) hr
   ·cases h
  ·cases h
theorem HZ:∀{ps:List PV} {xs:List ByteArray},strsOf ps=some xs->xs.length=ps.length/\∀i,i<ps.length->∀{S:Imm} {w:World} {ι:Ix} {v:Value},Rep S w ι (aG ps i) v->Rep S w noI (.str (xs.getD i .empty)) v:=by
 intro ps;induction ps with
 |nil=>intro qs h;simp[strsOf]at h;subst h;exact⟨rfl,λi hi=>by simp at hi⟩
 |cons p ps ih=>
  intro qs h;unfold strsOf at h;split at h
  ·rename_i e;cases e
  ·rename_i n r e
   cases e
   split at h
   ·rename_i ys hys
    cases h
    obtain⟨h1,h2⟩:=ih hys;refine⟨by simp[h1],λi hi=>?_⟩
    cases i with
    |zero=>intro S w ι v hr;cases hr;exact .str _ _
    |succ i=>intro S w ι v hr;simpa using h2 i (by simpa using hi) hr
   ·cases h
  ·cases h
theorem Rep.toNoI {S:Imm} {w:World} {ι:Ix} {c:CL} {v:Value} (h:Rep S w ι (.isl c .none) v):Rep S w noI (.isl c .none) v:=jE (p:=.isl c .none) rfl h
theorem H6 {k:IntKind}:∀{ps:List PV} {xs:List (List Int)},rowsOf k ps=some xs->xs.length=ps.length/\∀i,i<ps.length->∀{S:Imm} {w:World} {ι:Ix} {v:Value},Rep S w ι (aG ps i) v->Rep S w noI (.isl (.ints k (xs.getD i [])) .none) v:=by
 intro ps;induction ps with
 |nil=>intro qs h;simp[rowsOf]at h;subst h;exact⟨rfl,λi hi=>by simp at hi⟩
 |cons p ps ih=>
  intro qs h;unfold rowsOf at h;split at h
  ·rename_i e;cases e
  ·rename_i k' n t r e
   cases e
   split at h
   ·rename_i hk
    have hk:=of_decide_eq_true hk;subst hk;split at h
    ·rename_i ys hys
     cases h
     obtain⟨h1,h2⟩:=ih hys;refine⟨by simp[h1],λi hi=>?_⟩
     cases i with
     |zero=>intro S w ι v hr;exact hr.drop.toNoI
     |succ i=>intro S w ι v hr;simpa using h2 i (by simpa using hi) hr
    ·cases h
   ·cases h
  ·rename_i r e
   cases e
   split at h
   ·rename_i ys hys
    cases h
    obtain⟨h1,h2⟩:=ih hys;refine⟨by simp[h1],λi hi=>?_⟩
    cases i with
    |zero=>intro S w ι v hr;cases hr;exact .islnil _ _ _ rfl
    |succ i=>intro S w ι v hr;simpa using h2 i (by simpa using hi) hr
   ·cases h
  ·cases h
theorem Pd {z:Value} {els:List PV} {K:CL->Prop} (h:W9 z els K):∃c,K c/\c.esz=1/\c.cnt=els.length/\
 ∀i,i<els.length->∀{S:Imm} {w:World} {ι:Ix} {v:Value},Rep S w ι (aG els i) v->Rep S w noI (c.get i) v:=by
 have pvc:(match l8 els with|some l=>K (.pv l)|none=>False)->∃c,K c/\c.esz=1/\c.cnt=els.length/\
  ∀i,i<els.length->∀{S:Imm} {w:World} {ι:Ix} {v:Value},Rep S w ι (aG els i) v->Rep S w noI (c.get i) v:=by
  intro h;split at h
  ·rename_i l hl
   obtain⟨h1,h2⟩:=kX hl;exact⟨_,h,rfl,h1,h2⟩
  ·exact h.elim
 unfold W9 at h;split at h
 ·split at h
  ·rename_i l hl
   obtain⟨h1,h2⟩:=vV hl;exact⟨_,h,rfl,h1,h2⟩
  ·exact h.elim
 ·split at h
  ·rename_i l hl
   obtain⟨h1,h2⟩:=vK hl;exact⟨_,h,rfl,h1,h2⟩
  ·exact h.elim
 ·split at h
  ·rename_i l hl
   obtain⟨h1,h2⟩:=HZ hl;exact⟨_,h,rfl,h1,h2⟩
  ·exact h.elim
 ·split at h
  ·rename_i l hl
   obtain⟨h1,h2⟩:=H6 hl;exact⟨_,h,rfl,h1,h2⟩
  ·exact pvc h
 ·exact pvc h
theorem zH (n:Nat):(oG n).length=n:=by
 induction n with
 |zero=>rfl
 |succ n ih=>simp[oG,ih]
theorem H7 (n i:Nat):aG (oG n) i=.any:=by
 induction n generalizing i with
 |zero=>rfl
 |succ n ih=>cases i with
  |zero=>rfl
  |succ i=>exact ih i
theorem oK (m:Nat):∀(n:Nat) (l:List PV),(chunks m n l).length=n:=by
 intro n;induction n with
 |zero=>intro l;rfl
 |succ n ih=>intro l;simp[chunks,ih]
theorem Pe (m:Nat):∀(n:Nat) (l:List PV) (i q:Nat),i<n->q<m->aG ((chunks m n l).getD i []) q=aG l (i*m+q):=by
 intro n;induction n with
 |zero=>intro l i q h;omega
 |succ n ih=>
  intro l i q h hq;cases i with
  |zero=>simp only[chunks,List.getD_cons_zero,amo,alO];exact ER _ _ _ hq
  |succ i=>
   simp only[chunks,List.getD_cons_succ];rw[ih _ i q qqO hq,EP];congr 1;rw[al3];omega
theorem S9 {l:List PV} {i:Nat} (h:l.length≤i):aG l i=.any:=by
 induction l generalizing i with
 |nil=>rfl
 |cons x xs ih=>cases i with
  |zero=>simp at h
  |succ i=>exact ih (by simpa using h)
theorem H8:∀(rs:List (List PV)),fJ rs->∀i,iL.inlF (rs.getD i [])=true:=by
 intro rs;induction rs with
 |nil=>intro _ i;simp[iL.inlF]
 |cons r rs ih=>
  intro h i;cases i with
  |zero=>exact h.1
  |succ i=>simpa using ih h.2 i
theorem K4 {o:AO} {m:Nat} {K:RC->Prop} (h:OT o m K):∃c rc,o=.cells c false/\c.cnt=m/\0<m/\(∀b,rc.at b=c)/\
 (∀j,j<c.ncell->∀{S:Imm} {w:World} {ι:Ix} {v:Value},Rep S w ι (c.get j) v->Rep S w noI (c.get j) v)/\K rc:=by
 unfold OT at h;split at h
 ·split at h
  ·exact h.elim
  ·split at h
   ·exact⟨_,_,rfl,h.1.1.symm,h.1.2,λ_=>rfl,λj _ S w ι v hv=>by cases hv;exact .int _ _ _,h.2⟩
   ·rename_i e rs
    refine⟨_,_,rfl,h.1.1.symm,h.1.2.1,λ_=>rfl,λj hj S w ι v hv=>?_,h.2⟩;simp only[CL.get]at hv⊢;by_cases hl:j % e<(rs.getD (j / e) []).length
    ·exact jC (H8 _ h.1.2.2 _) _ hl hv
    ·rw[S9 qqO];exact .any _ _
   ·exact h.elim
 ·exact h.elim
theorem Mem.newImmF {S:Imm} {w w':World} {ι:Ix} {H:Hp} (M:Mem S w ι H) {c:CL} {arr:Array Value} {e:TypeId} {fz:Nat × Nat} (hn:c.ncell≤arr.size)
 (hc:∀j,j<c.ncell->Rep S w noI (c.get j) (arr.getD j undef)) (hh:w'.heap=w.heap.push (.cells arr e fz)) (hos:w'.os=w.os) (htp:w'.tape=w.tape) (hou:w'.output=w.output):
 ∃S',Mem S' w' ι H/\Keeps S w S' w'/\(∀j,j<c.ncell->S' w.heap.size j)/\(∀j,j<c.ncell->Rep S' w' noI (c.get j) (rdv w' w.heap.size j))/\∀p,Tr p S w ι H S' w' ι H:=by
 let S':Imm:=λb j=>S b j∨(b=w.heap.size/\j<c.ncell)
 have hold:∀b,b<w.heap.size->w'.heap[b]? =w.heap[b]? :=λb hb=>by rw[hh,alu,if_neg qqO]
 have hnw:w'.heap[w.heap.size]? =some (.cells arr e fz):=by rw[hh];simp
 have hbel:Bel w w':=⟨hos,htp,hou,by rw[hh];simp,λb hb=>gM (hold b hb)⟩
 have hrd:∀b j,(rd w b j).isSome->rd w' b j=rd w b j:=λb j h=>dH (hold b (eZ h)) j;have hkeep:Keeps S w S' w':=⟨λb j h=>⟨.inl h,hrd b j (M.imm b j h)⟩,λb j h=>by rw[hrd b j h];exact h⟩
 have hnew:∀j,rd w' w.heap.size j=arr[j]? :=λj=>aL hnw j;have hrep:∀j,j<c.ncell->Rep S' w' noI (c.get j) (rdv w' w.heap.size j):=λj hj=>by
  have:=(hc j hj).mono hkeep _ (.refl _);rw[alz]at this;rw[rdv,hnew];exact this
 have hlt:∀k o b,av H k=some o->o.has ι k b->b<w.heap.size:=λk o b ho hb=>(M.obj k o ho).lt hb;refine⟨S',⟨?_,M.liveO,M.liveT,M.dist,?_⟩,hkeep,λj hj=>.inr ⟨rfl,hj⟩,hrep,λp=>⟨hbel,λb hb _=>hold b hb,hkeep,?_,λb h=>.inl h,λk _ b h=>h,λk _ b n h=>⟨b,n,h,.inl ⟨rfl,alo _⟩⟩⟩⟩
 ·intro k o ho
  refine(M.obj k o ho).mono hkeep (.refl _) hbel (λb hb=>hold b (hlt k o b ho hb)) (λ_=>rfl) rfl (λb j hb hs=>?_);rcases hs with h|⟨h,_⟩
  ·exact h
  ·have:=hlt k o b ho hb;omega
 ·intro b j hs
  rcases hs with h|⟨rfl,h⟩
  ·rw[(hkeep.imm b j h).2];exact M.imm b j h
  ·rw[hnew,alv qqO];rfl
 ·intro b j hb hs
  rcases hs with h|⟨h,_⟩
  ·exact .inl h
  ·omega
theorem K5 (hτ:bC P τ) {md rf CP YP} {o:Oper} {ρ:Operand->PV} {H:Hp} {n:Nat} {s d:TypeId} {x:Operand} (ho:o.op=.convert s d x) {K:KR}
 (h:opK τ md rf CP YP ρ H n o.dst o.op K):∃v sets accs news,K v sets accs news/\bJ P r o ρ H v sets accs news:=by
 by_cases hno:∀ts td,τ s=some ts->τ d=some td->cvN τ ts td≠1
 ·exact O8 hτ ho hno h
 rw[ho]at h;simp only[opK,bZ]at h;obtain⟨ts,hts,td,htd,h⟩:=h;have h1:cvN τ ts td=1:=amr.1 λe=>hno λts' td' a b=>by
  rw[hts]at a;rw[htd]at b;cases a;cases b;exact e
 rw[h1]at h;simp only at h;obtain⟨e,te,hd,he,hu⟩:=ab1 h1;split at h
 ·rename_i b hb
  refine⟨_,_,_,_,h,λS w ι H' a next Q M hr ha hn hk=>?_⟩;have hx:=hr x (by simp[ho,Op.operands])
  rw[hb]at hx;have hv:a.eval x=.string b:=by generalize a.eval x=v at hx;cases hx;rfl
  have hrun:=Lib.run_convert_string_bytes (P:=P) w s d e b (hτ.und s ts hts) ((hτ.und d td htd).trans (congrArg some hd)) ((hτ.und e te he).trans (congrArg some hu));have hlen:(zD b).length=b.size:=by unfold zD;rw[List.length_map,alY];rfl
  have hheap:(Lib.bytesWorld w e b).heap=w.heap.push (.cells (Lib.bytesCells w e b) e ((Lib.bytesCells w e b).size,(Lib.bytesCells w e b).size+1)):=by
   apply Array.ext_getElem?;intro j;rcases Nat.lt_trichotomy j w.heap.size with hj|hj|hj
   ·rw[Lib.bytesWorld_at_old w e b j hj,alu,if_neg qqO]
   ·subst hj;rw[Lib.bytesWorld_at_new];simp
   ·rw[alr (by rw[Lib.bytesWorld_size];omega),alr (by simp;omega)]
  have hg:=grownCap_ge w b.size 0 e;obtain⟨S',M',K',hs',hh',T'⟩:=M.newImmF (c:=.ints .u8 (zD b)) (w':=Lib.bytesWorld w e b) (arr:=Lib.bytesCells w e b) (by simp only[CL.ncell,hlen,Lib.bytesCells];rw[ams,amt];exact Nat.le_add_right b.data.size _) (λj hj=>by
   simp only[CL.ncell,hlen]at hj;have:(Lib.bytesCells w e b).getD j undef=.int .u8 ((zD b).getD j 0):=by
    have hj':j<b.data.size:=hj;have e1:b.data[j]? =some b.data[j]:=alv hj';rw[alz,Lib.bytesCells,Array.getElem?_append,amt,if_pos hj',Array.getElem?_map,e1,alC,zD,List.getElem?_map,Array.getElem?_toList,e1];rfl
   rw[this];exact .int _ _ _) hheap (by unfold Lib.bytesWorld World.freeze;split<;>rfl) (by unfold Lib.bytesWorld World.freeze;split<;>rfl) (by unfold Lib.bytesWorld World.freeze;split<;>rfl)
  refine cZ (λc e=>by rw[ho]at e;cases e) (w':=Lib.bytesWorld w e b) (val:=.slice (some ⟨w.heap.size,0,none⟩) b.size (grownCap w b.size 0 e)) (by simp only[execOp,ho];rw[hv];exact eH hrun) (hk _ S' _ ι M' (.refl _) K' ?_ T')
  have:=Rep.isl (S:=S') (w:=Lib.bytesWorld w e b) ι (.ints .u8 (zD b)) .none w.heap.size 0 (grownCap w b.size 0 e) (by simp only[CL.cnt,hlen];exact hg) (λj hj=>by rw[alO];exact hs' j hj) (λj hj=>by rw[alO];exact hh' j hj) (λe=>by cases e) (λk e=>by cases e)
  simpa only[CL.cnt,hlen]using this
 ·exact h.elim
theorem zI (hτ:bC P τ) {md rf CP YP} {o:Oper} {ρ:Operand->PV} {H:Hp} {n:Nat} {t:TypeId} {len:Nat} {parts:Array (Nat × Operand)} (ho:o.op=.buildSlice t len parts) {K:KR}
 (h:opK τ md rf CP YP ρ H n o.dst o.op K):∃v sets accs news,K v sets accs news/\bJ P r o ρ H v sets accs news:=by
 rw[ho]at h;simp only[opK,bZ,aK,SG]at h;obtain⟨te,ht,h⟩:=h;have hd:∀c,o.op≠ .defer c:=λc e=>by rw[ho]at e;cases e
 split at h
 ·rename_i e hu
  obtain⟨te',ht',hsz,h⟩:=h;have hsz:=alU hsz;split at h
  ·rename_i cs hcs
   have run:∀{S:Imm} {w:World} {ι:Ix} {a:Act},(∀x∈o.op.operands.toList,Rep S w ι (ρ x) (a.eval x))->∃arr,bH S w ι cs arr/\cs.length=len*te'.size/\
    (execOp a.eval o).run P w=.ok (.value (.slice (some ⟨w.heap.size,0,none⟩) len len)) {w with heap:=w.heap.push (.cells arr e)}:=by
    intro S w ι a hr;have hparts:∀x∈parts.toList,Rep S w ι (ρ x.2) (a.eval x.2):=by
     intro x hx;exact hr x.2 (by simp[ho,Op.operands];exact⟨x.1,by simpa using hx⟩)
    have hfill:∀zc:Array Value,zc.size=len*te'.size->∃vs',Instr.fill (λi=>some (i*te'.size,te'.size)) zc (parts.map λx=>(x.1,a.eval x.2)).toList=some vs'/\bH S w ι cs vs':=by
     intro zc hzs;obtain⟨vs',h1,h2⟩:=tJ (S:=S) (w:=w) (ι:=ι) (ρ:=ρ) (a:=a) (place:=λi=>some (i*te'.size,te'.size)) (F:=λl ps=>jZ l te'.size ps) (λl=>by simp[jZ])
      (λl i v rest cs hh=>tK l i v rest cs hh) parts.toList _ cs zc hparts hcs ⟨by rw[zH,hzs],λi hi=>by rw[H7];exact .any _ _⟩
     exact⟨vs',by simpa using h1,h2⟩
    have hlen:cs.length=len*te'.size:=by
     have:∀(ps:List (Nat × PV)) (l cs:List PV),jZ l te'.size ps=some cs->cs.length=l.length:=by
      intro ps;induction ps with
      |nil=>intro l cs hh;simp[jZ]at hh;rw[hh]
      |cons x xs ih=>
       intro l cs hh;obtain⟨i,v⟩:=x;obtain⟨o',sz,ds,_,_,_,h4,_⟩:=tK (S:=S) (w:=w) (ι:=ι) l i v xs cs hh;rw[ih _ _ h4,mh]
     rw[this _ _ _ hcs,zH]
    have pre:∀X,(∀{w':World},(Instr.buildSlice t len (parts.map λx=>(x.1,a.eval x.2))).run P w=.ok X w'->(execOp a.eval o).run P w=.ok (.value X) w'):=by
     intro X w' hX;simp only[execOp,ho];exact eH hX
    by_cases h0:len*te'.size=0
    ·obtain⟨vs',h1,h2⟩:=hfill ((amu (len*te'.size)).map λx=>(#[]:Array Value)[x % (#[]:Array Value).size]!) qqS
     refine⟨vs',h2,hlen,pre _ ?_⟩;simp only[Instr.buildSlice,Sem.run_bind,run_underlying (hτ.und _ _ ht),hu,Result.andThen,bK hτ ht'];rw[if_neg qqO,Sem.run_ite,if_pos h0];simp only[Sem.run_bind,Sem.run_pure,Result.andThen,h1];simp[newRow,Result.andThen]
    ·obtain⟨vs',h1,h2⟩:=hfill ((amu (len*te'.size)).map λx=>te'.zero.cells[x % te'.zero.cells.size]!) qqS
     refine⟨vs',h2,hlen,pre _ ?_⟩;simp only[Instr.buildSlice,Sem.run_bind,run_underlying (hτ.und _ _ ht),hu,Result.andThen,bK hτ ht'];rw[if_neg qqO,Sem.run_ite,if_neg h0];simp only[Sem.run_bind,Sem.run_pure,Result.andThen,iw hτ ht',h1];simp[newRow,Result.andThen]
   split at h
   ·simp only[aK,alM]at h
    obtain⟨⟨es,el⟩,h⟩:=h;have es:=alN es;have el:=alN el;subst el;unfold afW at h;split at h
    ·rename_i x
     split at h
     ·rw[bW]at h
      refine⟨_,_,_,_,h.2,?_⟩;intro S w ι H' a' next Q M hr ha hn hk;have hnn:=hn n qqS;obtain⟨arr,h1,h2,h3⟩:=run hr;have h0:=h1.2 0 qqS;simp only[aG]at h0;obtain⟨x0,hx0⟩:∃x0,arr.getD 0 undef=x0:=⟨_,rfl⟩;rw[hx0]at h0;have hsz1:arr.size=1:=by have:=h1.1;simp at this;omega
      cases h0
      obtain⟨w',hw'⟩:∃w':World,w'={w with heap:=w.heap.push (.cells arr e)}:=⟨_,rfl⟩;rw[<-hw']at h3;have hheap:w'.heap=w.heap.push (.cells arr e):=by rw[hw']
      have hbelow:Bel w w':=by rw[hw'];exact iW _ _ (eu _ _)
      obtain⟨X,M',le,K',T⟩:=M.qNil hnn (arr:=arr) (e:=e) qqO hx0 hheap hbelow (λ_=>.pv []);have hio:(ι.setm n w.heap.size X).o n=some w.heap.size:=by simp[Ix.setm]
      refine cZ hd h3 (hk _ S w' _ M' le K' (.rsl _ _ _ _ _ _ hio (alo _) (λ_ j hj=>?_)) T);have hat:w'.heap[w.heap.size]? =some (.cells arr e (0,0)):=by rw[hheap];simp
      rw[aL hat,alv qqO];rfl
     ·obtain⟨a,c,od,h,hod,hox,hoT,hsrc⟩:=vS h
      rw[bW]at h;refine⟨_,_,_,_,h.2,?_⟩;intro S w ι H' a' next Q M hr ha hn hk;have hnn:=hn n qqS;have hod':=(ha a qqS).trans hod;obtain⟨arr,h1,h2,h3⟩:=run hr;have h0:=h1.2 0 qqS;simp only[aG]at h0;have hsz1:arr.size=1:=by have:=h1.1;simp at this;omega
      obtain⟨ba,cap,e1,e2,e3,e4,e5,e6,e7⟩:=hsrc M hod' h0;obtain⟨w',hw'⟩:∃w':World,w'={w with heap:=w.heap.push (.cells arr e)}:=⟨_,rfl⟩;rw[<-hw']at h3;have hheap:w'.heap=w.heap.push (.cells arr e):=by rw[hw']
      have hbelow:Bel w w':=by rw[hw'];exact iW _ _ (eu _ _)
      obtain⟨X,M',le,K',T⟩:=M.qOne hnn hod' hox hoT e2 e3 e4 e5 e6 e7 (arr:=arr) (e:=e) qqO e1 hheap hbelow;have hio:(ι.setm n w.heap.size X).o n=some w.heap.size:=by simp[Ix.setm]
      refine cZ hd h3 (hk _ S w' _ M' le K' (.rsl _ _ _ _ _ _ hio (alo _) (λ_ j hj=>?_)) T);have hat:w'.heap[w.heap.size]? =some (.cells arr e (0,0)):=by rw[hheap];simp
      rw[aL hat,alv qqO];rfl
    ·exact h.elim
   split at h
   ·rename_i a m hrl
    have hcs1:cs=[.rsl a 0 m]:=by
     unfold SL at hrl;split at hrl
     ·split at hrl
      ·split at hrl
       ·cases hrl;rfl
       ·cases hrl
      ·cases hrl
     ·cases hrl
    rw[bD,alM]at h;obtain⟨⟨es,el⟩,ob,hob,h⟩:=h;have es:=alN es;have el:=alN el;subst el;obtain⟨c,rc,hobc,hm,hm0,hrc,hno,h⟩:=K4 h;rw[bW]at h;refine⟨_,_,_,_,h.2,?_⟩;intro S w ι H' a' next Q M hr ha hn hk;have hob':=(ha a qqS).trans (hob.trans (by rw[hobc]))
    have hnn:=hn n qqS;obtain⟨arr,h1,h2,h3⟩:=run hr;rw[hcs1]at h1 h2;have h0:=h1.2 0 qqS;simp only[aG]at h0;obtain⟨x0,hx0⟩:∃x0,arr.getD 0 undef=x0:=⟨_,rfl⟩;rw[hx0]at h0;have hsz1:arr.size=1:=by have:=h1.1;simp at this;omega
    cases h0 with
    |rslz=>omega
    |rsl _ _ _ _ b cap hkb hc hrd=>
     have hw2:∃w':World,w'={w with heap:=w.heap.push (.cells arr e)}:=⟨_,rfl⟩;obtain⟨w',hw'⟩:=hw2;rw[<-hw']at h3;have hheap:w'.heap=w.heap.push (.cells arr e):=by rw[hw']
     have hbelow:Bel w w':=by rw[hw'];exact iW _ _ (eu _ _)
     obtain⟨X,M',le,K',T⟩:=M.absorb hob' hnn hkb (rc:=rc) hrc (λj hj v hv=>hno j hj hv) (arr:=arr) (e:=e) qqO (cap:=cap) qqO (by rw[hx0,hm]) hheap hbelow
     have hio:(ι.setm n w.heap.size X).o n=some w.heap.size:=by simp[Ix.setm]
     refine cZ hd h3 (hk _ S w' _ M' le K' (.rsl _ _ _ _ _ _ hio (alo _) (λ_ j hj=>?_)) T);have hat:w'.heap[w.heap.size]? =some (.cells arr e (0,0)):=by rw[hheap];simp
     rw[aL hat,alv qqO];rfl
   split at h
   ·split at h
    ·rename_i ds hds
     obtain⟨i1,i2⟩:=kX hds;have hm:=alU h.1;have hrec:∀{S:Imm} {w:World} {ι:Ix} {arr:Array Value},bH S w ι cs arr->cs.length=len*te'.size->∀j,j<(CL.recs te'.size (chunks te'.size len ds)).ncell->
      Rep S w noI ((CL.recs te'.size (chunks te'.size len ds)).get j) (arr.getD j undef):=by
      intro S w ι arr ha hl j hj;simp only[CL.ncell,oK]at hj;have hq:j % te'.size<te'.size:=al8 _ hm;have hd':j / te'.size<len:=by rw[al6 hm];exact hj
      simp only[CL.get];rw[Pe _ _ _ _ _ hd' hq,Nat.div_add_mod'];exact i2 j qqO (ha.2 j qqO)
     have h:=h.2;split at h
     ·rw[bW]at h
      refine⟨_,_,_,_,h.2,j6 hd λS w ι H' a M hr ha=>?_⟩;obtain⟨arr,h1,h2,h3⟩:=run hr;have e1:=h1.1;exact⟨_,arr,e,h3,by simp[CL.ncell,oK];omega,λj hj=>(hrec h1 h2 j hj).up ι,λS' w' ι' hi hw=>.rsl _ _ _ _ _ _ hi (alo _) (λ_ j hj=>by
       have:=amq len hm;rw[aL hw,alv qqO];rfl)⟩
     ·refine⟨_,_,_,_,h,vU hd λS w ι H' a M hr ha=>?_⟩
      obtain⟨arr,h1,h2,h3⟩:=run hr;have e1:=h1.1;exact⟨arr,e,by simpa [CL.cnt,oK]using h3,by simp[CL.ncell,oK];omega,hrec h1 h2⟩
    ·exact h.elim
   ·obtain⟨c,h,c1,c2,c3⟩:=Pd h
    have hm:=alN h.1;have hcn:c.ncell=cs.length:=by rw[bI,c1,c2,alV]
    have h:=h.2;split at h
    ·rw[bW]at h
     refine⟨_,_,_,_,h.2,j6 hd λS w ι H' a M hr ha=>?_⟩;obtain⟨arr,h1,h2,h3⟩:=run hr;have e1:=h1.1;exact⟨_,arr,e,h3,qqO,λj hj=>(c3 j qqO (h1.2 j qqO)).up ι,λS' w' ι' hi hw=>.rsl _ _ _ _ _ _ hi (alo _) (λ_ j hj=>by
      rw[hm,alV]at h2;rw[aL hw,alv qqO];rfl)⟩
    ·refine⟨_,_,_,_,h,vU hd λS w ι H' a M hr ha=>?_⟩
     obtain⟨arr,h1,h2,h3⟩:=run hr;have e1:=h1.1;have e2:c.cnt=len:=by rw[c2,h2,hm,alV]
     exact⟨arr,e,by rw[e2];exact h3,qqO,λj hj=>c3 j qqO (h1.2 j qqO)⟩
  ·exact h.elim
 ·exact h.elim
variable {P:Program} {r:Option Nat} {τ:TypeId->Option TE}
theorem dx {w:World} {b off n size len cap:Nat} (h:∀j,j<n*size->(rd w b (off+j)).isSome):
 (Builtin.firstCells size n (.slice (some ⟨b,off,none⟩) len cap)).run P w=.ok ((alA (n*size)).map λj=>rdv w b (off+j)).toArray w:=by
 simp only[Builtin.firstCells];exact run_loadCells P h
theorem mQ {w:World} {a:Option Addr} {size len cap:Nat}:(Builtin.firstCells size 0 (.slice a len cap)).run P w=.ok #[] w:=by
 cases a with
 |none=>rfl
 |some a=>simp only[Builtin.firstCells,amo];rfl
theorem run_firstCells_none {w:World} {n size len cap:Nat}:(Builtin.firstCells size n (.slice none len cap)).run P w=.ok #[] w:=rfl
theorem Ta (n:Nat) (c:Nat) (h:c<n):Builtin.growBy n 4 c≤3*n+2000:=by
 simp only[Builtin.growBy];split
 ·omega
 ·split
  ·omega
  ·split
   ·omega
   ·split<;>omega
theorem Bp {n c:Nat} (h:c<n):Builtin.nextslicecap n c≤3*n+2000:=by
 unfold Builtin.nextslicecap;split
 ·omega
 ·split
  ·omega
  ·exact Ta n c h
theorem run_append_grow (hτ:bC P τ) {t u ty e:TypeId} {tt tu te:TE} (ht:τ t=some tt) (hu:τ u=some tu) (he:τ e=some te) (hd:tt.und=.slice e) {e':TypeId} (hd':tu.und=.slice e') {w:World}
 {base:Option Addr} {sLen sCap n:Nat} {xb:Option Addr} {xc:Nat} (hgrow:sCap<sLen+n) (hbd:sLen+n≤1073741824) (hby:te.bytes≤65536) {old new:Array Value}
 (hold:(Builtin.firstCells te.size sLen (.slice base sLen sCap)).run P {w with drawn:=w.drawn+1}=.ok old {w with drawn:=w.drawn+1})
 (hnew:(Builtin.firstCells te.size n (.slice xb n xc)).run P {w with drawn:=w.drawn+1}=.ok new {w with drawn:=w.drawn+1}):
 ∃cap',sLen+n≤cap'/\(Builtin.append_ #[t,u] ty #[.slice base sLen sCap,.slice xb n xc]).run P w=
  .ok (.slice (some ⟨w.heap.size,0,none⟩) (sLen+n) cap') {({w with drawn:=w.drawn+1}:World)with heap:=w.heap.push (.cells (old++new++Builtin.zeroCells te.zero.cells (cap'-(sLen+n))) e)}:=by
 obtain⟨i,hi,hz,hs,hb⟩:=jO hτ he w;obtain⟨i2,hi2,hz2,hs2,hb2⟩:=jO hτ he {w with drawn:=w.drawn+1};have hcap:=Bp hgrow;refine⟨(Question.appendCap (sLen+n) sCap e).cut (w.tape w.drawn (.appendCap (sLen+n) sCap e)),by simp[Question.cut],?_⟩
 simp only[Builtin.append_,amv,amw,amx,Sem.run_bind,run_underlying (hτ.und _ _ ht),hd,Result.andThen,bK hτ he,run_underlying (hτ.und _ _ hu),hd',Sem.run_pure,amn,if_false,Builtin.lenOf];simp only[ame,if_true];rw[Sem.run_ite,if_neg qqO];simp only[Sem.run_bind,hi,Result.andThen,hb];rw[Sem.run_ite,if_neg (by simp[IntKind.max,IntKind.signed,IntKind.bits];omega)]
 simp only[Sem.run_bind,Sem.run_pure,Result.andThen,hi,hb];rw[Sem.run_ite,if_neg (by
  have:Builtin.nextslicecap (sLen+n) sCap*te.bytes≤3221227472*65536:=amy qqO hby;omega)]
 simp only[Sem.run_bind,run_choose,Question.forced,amn,if_false,Result.andThen,hi2,hb2,run_askRoom,hold,hnew,ame,if_true,iw hτ he,newRow,run_newObj,Sem.run_pure]
theorem Bq (hτ:bC P τ) {t u ty e:TypeId} {tt tu te:TE} (ht:τ t=some tt) (hu:τ u=some tu) (he:τ e=some te) (hd:tt.und=.slice e) {k:IntKind} (hd':tu.und=.int k) {w:World}
 {n:Nat} (hn:0<n/\n≤1000000) (hby:te.bytes≤65536) (h1:te.size=1):
 ∃cap',n≤cap'/\(Builtin.append_ #[t,u] ty #[.slice none 0 0,.int .i64 (n:Int)]).run P w=
  .ok (.slice (some ⟨w.heap.size,0,none⟩) n cap') {({w with drawn:=w.drawn+1}:World)with heap:=w.heap.push (.cells (#[]++Builtin.zeroCells te.zero.cells n++Builtin.zeroCells te.zero.cells (cap'-n)) e)}:=by
 obtain⟨i,hi,hz,hs,hb⟩:=jO hτ he w;obtain⟨i2,hi2,hz2,hs2,hb2⟩:=jO hτ he {w with drawn:=w.drawn+1};have hcap:=Bp (n:=n) (c:=0) hn.1;have hw:IntKind.i64.wrap (n:Int)=n:=by simp[IntKind.wrap,IntKind.signed,IntKind.bits];omega
 have hmul:n*te.bytes≤1000000*65536:=amy hn.2 hby;refine⟨(Question.appendCap n 0 e).cut (w.tape w.drawn (.appendCap n 0 e)),by simp[Question.cut],?_⟩
 simp only[Builtin.append_,amv,amw,amx,Sem.run_bind,run_underlying (hτ.und _ _ ht),hd,Result.andThen,bK hτ he,run_underlying (hτ.und _ _ hu),hd',Sem.run_pure,if_true,asInt,asIntOf,hw];rw[Sem.run_ite,if_neg qqO];simp only[Sem.run_bind,hi,Result.andThen,hb];rw[Sem.run_ite,if_neg qqO];simp only[Sem.run_bind,Sem.run_pure,Result.andThen,Int.toNat_natCast,alO];rw[Sem.run_ite,if_neg qqO];simp only[Sem.run_bind,hi,Result.andThen,hb];rw[Sem.run_ite,if_neg (by simp[IntKind.max,IntKind.signed,IntKind.bits];omega)]
 simp only[Sem.run_bind,Sem.run_pure,Result.andThen,hi,hb];rw[Sem.run_ite,if_neg (by
  have:Builtin.nextslicecap n 0*te.bytes≤3002000*65536:=amy qqO hby;omega)]
 have hz:¬n*te.size=0:=by rw[h1];omega
 simp only[Sem.run_bind,run_choose,Question.forced,amn,if_false,Result.andThen,hi2,hb2,run_askRoom,run_firstCells_none,amf,hz,iw hτ he,newRow,run_newObj,Sem.run_pure]
theorem iy (hτ:bC P τ) {t u ty e:TypeId} {tt tu te:TE} (ht:τ t=some tt) (hu:τ u=some tu) (he:τ e=some te) (hd:tt.und=.slice e) {e':TypeId} (hd':tu.und=.slice e') {w w':World}
 {base:Option Addr} {sLen sCap n:Nat} {xb:Option Addr} {xc:Nat} (hfit:sLen+n≤sCap) {new:Array Value}
 (hnew:(Builtin.firstCells te.size n (.slice xb n xc)).run P w=.ok new w)
 (hst:((match base with|some a=>storeCells (a.add (sLen*te.size)) new.toList|none=>pure ()):Sem Unit).run P w=.ok () w'):
 (Builtin.append_ #[t,u] ty #[.slice base sLen sCap,.slice xb n xc]).run P w=.ok (.slice base (sLen+n) sCap) w':=by
 simp only[Builtin.append_,amv,amw,amx,Sem.run_bind,run_underlying (hτ.und _ _ ht),hd,Result.andThen,bK hτ he,run_underlying (hτ.und _ _ hu),hd',Sem.run_pure,amn,if_false,Builtin.lenOf];rw[Sem.run_ite,if_pos hfit];simp only[Sem.run_bind,ame,if_true,hnew,Result.andThen];cases base with
 |none=>simp at hst;subst hst;rfl
 |some a=>simp only at hst;simp only[Sem.run_bind,hst,Result.andThen,Sem.run_pure]
theorem Mem.tokStep {S:Imm} {w w':World} {ι:Ix} {H:Hp} (M:Mem S w ι H) {k b esz hw':Nat} {arr':Array Value} {e:TypeId}
 (below:Bel w w') (other:∀b',b'<w.heap.size->b'≠b->w'.heap[b']? =w.heap[b']?) (here:w'.heap[b]? =some (.cells arr' e (0,0))) (hpos:0<hw') (hsz:hw'*esz≤arr'.size)
 (hk:av H k=none∨∃hw,av H k=some (.tok esz hw))
 (hle:∀b0 hw,ι.t k=some (b0,hw)->(b=b0/\hw≤hw')∨hw<hw')
 (hb:w.heap.size≤b∨∃hw arr e0,av H k=some (.tok esz hw)/\ι.t k=some (b,hw)/\w.heap[b]? =some (.cells arr e0 (0,0))/\arr.size≤arr'.size/\∀j,j<hw*esz->arr'[j]? =arr[j]?):
 ∃S',Mem S' w' (ι.sett k b hw') (aP H k (.tok esz hw'))/\Keeps S w S' w'/\ι.le (ι.sett k b hw')/\(∀j,j<hw'*esz->S' b j)/\∀p,Tr p S w ι H S' w' (ι.sett k b hw') (aP H k (.tok esz hw')):=by
 let S':Imm:=λb' j=>S b' j∨(b'=b/\j<hw'*esz)
 have hnotO:ι.o k=none:=by
  cases eo:ι.o k with
  |none=>rfl
  |some x=>
   obtain⟨o,g1,g2⟩:=M.liveO k x eo;rcases hk with h|⟨hw,h⟩
   ·rw[h]at g1;cases g1
   ·rw[h]at g1;cases g1;simp[AO.isTok]at g2
 have hSb:∀j,S b j->∃hw arr e0,w.heap[b]? =some (.cells arr e0 (0,0))/\arr.size≤arr'.size/\j<hw*esz/\hw≤hw'/\∀j,j<hw*esz->arr'[j]? =arr[j]? :=by
  intro j hs;have hlt:=eZ (M.imm b j hs);rcases hb with h|⟨hw,arr,e0,h1,h2,h3,h4,h5⟩
  ·omega
  ·obtain⟨g1,g2⟩:=M.obj k _ h1
   rcases amk hw with hz|hz
   ·rw[g1 hz]at h2;cases h2
   ·obtain⟨b',arr2,e2,q1,q2,q3⟩:=g2 hz
    rw[h2]at q1;cases q1
    have:=hle b hw h2;exact⟨hw,arr,e0,h3,h4,q3 j hs,qqO,h5⟩
 have keeps:Keeps S w S' w':=by
  refine⟨λb' j hs=>⟨.inl hs,?_⟩,λb' j hs=>?_⟩
  ·by_cases eb:b'=b
   ·subst eb
    obtain⟨hw,arr,e0,h3,h4,h5,h6,h7⟩:=hSb j hs;rw[aL here,aL h3];exact h7 j h5
   ·exact dH (other b' (eZ (M.imm b' j hs)) eb) j
  ·by_cases eb:b'=b
   ·subst eb
    have hlt:=eZ hs;rcases hb with h|⟨hw,arr,e0,h1,h2,h3,h4,h5⟩
    ·omega
    ·rw[aL h3]at hs
     rw[aL here];have:j<arr.size:=by
      rcases alq j arr.size with h1|h1
      ·exact h1
      ·rw[alr h1]at hs;simp at hs
     rw[alv qqO];rfl
   ·rw[dH (other b' (eZ hs) eb) j];exact hs
 have le:ι.le (ι.sett k b hw'):=⟨λ_ _ h=>h,λk' b0 hw h=>by
  by_cases ek:k'=k
  ·subst ek
   refine⟨b,hw',by simp[Ix.sett],?_⟩
   rcases hle b0 hw h with⟨h1,h2⟩|h1
   ·exact .inl ⟨h1,h2⟩
   ·exact .inr h1
  ·exact⟨b0,hw,by simp[Ix.sett,ek,h],.inl ⟨rfl,alo _⟩⟩⟩
 have hbl:∀b',(AO.tok esz hw').has (ι.sett k b hw') k b'↔b'=b:=λb'=>by simp[AO.has,Ix.sett,eq_comm]
 obtain⟨M',T⟩:=M.step (S':=S') (b:=b) (k:=k) (o':=.tok esz hw') below other keeps (λb' j h=>by rcases h with h|⟨h,_⟩;exact .inl h;exact .inr h)
  (λj h=>by
    rw[aL here];have:j<arr'.size:=by
     rcases h with h|⟨_,h⟩
     ·obtain⟨hw,arr,e0,h3,h4,h5,h6,h7⟩:=hSb j h
      have:hw*esz≤hw'*esz:=al2 _ h6;omega
     ·omega
    rw[alv this];rfl)
  le (λ_ _=>rfl) (λk' h=>by simp[Ix.sett,h]) rfl
  (by
    rcases hb with h|⟨hw,arr,e0,h1,h2,h3,h4,h5⟩
    ·exact .inl h
    ·exact .inr ⟨_,h1,rfl,_,h2⟩)
  hbl (λ_=>by simpa [Ix.sett]using hnotO) (λh=>by simp[AO.isTok]at h)
  ⟨λhz=>qqO,λ_=>⟨b,arr',e,by simp[Ix.sett],here,λj h=>by
   rcases h with h|⟨_,h⟩
   ·obtain⟨hw,arr,e0,h3,h4,h5,h6,h7⟩:=hSb j h
    have:hw*esz≤hw'*esz:=al2 _ h6;omega
   ·exact h⟩⟩
 exact⟨S',M',keeps,le,λj hj=>.inr ⟨rfl,hj⟩,T⟩
theorem Mem.virgin {S:Imm} {w:World} {ι:Ix} {H:Hp} (M:Mem S w ι H) {k:Nat} (hk:av H k=none) (esz:Nat):
 Mem S w ι (aP H k (.tok esz 0))/\∀p,Tr p S w ι H S w ι (aP H k (.tok esz 0)):=by
 have hno:=M.none_o hk;have hnt:=M.none_t hk;have get:∀k' o,av (aP H k (.tok esz 0)) k'=some o->(k'=k/\o=.tok esz 0)∨(k'≠k/\av H k'=some o):=by
  intro k' o h;rw[aW]at h;by_cases e:k'=k
  ·subst e;simp at h;exact .inl ⟨rfl,h.symm⟩
  ·rw[if_neg e]at h;exact .inr ⟨e,h⟩
 have up:∀k' o,av H k'=some o->av (aP H k (.tok esz 0)) k'=some o:=by
  intro k' o h;rw[aW];by_cases e:k'=k
  ·subst e;rw[hk]at h;cases h
  ·rw[if_neg e];exact h
 have own:∀b,owned ι (aP H k (.tok esz 0)) b->owned ι H b:=by
  rintro b ⟨k',o,h1,h2,h3⟩
  rcases get k' o h1 with⟨rfl,rfl⟩|⟨_,h⟩
  ·simp[AO.has,hnt]at h3
  ·exact⟨k',o,h,h2,h3⟩
 refine⟨⟨?_,?_,?_,?_,M.imm⟩,λp=>⟨Bel.refl _,λ_ _ _=>rfl,.refl _ _,λ_ _ _ h=>.inl h,λb h=>.inl (own b h),λ_ _ _ h=>h,λ_ _ b n h=>⟨b,n,h,.inl ⟨rfl,alo _⟩⟩⟩⟩
 ·intro k' o h
  rcases get k' o h with⟨rfl,rfl⟩|⟨_,h⟩
  ·exact⟨λ_=>hnt,λh=>qqO⟩
  ·exact M.obj k' o h
 ·intro k' b h
  obtain⟨o,h1,h2⟩:=M.liveO k' b h;exact⟨o,up k' o h1,h2⟩
 ·intro k' x h
  obtain⟨o,h1,h2⟩:=M.liveT k' x h;exact⟨o,up k' o h1,h2⟩
 ·intro k1 k2 o1 o2 b h1 h2 hb1 hb2
  rcases get k1 o1 h1 with⟨rfl,rfl⟩|⟨_,h1⟩
  ·simp[AO.has,hnt]at hb1
  ·rcases get k2 o2 h2 with⟨rfl,rfl⟩|⟨_,h2⟩
   ·simp[AO.has,hnt]at hb2
   ·exact M.dist k1 k2 o1 o2 b h1 h2 hb1 hb2
theorem K6:∀(rs:List (List PV)),fJ rs->∀i,iL.inlF (rs.getD i [])=true:=by
 intro rs;induction rs with
 |nil=>intro _ i;rfl
 |cons x r ih=>
  intro h i;cases i with
  |zero=>exact h.1
  |succ i=>simpa using ih h.2 i
theorem iC {c:CL} {K:CL->Prop} (h:l9 c K):∃d,K d/\d.esz=c.esz/\d.ncell=c.ncell/\∀j,j<c.ncell->∀{S:Imm} {w:World} {ι:Ix} {v:Value},Rep S w ι (c.get j) v->Rep S w noI (d.get j) v:=by
 unfold l9 at h;split at h
 ·exact⟨_,h,rfl,rfl,λj hj S w ι v hr=>by cases hr;exact .int _ _ _⟩
 ·exact⟨_,h,rfl,rfl,λj hj S w ι v hr=>by cases hr;exact .bp _ _⟩
 ·exact⟨_,h,rfl,rfl,λj hj S w ι v hr=>by cases hr;exact .str _ _⟩
 ·exact⟨_,h,rfl,rfl,λj hj S w ι v hr=>hr.toNoI⟩
 ·split at h
  ·rename_i ds hds
   obtain⟨h1,h2⟩:=kX hds;exact⟨_,h,rfl,h1,λj hj S w ι v hr=>h2 j hj hr⟩
  ·exact h.elim
 ·rename_i m rs
  refine⟨_,h.2,rfl,rfl,λj hj S w ι v hr=>?_⟩;simp only[CL.get]at hr⊢;by_cases hl:j % m<(rs.getD (j / m) []).length
  ·exact jC (K6 rs h.1 _) _ hl hr
  ·have:aG (rs.getD (j / m) []) (j % m)=.any:=by
    generalize rs.getD (j / m) []=l at hl
    generalize j % m=q at hl
    induction l generalizing q with
    |nil=>rfl
    |cons x xs ih=>cases q with
     |zero=>simp at hl
     |succ q=>exact ih q (by simpa using hl)
   rw[this];exact .any _ _
 ·exact h.elim
def Src (S:Imm) (w:World) (d:CL) (vx:Value):Prop:=
 ∃ad cap,vx=.slice ad d.cnt cap/\∃vals:Array Value,vals.size=d.ncell/\(∀j,j<d.ncell->Rep S w noI (d.get j) (vals.getD j undef))/\
  ∀(P:Program) (w':World),w'.heap=w.heap->(Builtin.firstCells d.esz d.cnt vx).run P w'=.ok vals w'
theorem nP {S:Imm} {w:World} {d:CL} {b off cap:Nat} (h:∀j,j<d.ncell->(rd w b (off+j)).isSome) (hr:∀j,j<d.ncell->Rep S w noI (d.get j) (rdv w b (off+j))):
 Src S w d (.slice (some ⟨b,off,none⟩) d.cnt cap):=by
 refine⟨_,_,rfl,((alA d.ncell).map λj=>rdv w b (off+j)).toArray,qqS,λj hj=>?_,λP w' hw=>?_⟩
 ·have:=hr j hj
  simpa [alz,hj]using this
 ·have e:∀j,rd w' b j=rd w b j:=λj=>by simp[rd,hw]
  have:=dx (P:=P) (w:=w') (b:=b) (off:=off) (n:=d.cnt) (size:=d.esz) (len:=d.cnt) (cap:=cap) (λj hj=>by rw[e];exact h j (by rw[bI];exact hj))
  rw[this,bI];simp only[rdv,e]
theorem Mv {S:Imm} {w:World} {d:CL} {a:Option Addr} (h:d.cnt=0):Src S w d (.slice a 0 0):=by
 have hn:d.ncell=0:=by rw[bI,h,amo]
 exact⟨a,0,by rw[h], #[],by rw[hn];rfl,λj hj=>qqO,λP w' hw=>by rw[h];exact mQ⟩
theorem jF {H:Hp} {x:PV} {K:CL->List Nat->Prop} (h:tC H x K):∃d acc,K d acc/\∀{S:Imm} {w:World} {ι:Ix} {H':Hp} {vx:Value},Mem S w ι H'->(∀k∈acc,av H' k=av H k)->Rep S w ι x vx->Src S w d vx:=by
 unfold tC at h;split at h
 ·rename_i c t
  refine⟨_,_,h,λM ha hr=>?_⟩;cases hr with
  |islnil _ _ _ hc=>exact Mv hc
  |isl _ _ _ b off cap hc hs hh hf ho=>exact nP (λj hj=>M.imm _ _ (hs j hj)) hh
 ·rename_i k off n
  rw[bD]at h;obtain⟨o,ho,h⟩:=h;split at h
  ·rename_i c fz
   obtain⟨d,h,d1,d2,d3⟩:=iC h;simp only[fI,dM,aK]at h;obtain⟨h1,h2,h3⟩:=h;have h2:=alN h2;have hcnt:(d.sub off (off+n)).cnt=n:=by rw[jU _ h1];omega
   have hnc:(d.sub off (off+n)).ncell=n:=by rw[bI,hcnt,Ms,h2,alV]
   have hdn:d.ncell=d.cnt:=by rw[bI,h2,alV]
   refine⟨_,_,h3,λM ha hr=>?_⟩;rename_i S w ι H' vx;have ho':=(ha k qqS).trans ho;cases hr with
   |rslz _ _ _ b o' hk=>
    have:=nP (S:=S) (w:=w) (d:=d.sub off (off+0)) (b:=b) (off:=o') (cap:=0) (λj hj=>qqO) (λj hj=>qqO);rw[hcnt]at this;exact this
   |rsl _ _ _ _ b cap hk hc _=>
    have hl:=M.lies ho' hk;have:=nP (S:=S) (w:=w) (d:=d.sub off (off+n)) (b:=b) (off:=off) (cap:=cap)
     (λj hj=>by have:=(hl (off+j) qqO).1;rwa [alO]at this)
     (λj hj=>by
       rw[Mt d (by rw[h2,alV];omega),h2,alV]
       have:=d3 (off+j) qqO (hl (off+j) qqO).2
       rwa [alO]at this)
    rw[hcnt]at this;exact this
  ·exact h.elim
 ·exact h.elim
theorem nQ (l m:List PV):∀j,(j<l.length->aG (l++m) j=aG l j)/\aG (l++m) (l.length+j)=aG m j:=by
 induction l with
 |nil=>intro j;exact⟨λh=>by simp at h,qqS⟩
 |cons x xs ih=>
  intro j;refine⟨λh=>?_,?_⟩
  ·cases j with
   |zero=>rfl
   |succ j=>exact(ih j).1 (by simpa using h)
  ·rw[alj,show xs.length+1+j=(xs.length+j)+1 by omega]
   exact(ih j).2
theorem oL {c d:CL} {K:CL->Prop} (h:Dl c d K):∃e,K e/\e.esz=c.esz/\d.esz=c.esz/\e.cnt=c.cnt+d.cnt/\(∀j,j<c.ncell->e.get j=c.get j)/\∀j,j<d.ncell->e.get (c.ncell+j)=d.get j:=by
 unfold Dl at h;split at h
 ·exact⟨_,h,rfl,rfl,by simp[CL.cnt],λj hj=>((nQ _ _ j).1 hj),λj hj=>(nQ _ _ j).2⟩
 ·rw[aK]at h
  have e:=of_decide_eq_true h.1;subst e;exact⟨_,h.2,rfl,rfl,by simp[CL.cnt],λj hj=>by simp only[CL.ncell]at hj;simp[CL.get,amA,hj],λj hj=>by simp[CL.get,CL.ncell,amB]⟩
 ·exact⟨_,h,rfl,rfl,by simp[CL.cnt],λj hj=>by simp only[CL.ncell]at hj;simp[CL.get,amA,hj],λj hj=>by simp[CL.get,CL.ncell,amB]⟩
 ·exact⟨_,h,rfl,rfl,by simp[CL.cnt],λj hj=>by simp only[CL.ncell]at hj;simp[CL.get,amA,hj],λj hj=>by simp[CL.get,CL.ncell,amB]⟩
 ·rw[aK]at h
  have e:=of_decide_eq_true h.1;subst e;exact⟨_,h.2,rfl,rfl,by simp[CL.cnt],λj hj=>by simp only[CL.ncell]at hj;simp[CL.get,amA,hj],λj hj=>by simp[CL.get,CL.ncell,amB]⟩
 ·rename_i m xs m' ys
  rw[aK]at h;have e:=alN h.1;subst e;refine⟨_,h.2,rfl,rfl,by simp[CL.cnt],λj hj=>?_,λj hj=>?_⟩
  ·simp only[CL.ncell]at hj
   have hm:0<m:=by rcases amk m with h|h;(subst h;simp at hj);exact h
   have:j / m<xs.length:=by rw[al6 hm];exact hj
   simp[CL.get,amA,this]
  ·simp only[CL.ncell]at hj⊢
   have hm:0<m:=by rcases amk m with h|h;(subst h;simp at hj);exact h
   simp only[CL.get];rw[show(xs.length*m+j) / m=xs.length+j / m by rw[alP,alQ hm],show(xs.length*m+j) % m=j % m by rw[alP,alS]]
   simp[amB]
 ·exact h.elim
variable {P:Program} {r:Option Nat} {τ:TypeId->Option TE}
theorem kI {ι:Ix} {H H':Hp} (h:∀k,av H k=av H' k) (b:Nat):owned ι H b↔owned ι H' b:=by
 simp only[owned,h]
theorem Mem.congr {S:Imm} {w:World} {ι:Ix} {H H':Hp} (h:∀k,av H k=av H' k) (M:Mem S w ι H):Mem S w ι H':=
 ⟨λk o ho=>M.obj k o ((h k).trans ho),λk b hb=>by obtain⟨o,h1,h2⟩:=M.liveO k b hb;exact⟨o,(h k).symm.trans h1,h2⟩,
  λk b hb=>by obtain⟨o,h1,h2⟩:=M.liveT k b hb;exact⟨o,(h k).symm.trans h1,h2⟩,
  λk k' o o' b h1 h2=>M.dist k k' o o' b ((h k).trans h1) ((h k').trans h2),M.imm⟩
theorem Tr.congr {p:Nat} {S S':Imm} {w w':World} {ι ι':Ix} {H H' H1:Hp} (h:∀k,av H k=av H1 k) (t:Tr p S w ι H S' w' ι' H'):Tr p S w ι H1 S' w' ι' H':=
 ⟨t.below,λb hb ho=>t.same b hb (λh'=>ho ((kI h b).1 h')),t.keeps,λb j hb hs=>Or.imp id (λh'=>(kI h b).1 h') (t.immN b j hb hs),
  λb ho=>Or.imp (λh'=>(kI h b).1 h') id (t.own b ho),t.protO,t.protT⟩
theorem Tr.congr' {p:Nat} {S S':Imm} {w w':World} {ι ι':Ix} {H H' H1:Hp} (h:∀k,av H' k=av H1 k) (t:Tr p S w ι H S' w' ι' H'):Tr p S w ι H S' w' ι' H1:=
 ⟨t.below,t.same,t.keeps,t.immN,λb ho=>t.own b ((kI h b).2 ho),t.protO,t.protT⟩
theorem ET {H:Hp} {k:Nat} {o:AO} (h:av H k=some o) (k':Nat):av H k'=av (aP H k o) k':=by
 rw[aW];by_cases e:k'=k
 ·subst e;simp[h]
 ·simp[e]
def gJ (P:Program) (S:Imm) (w:World) (ι:Ix) (H:Hp) (s:Sem Value) (v:PV) (sets:List (Nat × AO)):Prop:=
 ∃val S' w' ι',s.run P w=.ok val w'/\Mem S' w' ι' (bE H sets)/\ι.le ι'/\Keeps S w S' w'/\Rep S' w' ι' v val/\∀p,Tr p S w ι H S' w' ι' (bE H sets)
theorem gJ.same {S:Imm} {w:World} {ι:Ix} {H:Hp} {s:Sem Value} {v:PV} {val:Value} (M:Mem S w ι H) (h:s.run P w=.ok val w) (hr:Rep S w ι v val):gJ P S w ι H s v []:=
 ⟨val,S,w,ι,h,M,.refl _,.refl _ _,hr,λp=>.refl _ _ _ _ _⟩
theorem gJ.again {S:Imm} {w:World} {ι:Ix} {H:Hp} {s:Sem Value} {v:PV} {val:Value} {k:Nat} {ob:AO} (hk:av H k=some ob) (M:Mem S w ι H) (h:s.run P w=.ok val w) (hr:Rep S w ι v val):gJ P S w ι H s v [(k,ob)]:=
 ⟨val,S,w,ι,h,M.congr (ET hk),.refl _,.refl _ _,hr,λp=>(Tr.refl _ _ _ _ _).congr' (ET hk)⟩
theorem gJ.virgin {S:Imm} {w:World} {ι:Ix} {H:Hp} {s:Sem Value} {v:PV} {val:Value} {k:Nat} (hk:av H k=none) (esz:Nat) (M:Mem S w ι H) (h:s.run P w=.ok val w) (hr:Rep S w ι v val):gJ P S w ι H s v [(k,.tok esz 0)]:=
 ⟨val,S,w,ι,h,(M.virgin hk esz).1,.refl _,.refl _ _,hr,(M.virgin hk esz).2⟩
structure Row (S:Imm) (w:World) (esz:Nat) (n:Nat) (g:Nat->PV) (vs:Value) (vals:Array Value):Prop where
 size:vals.size=n*esz
 rep:∀j,j<n*esz->Rep S w noI (g j) (vals.getD j undef)
 run:∀(P:Program) (w':World),w'.heap=w.heap->(Builtin.firstCells esz n vs).run P w'=.ok vals w'
theorem zJ (hτ:bC P τ) {t u ty e:TypeId} {tt tu te:TE} (ht:τ t=some tt) (hu:τ u=some tu) (he:τ e=some te) (hd:tt.und=.slice e) {e':TypeId} (hd':tu.und=.slice e')
 {S:Imm} {w:World} {ι:Ix} {H:Hp} (M:Mem S w ι H) {k:Nat} (hk:av H k=none∨∃hw,av H k=some (.tok te.size hw)) {base xb:Option Addr} {cn sCap dn xc:Nat}
 (hlt:∀b0 hw,ι.t k=some (b0,hw)->hw<cn+dn) (hgrow:sCap<cn+dn) (hbd:cn+dn≤1073741824) (hby:te.bytes≤65536) {E:CL} (hE:E.cnt=cn+dn) (hEs:E.esz=te.size)
 {old new:Array Value} (ho:Row S w te.size cn E.get (.slice base cn sCap) old) (hn:Row S w te.size dn (λj=>E.get (cn*te.size+j)) (.slice xb dn xc) new):
 gJ P S w ι H (Builtin.append_ #[t,u] ty #[.slice base cn sCap,.slice xb dn xc]) (.isl E (.own k)) [(k,.tok te.size (cn+dn))]:=by
 obtain⟨cap',hcap,hrun⟩:=run_append_grow (ty:=ty) hτ ht hu he hd hd' hgrow hbd hby (ho.run P {w with drawn:=w.drawn+1} rfl) (hn.run P {w with drawn:=w.drawn+1} rfl);have hEn:E.ncell=(cn+dn)*te.size:=by rw[bI,hE,hEs]
 have hzc:te.zero.cells.size=te.size:=hτ.zsz _ _ he;have e1:∀{arr:Array Value} {e0:TypeId},({({w with drawn:=w.drawn+1}:World)with heap:=w.heap.push (.cells arr e0)}:World).heap=w.heap.push (.cells arr e0):=rfl;generalize hzz:Builtin.zeroCells te.zero.cells (cap'-(cn+dn))=zz at hrun
 have hzs:zz.size=(cap'-(cn+dn))*te.size:=by
  rw[<-hzz];simp[Builtin.zeroCells,hzc]
 have hsz:(old++new++zz).size=cap'*te.size:=by
  simp only[ams,ho.size,hn.size,hzs,<-al3];congr 1;omega
 have hle:(cn+dn)*te.size≤cap'*te.size:=al2 _ hcap;generalize hw':({({w with drawn:=w.drawn+1}:World)with heap:=w.heap.push (.cells (old++new++zz) e)}:World)=w' at hrun
 have hheap:w'.heap=w.heap.push (.cells (old++new++zz) e):=by rw[<-hw']
 have hbelow:Bel w w':=by
  refine .block w.heap.size (by rw[<-hw']) (by rw[<-hw']) (by rw[<-hw']) (by rw[<-hw'];simp) (λb' hb'=>by rw[hheap,alu,if_neg hb']) (by rw[alr (alo _)];exact jy) (by rw[hheap];simp;exact eu _ _)
 have hnew:w'.heap[w.heap.size]? =some (.cells (old++new++zz) e (0,0)):=by rw[hheap];simp
 obtain⟨S',M',K',L',hS,T⟩:=M.tokStep (k:=k) (b:=w.heap.size) (esz:=te.size) (hw':=cn+dn) hbelow (λb' hb' _=>by rw[hheap,alu];rw[if_neg qqO]) hnew qqO qqO hk
  (λb0 hw h=>.inr (hlt b0 hw h)) (.inl (alo _))
 refine⟨_,S',w',_,hrun,M',L',K',?_,T⟩;have hval:∀j,j<(cn+dn)*te.size->Rep S w noI (E.get j) (rdv w' w.heap.size j):=by
  intro j hj;rw[rdv,aL hnew];by_cases h:j<cn*te.size
  ·have:=ho.rep j h
   rw[alz]at this;rw[amC (by simp only[ams,ho.size];omega),amC (by rw[ho.size];omega)]
   exact this
  ·have h2:j-cn*te.size<dn*te.size:=by rw[al3]at hj;omega
   have:=hn.rep (j-cn*te.size) h2;rw[alz,show cn*te.size+(j-cn*te.size)=j by omega]at this
   rw[amC (by simp only[ams,ho.size,hn.size];omega),Array.getElem?_append_right (by rw[ho.size];omega),ho.size]
   exact this
 have:=Rep.isl (S:=S') (w:=w') (ι.sett k w.heap.size (cn+dn)) E (.own k) w.heap.size 0 cap' qqO (λj hj=>by rw[alO];exact hS j qqO)
  (λj hj=>by rw[alO];exact(hval j qqO).mono K' _ (.refl _)) (λh=>by cases h)
  (λk' h=>by
    cases h
    exact .inr ⟨w.heap.size,cn+dn,by simp[Ix.sett],qqO,.inl ⟨rfl,rfl,λj hj=>by
     rw[aL hnew,alv (by rw[hsz,<-hEs];exact hj)];rfl⟩⟩)
 rw[hE]at this;exact this
theorem Src.row {S:Imm} {w:World} {d:CL} {vx:Value} (h:Src S w d vx):∃ad cap vals,vx=.slice ad d.cnt cap/\Row S w d.esz d.cnt d.get (.slice ad d.cnt cap) vals:=by
 obtain⟨ad,cap,rfl,vals,h1,h2,h3⟩:=h;exact⟨ad,cap,vals,rfl,⟨by rw[h1,bI],λj hj=>h2 j (by rw[bI];exact hj),h3⟩⟩
theorem Br {S:Imm} {w:World} {ι:Ix} {H:Hp} (M:Mem S w ι H) {c:CL} {t:Tok} {v:Value} (h:Rep S w ι (.isl c t) v):Src S w c v:=by
 cases h with
 |islnil _ _ _ hc=>exact Mv hc
 |isl _ _ _ b off cap hc hs hh hf ho=>exact nP (λj hj=>M.imm _ _ (hs j hj)) hh
theorem K7 {m:Nat}:∀(rs:List (List PV)),oZ m rs->∀i,i<rs.length->jN (rs.getD i [])=true/\(rs.getD i []).length=m:=by
 intro rs;induction rs with
 |nil=>intro _ i hi;simp at hi
 |cons r rs ih=>
  intro h i hi;cases i with
  |zero=>have:=h.1;rw[alM]at this;exact⟨this.2,alN this.1⟩
  |succ i=>simpa using ih h.2 i (by simpa using hi)
theorem tL {d:CL} {K:Prop} (h:Hl d K):K/\∀j,j<d.ncell->one (d.get j)=true:=by
 unfold Hl at h;split at h
 ·rw[aK]at h
  exact⟨h.2,λj hj=>kH _ h.1 j hj⟩
 ·exact⟨h,λj _=>rfl⟩
 ·exact⟨h,λj _=>rfl⟩
 ·exact⟨h,λj _=>rfl⟩
 ·exact⟨h,λj _=>rfl⟩
 ·rename_i m rs
  refine⟨h.2,λj hj=>?_⟩;simp only[CL.ncell]at hj;have hm:0<m:=by rcases amk m with h|h;(subst h;simp at hj);exact h
  have h1:j / m<rs.length:=by rw[al6 hm];exact hj
  obtain⟨g1,g2⟩:=K7 rs h.1 _ h1;exact kH _ g1 _ (by rw[g2];exact al8 _ hm)
 ·exact h.elim
theorem ab4 (hτ:bC P τ) {t u ty e:TypeId} {tt tu te:TE} (ht:τ t=some tt) (hu:τ u=some tu) (he:τ e=some te) (hd:tt.und=.slice e) {e':TypeId} (hd':tu.und=.slice e')
 {S:Imm} {w:World} {ι:Ix} {H:Hp} (M:Mem S w ι H) {k hw b:Nat} (hk:av H k=some (.tok te.size hw)) (hb:ι.t k=some (b,hw)) {xb:Option Addr} {cap dn xc:Nat}
 (hfit:hw+dn≤cap) (hcells:∀j,j<cap*te.size->(rd w b j).isSome) (hpos:0<hw) {E:CL} (hE:E.cnt=hw+dn) (hEs:E.esz=te.size)
 (hold:∀j,j<hw*te.size->S b j/\Rep S w noI (E.get j) (rdv w b j)) {new:Array Value} (hone:∀j,j<dn*te.size->one (E.get (hw*te.size+j))=true)
 (hn:Row S w te.size dn (λj=>E.get (hw*te.size+j)) (.slice xb dn xc) new):
 gJ P S w ι H (Builtin.append_ #[t,u] ty #[.slice (some ⟨b,0,none⟩) hw cap,.slice xb dn xc]) (.isl E (.own k)) [(k,.tok te.size (hw+dn))]:=by
 have hEn:E.ncell=(hw+dn)*te.size:=by rw[bI,hE,hEs]
 obtain⟨_,g⟩:=M.obj k _ hk;obtain⟨b',arr,e0,g1,g2,g3⟩:=g hpos;rw[hb]at g1;cases g1
 have hsz:cap*te.size≤arr.size:=by
  rcases amk (cap*te.size)with h|h
  ·omega
  ·have:=hcells (cap*te.size-1) qqO
   rw[aL g2]at this;rcases alq (cap*te.size-1) arr.size with h1|h1
   ·omega
   ·rw[alr h1]at this;simp at this
 have hle:(hw+dn)*te.size≤cap*te.size:=al2 _ hfit;have hadd:(hw+dn)*te.size=hw*te.size+dn*te.size:=al3 _ _ _;have honeV:∀v∈new.toList,v.oneCell'=true:=by
  intro v hv;obtain⟨i,hi,rfl⟩:=alG hv;have hi':i<dn*te.size:=by rw[<-hn.size];simpa using hi
  have:=(hn.rep i hi').oneCell (hone i hi');simpa [alz,alv (show i<new.size by simpa using hi)]using this
 obtain⟨w',r1,uu⟩:=bT P new.toList (o:=hw*te.size) (i:=0) g2 honeV (by simp[hn.size];omega)
 have hput:∀j,(putRow arr (hw*te.size+0) new.toList).getD j undef=if hw*te.size≤j/\j<hw*te.size+dn*te.size then new.getD (j-hw*te.size) undef else arr.getD j undef:=by
  intro j;rw[fP _ _ _ _ (by simp[hn.size];omega)]
  simp only[alg,alY,hn.size];congr 1;simp[alz]
 have hsz':(putRow arr (hw*te.size+0) new.toList).size=arr.size:=cK _ _ _;obtain⟨S',M',K',L',hS,T⟩:=M.tokStep (k:=k) (b:=b) (esz:=te.size) (hw':=hw+dn) uu.below (λb' _ hb'=>uu.other b' hb') uu.here qqO qqO (.inr ⟨hw,hk⟩)
  (λb0 hw0 h=>by rw[hb]at h;cases h;exact .inl ⟨rfl,qqO⟩) (.inr ⟨hw,arr,e0,hk,hb,g2,qqO,λj hj=>by
   have:=hput j;rw[if_neg qqO]at this;have hj1:j<arr.size:=qqO;simp only[alz,alv hj1,alv (show j<(putRow arr (hw*te.size+0) new.toList).size by omega),amj]at this
   rw[alv hj1,alv qqO,this]⟩)
 have hrun:=iy (ty:=ty) (w':=w') hτ ht hu he hd hd' (base:=some ⟨b,0,none⟩) (sLen:=hw) (sCap:=cap) hfit (hn.run P w rfl) (by simpa [fQ]using r1)
 refine⟨_,S',w',_,hrun,M',L',K',?_,T⟩;have:=Rep.isl (S:=S') (w:=w') (ι.sett k b (hw+dn)) E (.own k) b 0 cap qqO (λj hj=>by rw[alO];exact hS j qqO)
  (λj hj=>by
    rw[alO];by_cases h:j<hw*te.size
    ·obtain⟨h1,h2⟩:=hold j h
     have:=h2.mono K' _ (.refl _);rw[rdv,(K'.imm b j h1).2];exact this
    ·have h2:j-hw*te.size<dn*te.size:=qqO
     have:=(hn.rep _ h2).mono K' _ (.refl _);rw[show hw*te.size+(j-hw*te.size)=j by omega]at this
     have h3:=hput j;rw[if_pos qqO]at h3;rw[rdv,aL uu.here,<-alz,h3];exact this) (λh=>by cases h)
  (λk' h=>by
    cases h
    exact .inr ⟨b,hw+dn,by simp[Ix.sett],qqO,.inl ⟨rfl,rfl,λj hj=>K'.cells _ _ (hcells j (by rw[<-hEs];exact hj))⟩⟩)
 rw[hE]at this;exact this
theorem Rep.islSlice {S:Imm} {w:World} {ι:Ix} {c:CL} {t:Tok} {v:Value} (h:Rep S w ι (.isl c t) v):∃ad cap,v=.slice ad c.cnt cap:=by
 cases h with
 |islnil _ _ _ hc=>exact⟨_,0,by rw[hc]⟩
 |isl _ _ _ b off cap=>exact⟨_,_,rfl⟩
theorem Rep.islCap {S:Imm} {w:World} {ι:Ix} {c:CL} {t:Tok} {v:Value} (h:Rep S w ι (.isl c t) v):∃ad cap,v=.slice ad c.cnt cap/\c.cnt≤cap:=by
 cases h with
 |islnil _ _ _ hc=>exact⟨_,0,by rw[hc],qqO⟩
 |isl _ _ _ b off cap hc=>exact⟨_,_,rfl,hc⟩
theorem Rep.rslSlice {S:Imm} {w:World} {ι:Ix} {k off n:Nat} {v:Value} (h:Rep S w ι (.rsl k off n) v):∃ad cap,v=.slice ad n cap:=by
 cases h<;>exact⟨_,_,rfl⟩
theorem oh (hτ:bC P τ) {t u ty e:TypeId} {tt tu te:TE} (ht:τ t=some tt) (hu:τ u=some tu) (he:τ e=some te) (hd:tt.und=.slice e) {e':TypeId} (hd':tu.und=.slice e') (hby:te.bytes≤65536)
 {H:Hp} {n:Nat} {s x:PV} {K:KR} (h:mY te H n s x K):
 ∃v sets accs news,K v sets accs news/\∀{S:Imm} {w:World} {ι:Ix} {H':Hp} {vs vx:Value},Mem S w ι H'->Rep S w ι s vs->Rep S w ι x vx->(∀k∈accs,av H' k=av H k)->(∀k∈news,av H' k=none)->
  gJ P S w ι H' (Builtin.append_ #[t,u] ty #[vs,vx]) v sets:=by
 have nil0:∀{base:Option Addr} {sLen sCap:Nat} (w:World),sLen≤sCap->∀{xb:Option Addr} {xc:Nat},(Builtin.firstCells te.size 0 (.slice xb 0 xc)).run P w=.ok #[] w->
  (Builtin.append_ #[t,u] ty #[.slice base sLen sCap,.slice xb 0 xc]).run P w=.ok (.slice base sLen sCap) w:=by
  intro base sLen sCap w hle xb xc hf;have:=iy (ty:=ty) (w':=w) hτ ht hu he hd hd' (base:=base) (sLen:=sLen) (sCap:=sCap) (n:=0) (xb:=xb) (xc:=xc) qqO hf (by cases base<;>rfl)
  simpa using this
 have row0:∀{S:Imm} {w:World} {esz:Nat} {g:Nat->PV} {vx:Value} {vals:Array Value},Row S w esz 0 g vx vals->(Builtin.firstCells esz 0 vx).run P w=.ok #[] w:=by
  intro S w esz g vx vals h;have:=h.run P w rfl;have hs:=h.size;rw[amo]at hs;rw[Array.eq_empty_of_size_eq_zero hs]at this;exact this
 unfold mY Me at h;split at h
 ·
  split at h
  ·refine⟨_,_,_,_,h,λM hs hx ha hn=>?_⟩
   cases hs;cases hx
   exact .same M (nil0 _ (alo _) rfl) (.nils _)
  ·obtain⟨d,acc,h,hd0⟩:=jF h
   simp only[dM,fI,bW,aK]at h;obtain⟨hfr,hbd,hez,hK⟩:=h;have hez:=alN hez;refine⟨_,_,_,_,hK,λM hs hx ha hn=>?_⟩;rename_i S w ι H' vs vx;have hno:=hn n qqS;have hsrc:=hd0 M ha hx;obtain⟨ad,cap,vals,rfl,hrow⟩:=hsrc.row;cases hs
   by_cases h0:d.cnt=0
   ·rw[h0]at hrow⊢
    rw[hez];rw[hez]at hrow;exact .virgin hno _ M (nil0 _ (alo _) (row0 hrow)) (.islnil _ _ _ h0)
   ·have:=zJ (ty:=ty) hτ ht hu he hd hd' M (k:=n) (.inl hno) (base:=none) (xb:=ad) (cn:=0) (sCap:=0) (dn:=d.cnt) (xc:=cap) (λb0 hw hh=>by rw[M.none_t hno]at hh;cases hh) qqO qqO hby
     (E:=d) qqO hez (old:= #[]) ⟨qqS,λj hj=>by simp at hj,λP w' hw=>rfl⟩ (new:=vals) (by
      rw[hez]at hrow;refine⟨hrow.size,λj hj=>?_,hrow.run⟩;rw[amo,alO];exact hrow.rep j hj)
    rw[alO]at this;rw[hez];exact this
 ·rename_i c tk
  split at h
  ·
   simp only[dM,fI,aK]at h;obtain⟨hbd,hez,hK⟩:=h;refine⟨_,_,_,_,hK,λM hs hx ha hn=>?_⟩;cases hx
   obtain⟨ad,cap,e1,hcap⟩:=hs.islCap;subst e1;exact .same M (nil0 _ hcap rfl) hs.drop
  ·have h':=jF h
   clear h;obtain⟨d,acc,h,hd0⟩:=h';split at h
   ·
    rename_i k;rw[bD]at h;obtain⟨ob,hob,h⟩:=h;split at h
    ·rename_i m hw
     simp only[dM,fI,aK]at h;obtain⟨hhw,hm,h⟩:=h;have hm:=alN hm;obtain⟨h,hone⟩:=tL h;obtain⟨E,h,a1,a2,a3,a4,a5⟩:=oL h;try simp only[dM,fI,aK]at h
     obtain⟨hbd,hez,hK⟩:=h;have hez:=alN hez;refine⟨_,_,_,_,hK,λM hs hx ha hn=>?_⟩;rename_i S w ι H' vs vx;have hobj:=(ha k qqS).trans hob;have hsrc:=hd0 M (λk' hk'=>ha k' (by simp[hk'])) hx
     obtain⟨ad,xcap,vals,rfl,hrow⟩:=hsrc.row;have hde:d.esz=te.size:=qqO;have hce:c.esz=te.size:=qqO;rw[hde]at hrow;have hm':m=te.size:=qqO;subst hm';obtain⟨o1,o2⟩:=M.obj k _ hobj;have hcn:c.ncell=c.cnt*te.size:=by rw[bI,hce]
     have hdn:d.ncell=d.cnt*te.size:=by rw[bI,hde]
     have hrow':Row S w te.size d.cnt (λj=>E.get (c.cnt*te.size+j)) (.slice ad d.cnt xcap) vals:=
      ⟨hrow.size,λj hj=>by rw[<-hcn,a5 j qqO];exact hrow.rep j hj,hrow.run⟩
     have hold:∀{base cap},Row S w te.size c.cnt c.get (.slice base c.cnt cap) (vals)∨True->True:=λ_=>trivial;have grow:∀{base:Option Addr} {cap:Nat},Rep S w ι (.isl c (.own k)) (.slice base c.cnt cap)->cap<c.cnt+d.cnt->0<d.cnt->
      gJ P S w ι H' (Builtin.append_ #[t,u] ty #[.slice base c.cnt cap,.slice ad d.cnt xcap]) (.isl E (.own k)) [(k,.tok te.size (hw+d.cnt))]:=by
      intro base cap hr hlt hpos;obtain⟨ad2,cap2,vals2,e1,hrow2⟩:=(Br M hr).row;cases e1
      rw[hce]at hrow2;have:=zJ (ty:=ty) hτ ht hu he hd hd' M (k:=k) (.inr ⟨hw,hobj⟩) (base:=base) (xb:=ad) (cn:=c.cnt) (sCap:=cap) (dn:=d.cnt) (xc:=xcap) (λb0 hw0 hh=>by
       rcases amk hw with hz|hz
       ·rw[o1 hz]at hh;cases hh
       ·obtain⟨b',arr,e0,g1,g2,g3⟩:=o2 hz
        rw[hh]at g1;cases g1;omega) hlt qqO hby (E:=E) a3 hez (old:=vals2)
       ⟨hrow2.size,λj hj=>by rw[a4 j qqO];exact hrow2.rep j hj,hrow2.run⟩ hrow'
      rw[<-hhw]at this⊢;exact this
     cases hs with
     | @islnil _ _ _ a0 hc=>
      by_cases h0:d.cnt=0
      ·rw[h0]at hrow⊢
       refine .again hobj M (nil0 _ (alo _) (row0 hrow)) (.islnil _ _ _ qqO)
      ·have:=grow (base:=a0) (cap:=0) (by rw[hc];exact .islnil _ _ _ hc) qqO qqO
       rw[hc]at this;exact this
     |isl _ _ _ b off cap hc hss hh hf ho=>
      have hr:=Rep.isl (S:=S) (w:=w) ι c (.own k) b off cap hc hss hh hf ho;by_cases hfit:c.cnt+d.cnt≤cap
      ·by_cases h0:d.cnt=0
       ·rw[h0]at hrow⊢
        refine .again hobj M (nil0 _ hc (row0 hrow)) ?_;have hEc:E.cnt=c.cnt:=qqO;have hEn:E.ncell=c.ncell:=by rw[bI,bI,hEc,a1]
        have:=Rep.isl (S:=S) (w:=w) ι E (.own k) b off cap qqO (λj hj=>hss j qqO) (λj hj=>by rw[a4 j qqO];exact hh j qqO) (λh=>by cases h)
         (λk' hk'=>by rw[hEc,a1];exact ho k' hk')
        rw[hEc]at this;exact this
       ·rcases ho k rfl with hz|⟨b1,n1,g1,g2,g3⟩
        ·omega
        ·rcases amk hw with hz|hz
         ·rw[o1 hz]at g1;cases g1
         ·obtain⟨b',arr,e0,q1,q2,q3⟩:=o2 hz
          rw[g1]at q1;cases q1
          rcases g3 with⟨rfl,rfl,g3⟩|g3
          ·subst hhw
           refine ab4 (ty:=ty) hτ ht hu he hd hd' M hobj g1 hfit (λj hj=>g3 j (by rw[hce];exact hj)) hz a3 hez (λj hj=>?_) (λj hj=>?_) hrow'
           ·rw[a4 j qqO]
            have h1:=hss j qqO;have h2:=hh j qqO;rw[alO]at h1 h2;exact⟨h1,h2⟩
           ·rw[<-hcn,a5 j qqO];exact hone j qqO
          ·omega
      ·exact grow hr qqO qqO
    ·exact h.elim
   ·
    simp only[dM,fI]at h;obtain⟨hor,h⟩:=h;obtain⟨E,h,a1,a2,a3,a4,a5⟩:=oL h;simp only[dM,fI,aK,bW]at h;obtain⟨hfr,hbd,hez,hK⟩:=h;have hez:=alN hez;refine⟨_,_,_,_,hK,λM hs hx ha hn=>?_⟩;rename_i S w ι H' vs vx;have hno:=hn n qqS;have hsrc:=hd0 M ha hx;obtain⟨ad,xcap,vals,rfl,hrow⟩:=hsrc.row;have hde:d.esz=te.size:=qqO;have hce:c.esz=te.size:=qqO;rw[hde]at hrow;have hcn:c.ncell=c.cnt*te.size:=by rw[bI,hce]
    have hdn:d.ncell=d.cnt*te.size:=by rw[bI,hde]
    have hrow':Row S w te.size d.cnt (λj=>E.get (c.cnt*te.size+j)) (.slice ad d.cnt xcap) vals:=
     ⟨hrow.size,λj hj=>by rw[<-hcn,a5 j qqO];exact hrow.rep j hj,hrow.run⟩
    have hcap:∃base,vs=.slice base c.cnt c.cnt:=by
     cases hs with
     |islnil _ _ _ hc=>exact⟨_,by rw[hc]⟩
     |isl _ _ _ b off cap hc hss hh hf ho=>exact⟨_,by rw[hf rfl]⟩
    obtain⟨base,rfl⟩:=hcap;obtain⟨ad2,cap2,vals2,e1,hrow2⟩:=(Br M hs).row;cases e1
    rw[hce]at hrow2;rw[hez,a3];by_cases h0:d.cnt=0
    ·have hc0:c.cnt=0:=qqO
     have hE0:E.cnt=0:=qqO;rw[h0]at hrow⊢;rw[show c.cnt+0=0 by omega]
     refine .virgin hno _ M (nil0 _ (alo _) (row0 hrow)) ?_;have key:∀vs:Value,Rep S w ι (.isl c .full) vs->Rep S w ι (.isl E (.own n)) vs:=by
      intro vs hs;cases hs with
      |islnil _ _ _ hc=>exact .islnil _ _ _ hE0
      |isl _ _ _ b off cap hc hss hh hf ho=>
       have:=Rep.isl (S:=S) (w:=w) ι E (.own n) b off 0 qqO (λj hj=>by rw[bI,hE0]at hj;omega) (λj hj=>by rw[bI,hE0]at hj;omega) (λh=>by cases h) (λ_ _=>.inl rfl)
       rw[hE0]at this;rw[hf rfl,hc0];exact this
     exact key _ hs
    ·exact zJ (ty:=ty) hτ ht hu he hd hd' M (k:=n) (.inl hno) (base:=base) (xb:=ad) (cn:=c.cnt) (sCap:=c.cnt) (dn:=d.cnt) (xc:=xcap) (λb0 hw hh=>by rw[M.none_t hno]at hh;cases hh) qqO qqO hby
      (E:=E) a3 hez (old:=vals2) ⟨hrow2.size,λj hj=>by rw[a4 j qqO];exact hrow2.rep j hj,hrow2.run⟩ hrow'
   ·exact h.elim
 ·exact h.elim
end Go.Eng
