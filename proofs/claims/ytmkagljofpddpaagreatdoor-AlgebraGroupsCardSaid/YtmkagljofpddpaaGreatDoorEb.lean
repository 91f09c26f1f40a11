/- An engine that walks through a function of the program with symbolic values, and the proofs that it is sound. No condition. -/
import Derived.Laws.Tables
import Derived.MapKept
import Derived.Lib.ConvBytes
import Derived.Test.YtmkagljofpddpaaGreatDoorEa
open Array renaming getElem?_push→akz,getD_eq_getD_getElem?→akD,getElem?_eq_getElem→akA,length_toList→ak2,getElem?_setIfInBounds_ne→ak5,getElem?_eq_none→akx,size_append→aly,size_map→alz,range→alA,getElem?_append_left→alH
open Bool renaming and_eq_true→akQ,not_eq_true'→ale,not_false→ali,not_true→alj,false_eq_true→als
open Classical renaming not_not→alx
open List renaming length_nil→akm,length_cons→akq,getD_eq_getElem?_getD→akG,getElem?_set→ak1,getElem_of_mem→akK,length_set→ak3,getElem?_set_ne→ak4,length_take→alm,getElem?_take→aln,range→akE,getElem?_toArray→alB,getElem?_cons_zero→alC,getElem?_cons_succ→alD,getElem?_append→alF,getElem?_append_right→alG
open Nat renaming le_refl→aku,sub_self→ak0,le_of_ble_eq_true→akY,zero_add→akS,add_zero→akn,eq_of_beq_eq_true→akR,mul_le_mul_right→ak6,add_mul→ak7,one_mul→ak8,pos_of_ne_zero→ak9,div_lt_iff_lt_mul→ala,div_add_mod→alb,mod_lt→alc,mul_comm→akT,le_div_iff_mul_le→ald,mul_one→akZ,div_one→alf,mod_one→alg,min_eq_left→alh,ne_of_gt→alk,add_assoc→akr,eq_zero_or_pos→alp,mul_add_div→akU,mul_add_mod→akW,zero_le→alq,beq→akM,zero_mul→alu,le_mul_of_pos_right→alv,mul_le_mul→alE,lt_or_ge→akw
open Option renaming getD_some→alo,map_some→akC,map_none→alr
namespace Go.Eng
open Go.RowKit
set_option linter.unusedSimpArgs false
set_option linter.unusedVariables false
variable {P:Program} {r:Option Nat} {τ:TypeId→Option TE}
theorem jR {o:Oper} {ρ:Operand→PV} {H0:Hp} {n:Nat} {c:CL} {v:PV} {accs:List Nat} (hd:∀c,o.op≠ .defer c)
 (h:∀(S:Imm) (w:World) (ι:Ix) (H:Hp) (a:Act),Mem S w ι H→(∀x∈o.op.operands.toList,Rep S w ι (ρ x) (a.eval x))→(∀k∈accs,aA H k=aA H0 k)→
   ∃val arr e,(execOp a.eval o).run P w=.ok (.value val) {w with heap:=w.heap.push (.cells arr e)}∧c.ncell≤arr.size∧(∀j,j<c.ncell→Rep S w ι (c.get j) (arr.getD j undef))∧
    (∀S' w' ι',ι'.o n=some w.heap.size→w'.heap[w.heap.size]? =some (.cells arr e (0,0))→Rep S' w' ι' v val)):
 bH P r o ρ H0 v [(n,.cells c false)] accs [n]:=by
 intro S w ι H a next Q M hr ha hn hk;obtain⟨val,arr,e,h1,h2,h3,h4⟩:=h S w ι H a M hr ha;have hno:=hn n qqS;obtain⟨M',T⟩:=M.new hno h2 h3 (e:=e);exact cB hd h1 (hk val S _ _ M' (jI (M.none_o hno)) (jY M.imm _) (h4 _ _ _ (by simp[Ix.seto]) (gJ _ _)) T)
theorem WR {τ:TypeId→Option TE} {te:TE} {K:TypeId→Prop} (h:WO τ te K):te.zero.cells= #[.pointer none,.slice none 0 0]∧∃e,K e:=by
 unfold WO at h;split at h
 ·split at h
  ·rw[bU]at h
   obtain⟨tf,_,h⟩:=h;split at h
   ·exact⟨h.1,_,h.2⟩
   ·exact h.elim
  ·exact h.elim
 ·exact h.elim
theorem Ev (hτ:bB P τ) {te:TE} {t:TypeId} (ht:τ t=some te) {o:Oper} (ho:o.op=.alloc t) (w:World) (a:Act):
 (execOp a.eval o).run P w=.ok (.value (.pointer (some ⟨w.heap.size,0,none⟩))) {w with heap:=w.heap.push (.cells te.zero.cells t)}:=by
 simp only[execOp,ho];refine dW ?_;simp[Instr.alloc,gT hτ ht,Result.andThen,newVar,newRow]
theorem SA (hτ:bB P τ) {o:Oper} {ρ:Operand→PV} {H0:Hp} {n:Nat} {t e:TypeId} {te:TE} (ho:o.op=.alloc t) (ht:τ t=some te) (hz:te.zero.cells= #[.pointer none,.slice none 0 0]):
 bH P r o ρ H0 (.rp n 0) [(n,.bld t e .empty)] [] [n]:=by
 intro S w ι H a next Q M hr ha hn hk;have hno:=hn n qqS;have h1:=Ev hτ ht ho w a;have hnS:∀j,¬S w.heap.size j:=fun j hs=>by have:=dZ (M.imm _ j hs);omega
 have hw:({w with heap:=w.heap.push (.cells te.zero.cells t)}:World).heap[w.heap.size]? =some (.cells te.zero.cells t (0,0)):=gJ _ _;have hoth:∀b,b<w.heap.size→({w with heap:=w.heap.push (.cells te.zero.cells t)}:World).heap[b]? =w.heap[b]? :=fun b hb=>by
  simp[akz,Nat.ne_of_lt hb]
 obtain⟨M',le,keeps,T⟩:=M.gather [] (n:=n) (o':=.bld t e .empty) (X:=fun b=>b=w.heap.size) (bn:=w.heap.size) (H':=aO H n (.bld t e .empty)) (fun k hk=>by simp at hk) hno rfl (fun b=>by simp[AO.has,Ix.setm])
  (w':={w with heap:=w.heap.push (.cells te.zero.cells t)}) ⟨rfl,rfl,rfl,qqS,fun b hb=>gq (hoth b hb)⟩ hw (fun b hb _=>hoth b hb) (.inl (aku _)) hnS (fun b hb=>.inl (Nat.le_of_eq hb.symm))
  (fun _ _=>⟨w.heap.size,.pointer none,.slice none 0 0,by simp[Ix.setm],by rw[hw,hz],.inl rfl,fun b' j hb'=>by
    have:b'=w.heap.size:=by simpa [Ix.setm]using hb'
    subst this;exact hnS j,by simp[Value.ownBlock],World.ownsRowF_nil _ _ _ _,fun b'=>by simp[Ix.setm,Value.ownBlock]⟩)
  (fun k=>by rw[aX];simp)
 exact cB (fun c e=>by rw[ho]at e;cases e) h1 (hk _ S _ _ M' le keeps (.rp _ _ _ _ (by simp[Ix.setm])) T)
theorem KM (hτ:bB P τ) {md rf CP YP} {o:Oper} {ρ:Operand→PV} {H:Hp} {n:Nat} {t:TypeId} (ho:o.op=.alloc t) {K:KR}
 (h:opK τ md rf CP YP ρ H n o.dst o.op K):∃v sets accs news,K v sets accs news∧bH P r o ρ H v sets accs news:=by
 rw[ho]at h;simp only[opK,bU,bS]at h;obtain⟨te,ht,hfr,hK⟩:=h;split at hK
 ·obtain⟨hz,e,hK⟩:=WR hK
  exact⟨_,_,_,_,hK,SA hτ ho ht hz⟩
 rw[bP]at hK;refine⟨_,_,_,_,hK,jR (fun c e=>by rw[ho]at e;cases e) fun S w ι H' a M hr ha=>?_⟩
 refine⟨.pointer (some ⟨w.heap.size,0,none⟩),te.zero.cells,t,Ev hτ ht ho w a,?_,?_,?_⟩
 ·simp[CL.ncell,mI]
 ·intro j hj
  simp only[CL.ncell,mI]at hj;have:=sP (S:=S) (w:=w) (ι:=ι) te.zero.cells.toList j hj;simpa [CL.get,akD]using this
 ·exact fun S' w' ι' hi _=>.rp _ _ _ _ hi
theorem SB (hτ:bB P τ) {md rf CP YP} {o:Oper} {ρ:Operand→PV} {H:Hp} {n:Nat} {t:TypeId} {x:Operand} (ho:o.op=.box t x) {K:KR}
 (h:opK τ md rf CP YP ρ H n o.dst o.op K):∃v sets accs news,K v sets accs news∧bH P r o ρ H v sets accs news:=by
 rw[ho]at h;simp only[opK,bU,bL]at h;obtain⟨te,ht,h⟩:=h;obtain⟨cs,h,hs⟩:=pE h;rw[bS]at h;refine⟨_,_,_,_,h.2,jR (fun c e=>by rw[ho]at e;cases e) fun S w ι H' a M hr ha=>?_⟩
 obtain⟨h1,h2,h3⟩:=hs (hr x (by simp[ho,Op.operands]))
 refine⟨.pointer (some ⟨w.heap.size,0,none⟩),(a.eval x).cells,t,?_,?_,?_,fun S' w' ι' hi _=>.rp _ _ _ _ hi⟩
 ·simp only[execOp,ho]
  refine dW ?_;simp[Instr.box,newVar,newRow,Result.andThen]
 ·simp[CL.ncell,h2]
 ·exact fun j hj=>(h3 j hj).1
theorem lX (ps:List PV):∀(l:List PV) (o:Nat),(setCells l o ps).length=l.length:=by
 induction ps with
 |nil=>intro l o;rfl
 |cons p ps ih=>intro l o;simp[setCells,ih]
theorem vv (ps:List PV):∀(l:List PV) (o j:Nat),o+ps.length≤l.length→aH (setCells l o ps) j=if o≤j∧j<o+ps.length then aH ps (j-o)else aH l j:=by
 induction ps with
 |nil=>intro l o j h;simp only[setCells,akm];rw[if_neg qqO]
 |cons p ps ih=>
  intro l o j h;simp only[akq]at h;rw[setCells,ih _ _ _ (by simp;omega),pq]
  by_cases h1:j=o
  ·subst h1
   rw[if_neg qqO,if_pos qqO,if_pos (by simp only[akq];omega),ak0];rfl
  ·by_cases h2:o+1≤j∧j<o+1+ps.length
   ·rw[if_pos h2,if_pos (by simp only[akq];omega)]
    obtain⟨d,rfl⟩:∃d,j=o+1+d:=⟨j-(o+1),qqO⟩;rw[show o+1+d-(o+1)=d by omega,show o+1+d-o=d+1 by omega];rfl
   ·rw[if_neg h2,if_neg qqO,if_neg (by simp only[akq];omega)]
theorem Rep.drop {S:Imm} {w:World} {ι:Ix} {c:CL} {t:Tok} {v:Value} (h:Rep S w ι (.isl c t) v):Rep S w ι (.isl c .none) v:=by
 cases h with
 |islnil _ _ _ hc=>exact .islnil _ _ _ hc
 |isl _ _ _ b off cap hc hs hh hf ho=>exact .isl _ _ _ _ _ _ hc hs hh (fun e=>by cases e) (fun k e=>by cases e)
theorem Ew {c:CL} {off:Nat} {cs:List PV} {K:CL→Prop} (h:wrK c off cs K):∃c',K c'∧c'.ncell=c.ncell∧off+cs.length≤c.ncell∧
 ∀j (S:Imm) (w:World) (ι:Ix) (v:Value),(if off≤j∧j<off+cs.length then Rep S w ι (aH cs (j-off)) v else Rep S w ι (c.get j) v)→j<c.ncell→Rep S w ι (c'.get j) v:=by
 unfold wrK at h;have one':∀(off j:Nat),off≤j∧j<off+1↔j=off:=fun off j=>qqO;split at h
 ·rename_i ds
  rw[aK,bP]at h;have hb:=akY h.1;refine⟨_,h.2,by simp[CL.ncell,lX],hb,fun j S w ι v hv hj=>?_⟩
  simp only[CL.get,vv _ _ _ _ hb];split at hv
  ·rename_i hc;rw[if_pos hc];exact hv
  ·rename_i hc;rw[if_neg hc];exact hv
 ·rename_i q xs
  split at h
  ·rename_i q' x
   rw[aK]at h;obtain⟨hq,hlt,hK⟩:=h;have hq:=of_decide_eq_true hq;subst hq;refine⟨_,hK,by simp[CL.ncell],by simp[CL.ncell];omega,fun j S w ι v hv hj=>?_⟩
   simp only[akq,akm,akS,one']at hv;simp only[CL.get,akG,ak1];by_cases e:j=off
   ·subst e;simp only[if_true,ak0,aH]at hv;simpa [hlt]using hv
   ·rw[if_neg e]at hv;simp only[CL.get,akG]at hv;rw[if_neg (Ne.symm e)];exact hv
  ·exact h.elim
 ·rename_i xs
  have key:∀(b:Bool) (p:PV),(p=.bp b∨p=.bool b)→cs=[p]→off<xs.length→∃c',(∀(K:CL→Prop),K (.bools (xs.set off b))→K c')∧c'.ncell=(CL.bools xs).ncell∧off+cs.length≤(CL.bools xs).ncell∧
   ∀j (S:Imm) (w:World) (ι:Ix) (v:Value),(if off≤j∧j<off+cs.length then Rep S w ι (aH cs (j-off)) v else Rep S w ι ((CL.bools xs).get j) v)→j<(CL.bools xs).ncell→Rep S w ι (c'.get j) v:=by
   intro b p hp hcs hlt;refine⟨.bools (xs.set off b),fun K h=>h,by simp[CL.ncell],by simp[CL.ncell,hcs];omega,fun j S w ι v hv hj=>?_⟩
   simp only[hcs,akq,akm,akS,one']at hv;simp only[CL.get,akG,ak1];by_cases e:j=off
   ·subst e;simp only[if_true,ak0,aH]at hv
    have:Rep S w ι (.bp b) v:=by
     rcases hp with rfl|rfl
     ·exact hv
     ·cases hv;constructor
    simpa [hlt]using this
   ·rw[if_neg e]at hv;simp only[CL.get,akG]at hv;rw[if_neg (Ne.symm e)];exact hv
  split at h
  ·rename_i b
   obtain⟨c',h1,h2⟩:=key b _ (.inl rfl) rfl h.1;exact⟨c',h1 _ h.2,h2⟩
  ·rename_i b
   obtain⟨c',h1,h2⟩:=key b _ (.inr rfl) rfl h.1;exact⟨c',h1 _ h.2,h2⟩
  ·exact h.elim
 ·rename_i xs
  split at h
  ·rename_i x
   refine⟨_,h.2,by simp[CL.ncell],by simp[CL.ncell];omega,fun j S w ι v hv hj=>?_⟩
   simp only[akq,akm,akS,one']at hv;simp only[CL.get,akG,ak1];by_cases e:j=off
   ·subst e;simp only[if_true,ak0,aH]at hv;simpa [h.1]using hv
   ·rw[if_neg e]at hv;simp only[CL.get,akG]at hv;rw[if_neg (Ne.symm e)];exact hv
  ·exact h.elim
 ·rename_i q xss
  have key:∀(ys:List Int) (p:PV),(∀(S:Imm) (w:World) (ι:Ix) (v:Value),Rep S w ι p v→Rep S w ι (.isl (.ints q ys) .none) v)→cs=[p]→off<xss.length→
   ∃c',(∀(K:CL→Prop),K (.rows q (xss.set off ys))→K c')∧c'.ncell=(CL.rows q xss).ncell∧off+cs.length≤(CL.rows q xss).ncell∧
   ∀j (S:Imm) (w:World) (ι:Ix) (v:Value),(if off≤j∧j<off+cs.length then Rep S w ι (aH cs (j-off)) v else Rep S w ι ((CL.rows q xss).get j) v)→j<(CL.rows q xss).ncell→Rep S w ι (c'.get j) v:=by
   intro ys p hp hcs hlt;refine⟨.rows q (xss.set off ys),fun K h=>h,by simp[CL.ncell],by simp[CL.ncell,hcs];omega,fun j S w ι v hv hj=>?_⟩
   simp only[hcs,akq,akm,akS,one']at hv;simp only[CL.get,akG,ak1];by_cases e:j=off
   ·subst e;simp only[if_true,ak0,aH]at hv
    have:=hp _ _ _ _ hv;simpa [hlt]using this
   ·rw[if_neg e]at hv;simp only[CL.get,akG]at hv;rw[if_neg (Ne.symm e)];exact hv
  split at h
  ·rename_i q' ys t
   rw[aK]at h;obtain⟨hq,hlt,hK⟩:=h;have hq:=of_decide_eq_true hq;subst hq;obtain⟨c',h1,h2⟩:=key ys _ (fun S w ι v hv=>hv.drop) rfl hlt;exact⟨c',h1 _ hK,h2⟩
  ·obtain⟨c',h1,h2⟩:=key [] .nils (fun S w ι v hv=>by cases hv;exact .islnil _ _ _ rfl) rfl h.1
   exact⟨c',h1 _ h.2,h2⟩
  ·exact h.elim
 ·exact h.elim
theorem KO (hτ:bB P τ) {md rf CP YP} {o:Oper} {ρ:Operand→PV} {H:Hp} {n:Nat} {t:TypeId} {x y:Operand} (ho:o.op=.store t x y) (hfz:OM rf x=false) {K:KR}
 (h:opK τ md rf CP YP ρ H n o.dst o.op K):∃v sets accs news,K v sets accs news∧bH P r o ρ H v sets accs news:=by
 rw[ho]at h;simp only[opK,bU,bL,hfz]at h;obtain⟨te,ht,h⟩:=h;have hd:∀c,o.op≠ .defer c:=fun c e=>by rw[ho]at e;cases e
 split at h
 ·rename_i k off hρ
  obtain⟨cs,h,hs⟩:=pE h;rw[bE]at h;obtain⟨ob,hob,h⟩:=h;split at h
  ·rename_i c
   obtain⟨c',hK,hn1,hn2,hget⟩:=Ew h;refine⟨_,_,_,_,hK,?_⟩;intro S w ι H' a next Q M hr ha hn hk;have hob':=(ha k qqS).trans hob;have hr1:=hr x (by simp[ho,Op.operands])
   obtain⟨e1,e2,e3⟩:=hs (hr y (by simp[ho,Op.operands]))
   rw[hρ]at hr1;obtain⟨b,arr,e,g1,g2,g3,g4,g5⟩:=M.obj k _ hob';cases hev:a.eval x<;>rw[hev]at hr1<;>cases hr1
   rename_i b' hb';rw[g1]at hb';cases hb'
   have hone:∀v∈(a.eval y).cells.toList,v.oneCell'=true:=by
    intro v hv;obtain⟨i,hi,rfl⟩:=akK hv;have h0:=e3 i (by rw[e2];simpa using hi)
    have:=h0.1.oneCell h0.2;simpa [akD,akA (show i<(a.eval y).cells.size by simpa using hi)]using this
   have hsz:off+0+(a.eval y).cells.toList.length≤arr.size:=by simp[←e2];omega
   obtain⟨w',r1,u⟩:=bQ P (a.eval y).cells.toList g2 hone hsz;have hc':∀j,j<c'.ncell→Rep S w ι (c'.get j) ((putRow arr (off+0) (a.eval y).cells.toList).getD j undef):=by
    intro j hj;refine hget j S w ι _ ?_ qqO;rw[fA _ _ _ _ (by simp[←e2];omega)]
    simp only[akn,ak2,←e2];split
    ·rename_i hin
     have:=(e3 (j-off) qqO).1;simpa [akD]using this
    ·have:=g4 j qqO
     simpa using this
   obtain⟨M',T⟩:=M.write hob' g1 g2 u (by rw[bW];exact aku _) (by rw[bW];omega) hc'
   refine eG hd (w':=w') ?_ (hk undef S w' ι M' (.refl _) (T 0).keeps (.any _ _) T);simp only[execOp,ho];refine kU ?_;simp only[Instr.storeAt,hev,Instr.sureAddr,Sem.run_bind,Sem.run_pure,Result.andThen,storeVar,bI hτ ht];rw[if_neg (by simp[←e2,e1])]
   simpa [Result.andThen]using r1
  ·rename_i all l rc
   split at h
   ·rename_i k' b n' hv
    obtain⟨⟨hlt,hmem,hn'⟩,hK⟩:=h;refine⟨_,_,_,_,hK,?_⟩;intro S w ι H' a next Q M hr ha hn hk;have hob':=(ha k qqS).trans hob;have hr1:=hr x (by simp[ho,Op.operands])
    have hr2:=hr y (by simp[ho,Op.operands])
    obtain⟨e1,e2,e3⟩:=hs hr2;rw[hρ]at hr1;rw[hv]at hr2;obtain⟨b0,arr,e,g1,g2,g3,g4,g5,g6,g7,g8⟩:=M.obj k _ hob';cases hev:a.eval x<;>rw[hev]at hr1<;>cases hr1
    rename_i b' hb';rw[g1]at hb';cases hb'
    cases hey:a.eval y<;>rw[hey]at hr2<;>cases hr2
    rename_i cap hcap;have hu:Upd w (w.setCell ⟨b0,off,none⟩ (.slice (some ⟨b,0,none⟩) n' cap)) b0 (arr.setIfInBounds off (.slice (some ⟨b,0,none⟩) n' cap)) e:=yQ g2 _;obtain⟨w',r1,u⟩:=bQ P [.slice (some ⟨b,0,none⟩) n' cap] (o:=off) (i:=0) g2 (by intro v hv;simp at hv;subst hv;rfl) (by simp;omega)
    simp only[akn,putRow]at u;obtain⟨M',K',T⟩:=M.matOrd (l':=l.set off b) hob' g1 g2 u qqS (by simp;omega) (fun i hi=>by
     simp only[ak3]at hi;obtain⟨q1,c1,q2,q3⟩:=g8 i hi;by_cases ei:i=off
     ·subst ei
      have e5:(l.set i b).getD i 0=b:=by simp[akG,hi]
      rw[e5];exact⟨hmem,cap,by rw[←hn'];exact hcap,by rw[←hn'];simp[akD,show i<arr.size by omega]⟩
     ·have e5:(l.set off b).getD i 0=l.getD i 0:=by rw[akG,akG,ak4 (Ne.symm ei)]
      rw[e5];refine⟨q1,c1,q2,?_⟩;rw[←q3];simp[akD,ak5 (Ne.symm ei)])
    refine eG hd (w':=w') ?_ (hk undef S w' ι M' (.refl _) K' (.any _ _) T);simp only[execOp,ho];refine kU ?_;rw[hey]at e2 e3;simp only[Instr.storeAt,hev,Instr.sureAddr,Sem.run_bind,Sem.run_pure,Result.andThen,storeVar,bI hτ ht,hey];rw[if_neg (by simp[←e2,e1])]
    simpa [Result.andThen,Value.cells]using r1
   ·exact h.elim
  ·rename_i q f c
   have go:∀{S:Imm} {w:World} {ι:Ix} {H':Hp} {a:Act} {vy:Value},Mem S w ι H'→aA H' k=some (.qmat q f c)→(∀x∈o.op.operands.toList,Rep S w ι (ρ x) (a.eval x))→a.eval y=vy→vy.cells= #[vy]→vy.oneCell'=true→off<q→
    ∃b0 arr e w',ι.o k=some b0∧w.heap[b0]? =some (.cells arr e (0,0))∧q≤arr.size∧(∀j,¬S b0 j)∧Upd w w' b0 (arr.setIfInBounds off vy) e∧(execOp a.eval o).run P w=.ok .skip w':=by
    intro S w ι H' a vy M hob' hr hev' hc1 hc2 hlt;have hr1:=hr x (by simp[ho,Op.operands])
    have hr2:=hr y (by simp[ho,Op.operands])
    obtain⟨e1,e2,e3⟩:=hs hr2;rw[hρ]at hr1;obtain⟨b0,arr,e,l,g1,g2,g3,g4,_⟩:=M.obj k _ hob';cases hev:a.eval x<;>rw[hev]at hr1<;>cases hr1
    rename_i b' hb';rw[g1]at hb';cases hb'
    obtain⟨w',r1,u⟩:=bQ P [vy] (o:=off) (i:=0) g2 (by intro v hv;simp at hv;subst hv;exact hc2) (by simp;omega)
    simp only[akn,putRow]at u;refine⟨b0,arr,e,w',g1,g2,g3,g4,u,?_⟩;simp only[execOp,ho];refine kU ?_;rw[hev']at e2 e3;simp only[Instr.storeAt,hev,Instr.sureAddr,Sem.run_bind,Sem.run_pure,Result.andThen,storeVar,bI hτ ht,hev'];rw[if_neg (by simp[←e2,e1])]
    simpa [Result.andThen,hc1]using r1
   have set1:∀(arr:Array Value) (vy:Value),off<arr.size→(arr.setIfInBounds off vy).getD off undef=vy:=fun arr vy h=>by simp[akD,h]
   have set2:∀(arr:Array Value) (vy:Value) (i:Nat),i≠off→(arr.setIfInBounds off vy).getD i undef=arr.getD i undef:=fun arr vy i h=>by
    simp[akD,ak5 (Ne.symm h)]
   unfold Sr at h;split at h
   ·rename_i hv
    obtain⟨⟨hlt,hf⟩,hK⟩:=h;refine⟨_,_,_,_,hK,?_⟩;intro S w ι H' a next Q M hr ha hn hk;have hob':=(ha k qqS).trans hob;have hr2:=hr y (by simp[ho,Op.operands])
    rw[hv]at hr2;obtain⟨vy,hey⟩:∃vy,a.eval y=vy:=⟨_,rfl⟩;rw[hey]at hr2;cases hr2
    obtain⟨b0,arr,e,w',q1,q2,q3,q4,u,r1⟩:=go M hob' hr hey rfl rfl hlt;obtain⟨M',K',T⟩:=M.putNil hob' q1 hlt hf q2 u qqS (set1 _ _ qqO) (set2 _ _);exact eG hd r1 (hk undef S w' ι M' (.refl _) K' (.any _ _) T)
   ·rename_i hv
    obtain⟨d,c',od,h,hod,hox,hoT,hsrc⟩:=vo h;rw[aK]at h;obtain⟨⟨hlt,hf⟩,hkd,hK⟩:=h;have hkd:k≠d:=fun e=>by subst e;simp at hkd
    refine⟨_,_,_,_,hK,?_⟩;intro S w ι H' a next Q M hr ha hn hk;have hob':=(ha k qqS).trans hob;have hod':=(ha d qqS).trans hod;have hr2:=hr y (by simp[ho,Op.operands])
    obtain⟨bd,cap,e1,e2,e3,e4,e5,e6,e7⟩:=hsrc M hod' hr2;obtain⟨b0,arr,e,w',q1,q2,q3,q4,u,r1⟩:=go M hob' hr e1 rfl rfl hlt;obtain⟨ι',M',le,K',T⟩:=M.putRow hob' hod' hkd q1 e2 hox hoT e3 e4 e5 e6 e7 hlt hf q2 u qqS (set1 _ _ qqO) (set2 _ _);exact eG hd r1 (hk undef S w' ι' M' le K' (.any _ _) T)
  ·exact h.elim
 ·rename_i k m i j hρ
  rw[bE]at h;obtain⟨ob,hob,h⟩:=h;split at h
  ·rename_i m' rs fz
   split at h
   ·exact h.elim
   ·split at h
    ·rename_i cs hv
     rw[aK]at h;simp only[akQ]at h;obtain⟨⟨hlt,hlen,hone⟩,⟨e1,e2,e3,hagg⟩,hK⟩:=h;have e1:=akR e1;have e2:=akR e2;have e3:=akR e3;subst e1;subst e2;refine⟨_,_,_,_,hK,?_⟩;intro S w ι H' a next Q M hr ha hn hk;have hob':=(ha k qqS).trans hob;have hr1:=hr x (by simp[ho,Op.operands])
     have hr2:=hr y (by simp[ho,Op.operands])
     rw[hρ]at hr1;rw[hv]at hr2;obtain⟨b,arr,e,g1,g2,g3,g4,g5⟩:=M.obj k _ hob';cases hev:a.eval x<;>rw[hev]at hr1<;>cases hr1
     rename_i b' hb';rw[g1]at hb';cases hb'
     obtain⟨vy,hey⟩:∃v,a.eval y=v:=⟨_,rfl⟩;rw[hey]at hr2;cases hr2 with
     |agg _ _ vs hvl hvs=>
     have hrow:i*m+m≤rs.length*m:=by
      have:=ak6 m (show i+1≤rs.length by omega)
      rw[ak7,ak8]at this;exact this
     have g3':rs.length*m≤arr.size:=g3;have hvm:vs.size=m:=qqO;have honeV:∀v∈vs.toList,v.oneCell'=true:=by
      intro v hv;obtain⟨q,hq,rfl⟩:=akK hv;have hq':q<cs.length:=by simp at hq;omega
      have:=(hvs q hq').oneCell (jZ cs hone q hq');simpa [akD,akA (show q<vs.size by simpa using hq)]using this
     obtain⟨w',r1,u⟩:=bQ P vs.toList (o:=i*m+0) (i:=0) g2 honeV (by simp;omega)
     simp only[akn]at u;have hput:∀j,(putRow arr (i*m) vs.toList).getD j undef=if i*m≤j∧j<i*m+m then vs.getD (j-i*m) undef else arr.getD j undef:=by
      intro j;rw[fA _ _ _ _ (by simp;omega)]
      simp only[ak2,hvm];congr 1;simp[akD]
     obtain⟨M',T⟩:=M.write (c':=.recs m (rs.set i cs)) hob' g1 g2 u (by rw[bW];exact aku _) (by rw[bW];simpa [CL.ncell]using g3) (fun j hj=>by
      simp only[CL.ncell,ak3]at hj;have hm0:0<m:=ak9 (fun hz=>by subst hz;simp at hj)
      have hdj:j / m<rs.length:=(ala hm0).2 hj;have old:=g4 j (by simpa [CL.ncell]using hj)
      simp only[CL.get]at old⊢;have hdm:=alb j m;have hml:=alc j hm0;rw[hput];by_cases ej:j / m=i
      ·have hj1:i*m≤j:=by rw[←ej,akT];omega
       have hj2:j-i*m=j % m:=by rw[←ej,akT];omega
       rw[if_pos ⟨hj1,by rw[←ej,akT];rw[←ej]at hj1;omega⟩,hj2]
       rw[show(rs.set i cs).getD (j / m) []=cs by rw[ej];simp[akG,←ej,hdj]]
       exact hvs (j % m) qqO
      ·rw[show(rs.set i cs).getD (j / m) []=rs.getD (j / m) [] by rw[akG,akG,ak4 (Ne.symm ej)]]
       rw[if_neg (fun hh=>ej (by
        have h1:i≤j / m:=(ald hm0).2 hh.1;have h2:j / m<i+1:=(ala hm0).2 (by rw[ak7,ak8];exact hh.2)
        omega))]
       exact old)
     refine eG hd (w':=w') ?_ (hk undef S w' ι M' (.refl _) (T 0).keeps (.any _ _) T);simp only[execOp,ho];refine kU ?_;simp only[Instr.storeAt,hev,Instr.sureAddr,Sem.run_bind,Sem.run_pure,Result.andThen,storeVar,bI hτ ht,hey];rw[if_neg (by simp[Value.cells,e3,hvm])]
     simpa [Result.andThen,Value.cells]using r1
    ·exact h.elim
  ·exact h.elim
 ·rename_i k b m i j hρ
  rw[bE]at h;obtain⟨ob,hob,h⟩:=h;split at h
  ·rename_i all l rc
   obtain⟨hmem,h⟩:=h;unfold ZP at h;split at h
   ·rename_i q c
    split at h
    ·rename_i q' z hv
     rw[aK]at h;simp only[akQ,ale,decide_eq_true_eq]at h;obtain⟨hlt,⟨⟨e1,e2⟩,e3,hagg,e4⟩,hK⟩:=h;have e1:=akR e1;have e2:=akR e2;have e3:=akR e3;subst e1;subst e2;subst e4;refine⟨_,_,_,_,hK,?_⟩;intro S w ι H' a next Q M hr ha hn hk;have hob':=(ha k qqS).trans hob;have hr1:=hr x (by simp[ho,Op.operands])
     have hr2:=hr y (by simp[ho,Op.operands])
     rw[hρ]at hr1;rw[hv]at hr2;obtain⟨b0,arr0,e0,_,_,_,_,_,_,g7,_⟩:=M.obj k _ hob';obtain⟨arr,e,g1,g2,g3,g4⟩:=g7 b hmem;cases hev:a.eval x<;>rw[hev]at hr1<;>cases hr1
     cases hey:a.eval y<;>rw[hey]at hr2<;>cases hr2
     have hsz:i<arr.size:=Nat.lt_of_lt_of_le hlt g2;obtain⟨w',r1,u⟩:=bQ P [.int q' z] (o:=i*1+0) (i:=0) g1 (by intro v hv;simp at hv;subst hv;rfl) (by simp;omega)
     simp only[akn,akZ,putRow]at u;obtain⟨M',K',T⟩:=M.matRow (rc':=.ints q' (bA c b ((c b).set i z))) hob' hmem g1 u qqS (fun b' hb'=>by simp[RC.at,bA,hb']) (by simp[RC.at,bA,CL.cnt]) (by simpa [RC.at,bA,CL.ncell]using g2) (fun j hj=>by
      simp only[RC.at,bA,if_true,CL.ncell,ak3]at hj⊢;have:=g3 j hj;simp only[RC.at,CL.get]at this⊢;by_cases ej:j=i
      ·subst ej
       rw[show((c b).set j z).getD j 0=z by simp[akG,hj]]
       simp[akD,hsz];exact .int _ _ _
      ·rw[show((c b).set i z).getD j 0=(c b).getD j 0 by rw[akG,akG,ak4 (Ne.symm ej)]]
       simpa [akD,ak5 (Ne.symm ej)]using this)
     refine eG hd (w':=w') ?_ (hk undef S w' ι M' (.refl _) K' (.any _ _) T);simp only[execOp,ho];refine kU ?_;simp only[Instr.storeAt,hev,Instr.sureAddr,Sem.run_bind,Sem.run_pure,Result.andThen,storeVar,bI hτ ht,hey];rw[if_neg (by simp[Value.cells,e3])]
     simpa [Result.andThen,Value.cells]using r1
    ·exact h.elim
   ·rename_i e' c
    split at h
    ·rename_i cs hv
     rw[aK]at h;simp only[akQ]at h;obtain⟨⟨hlt,hlen,hone,hinl⟩,⟨⟨e1,e2⟩,e3,hagg⟩,hK⟩:=h;have e1:=akR e1;have e2:=akR e2;have e3:=akR e3;subst e1;subst e2;refine⟨_,_,_,_,hK,?_⟩;intro S w ι H' a next Q M hr ha hn hk;have hob':=(ha k qqS).trans hob;have hr1:=hr x (by simp[ho,Op.operands])
     have hr2:=hr y (by simp[ho,Op.operands])
     rw[hρ]at hr1;rw[hv]at hr2;obtain⟨b0,arr0,e0,_,_,_,_,_,_,g7,_⟩:=M.obj k _ hob';obtain⟨arr,e,g1,g2,g3,g4⟩:=g7 b hmem;cases hev:a.eval x<;>rw[hev]at hr1<;>cases hr1
     obtain⟨vy,hey⟩:∃v,a.eval y=v:=⟨_,rfl⟩;rw[hey]at hr2;cases hr2 with
     |agg _ _ vs hvl hvs=>
     have hvs':=hvs;have hrow:i*m+m≤(c b).length*m:=by
      have:=ak6 m (show i+1≤(c b).length by omega)
      rw[ak7,ak8]at this;exact this
     have g2':(c b).length*m≤arr.size:=g2;have hvm:vs.size=m:=qqO;have honeV:∀v∈vs.toList,v.oneCell'=true:=by
      intro v hv;obtain⟨q,hq,rfl⟩:=akK hv;have hq':q<cs.length:=by simp at hq;omega
      have:=(hvs q hq').oneCell (jZ cs hone q hq');simpa [akD,akA (show q<vs.size by simpa using hq)]using this
     obtain⟨w',r1,u⟩:=bQ P vs.toList (o:=i*m+0) (i:=0) g1 honeV (by simp;omega)
     simp only[akn]at u;have hput:∀j,(putRow arr (i*m) vs.toList).getD j undef=if i*m≤j∧j<i*m+m then vs.getD (j-i*m) undef else arr.getD j undef:=by
      intro j;rw[fA _ _ _ _ (by simp;omega)]
      simp only[ak2,hvm];congr 1;simp[akD]
     obtain⟨M',K',T⟩:=M.matRow (rc':=.recs m (bA c b ((c b).set i cs))) hob' hmem g1 u (by rw[bW];exact aku _) (fun b' hb'=>by simp[RC.at,bA,hb']) (by simp[RC.at,bA,CL.cnt]) (by rw[bW];simpa [RC.at,bA,CL.ncell]using g2) (fun j hj=>by
      simp only[RC.at,bA,if_true,CL.ncell,ak3]at hj⊢;have hm0:0<m:=ak9 (fun hz=>by subst hz;simp at hj)
      have hdj:j / m<(c b).length:=(ala hm0).2 hj;have old:=g3 j (by simpa [RC.at,CL.ncell]using hj)
      simp only[RC.at,CL.get]at old⊢;have hdm:=alb j m;have hml:=alc j hm0;rw[hput];by_cases ej:j / m=i
      ·have hj1:i*m≤j:=by rw[←ej,akT];omega
       have hj2:j-i*m=j % m:=by rw[←ej,akT];omega
       rw[if_pos ⟨hj1,by rw[←ej,akT];rw[←ej]at hj1;omega⟩,hj2]
       rw[show((c b).set i cs).getD (j / m) []=cs by rw[ej];simp[akG,←ej,hdj]]
       exact jl hinl (j % m) qqO (hvs (j % m) qqO)
      ·rw[show((c b).set i cs).getD (j / m) []=(c b).getD (j / m) [] by rw[akG,akG,ak4 (Ne.symm ej)]]
       rw[if_neg (fun hh=>ej (by
        have h1:i≤j / m:=(ald hm0).2 hh.1;have h2:j / m<i+1:=(ala hm0).2 (by rw[ak7,ak8];exact hh.2)
        omega))]
       exact old)
     refine eG hd (w':=w') ?_ (hk undef S w' ι M' (.refl _) K' (.any _ _) T);simp only[execOp,ho];refine kU ?_;simp only[Instr.storeAt,hev,Instr.sureAddr,Sem.run_bind,Sem.run_pure,Result.andThen,storeVar,bI hτ ht,hey];rw[if_neg (by simp[Value.cells,e3,hvm])]
     simpa [Result.andThen,Value.cells]using r1
    ·rename_i z hv
     rw[aK]at h;simp only[akQ,ale]at h;obtain⟨hlt,⟨⟨e1,e2⟩,e3,hagg,e4⟩,hK⟩:=h;have e1:=akR e1;have e2:=akR e2;have e3:=akR e3;have e4:=akR e4;subst e1;subst e2;subst e4;refine⟨_,_,_,_,hK,?_⟩;intro S w ι H' a next Q M hr ha hn hk;have hob':=(ha k qqS).trans hob;have hr1:=hr x (by simp[ho,Op.operands])
     have hr2:=hr y (by simp[ho,Op.operands])
     rw[hρ]at hr1;rw[hv]at hr2;obtain⟨b0,arr0,e0,_,_,_,_,_,_,g7,_⟩:=M.obj k _ hob';obtain⟨arr,e,g1,g2,g3,g4⟩:=g7 b hmem;cases hev:a.eval x<;>rw[hev]at hr1<;>cases hr1
     cases hey:a.eval y<;>rw[hey]at hr2<;>cases hr2
     have g2':(c b).length*1≤arr.size:=g2;have hsz:i<arr.size:=qqO;obtain⟨w',r1,u⟩:=bQ P [.string z] (o:=i*1+0) (i:=0) g1 (by intro v hv;simp at hv;subst hv;rfl) (by simp;omega)
     simp only[akn,akZ,putRow]at u;obtain⟨M',K',T⟩:=M.matRow (rc':=.recs 1 (bA c b ((c b).set i [.str z]))) hob' hmem g1 u qqS (fun b' hb'=>by simp[RC.at,bA,hb']) (by simp[RC.at,bA,CL.cnt]) (by simpa [RC.at,bA,CL.ncell]using g2) (fun j hj=>by
      simp only[RC.at,bA,if_true,CL.ncell,ak3,akZ]at hj⊢;have:=g3 j (by simpa [RC.at,CL.ncell]using hj)
      simp only[RC.at,CL.get,alf,alg]at this⊢;by_cases ej:j=i
      ·subst ej
       rw[show((c b).set j [.str z]).getD j []=[.str z] by simp[akG,hj]]
       simp[akD,hsz,aH];exact .str _ _
      ·rw[show((c b).set i [.str z]).getD j []=(c b).getD j [] by rw[akG,akG,ak4 (Ne.symm ej)]]
       simpa [akD,ak5 (Ne.symm ej)]using this)
     refine eG hd (w':=w') ?_ (hk undef S w' ι M' (.refl _) K' (.any _ _) T);simp only[execOp,ho];refine kU ?_;simp only[Instr.storeAt,hev,Instr.sureAddr,Sem.run_bind,Sem.run_pure,Result.andThen,storeVar,bI hτ ht,hey];rw[if_neg (by simp[Value.cells,e3])]
     simpa [Result.andThen,Value.cells]using r1
    ·exact h.elim
   ·rename_i e' q f
    split at h
    ·rename_i cs hv
     rw[aK]at h;simp only[akQ]at h;obtain⟨⟨hlt,hlen,hone,hinl⟩,⟨⟨e1,e2⟩,e3,hagg⟩,hK⟩:=h;have e1:=akR e1;have e2:=akR e2;have e3:=akR e3;subst e1;subst e2;refine⟨_,_,_,_,hK,?_⟩;intro S w ι H' a next Q M hr ha hn hk;have hob':=(ha k qqS).trans hob;have hr1:=hr x (by simp[ho,Op.operands])
     have hr2:=hr y (by simp[ho,Op.operands])
     rw[hρ]at hr1;rw[hv]at hr2;obtain⟨b0,arr0,e0,_,_,_,_,_,_,g7,_⟩:=M.obj k _ hob';obtain⟨arr,e,g1,g2,g3,g4⟩:=g7 b hmem;cases hev:a.eval x<;>rw[hev]at hr1<;>cases hr1
     obtain⟨vy,hey⟩:∃v,a.eval y=v:=⟨_,rfl⟩;rw[hey]at hr2;cases hr2 with
     |agg _ _ vs hvl hvs=>
     have hvs':=hvs;have hrow:i*m+m≤q*m:=by
      have:=ak6 m (show i+1≤q by omega)
      rw[ak7,ak8]at this;exact this
     have g2':q*m≤arr.size:=g2;have hvm:vs.size=m:=qqO;have honeV:∀v∈vs.toList,v.oneCell'=true:=by
      intro v hv;obtain⟨q,hq,rfl⟩:=akK hv;have hq':q<cs.length:=by simp at hq;omega
      have:=(hvs q hq').oneCell (jZ cs hone q hq');simpa [akD,akA (show q<vs.size by simpa using hq)]using this
     obtain⟨w',r1,u⟩:=bQ P vs.toList (o:=i*m+0) (i:=0) g1 honeV (by simp;omega)
     simp only[akn]at u;have hput:∀j,(putRow arr (i*m) vs.toList).getD j undef=if i*m≤j∧j<i*m+m then vs.getD (j-i*m) undef else arr.getD j undef:=by
      intro j;rw[fA _ _ _ _ (by simp;omega)]
      simp only[ak2,hvm];congr 1;simp[akD]
     obtain⟨M',K',T⟩:=M.matRow (rc':=.fn m q (bA f b (bA (f b) i cs))) hob' hmem g1 u (by rw[bW];exact aku _) (fun b' hb'=>by simp[RC.at,bA,hb']) (by simp[RC.at,bA,CL.cnt]) (by rw[bW];simpa [RC.at,bA,CL.ncell]using g2) (fun j hj=>by
      simp only[RC.at,bA,if_true,CL.ncell]at hj⊢;have hm0:0<m:=ak9 (fun hz=>by subst hz;simp at hj)
      have hdj:j / m<q:=(ala hm0).2 hj;have old:=g3 j (by simpa [RC.at,CL.ncell]using hj)
      simp only[RC.at,CL.get]at old⊢;have hdm:=alb j m;have hml:=alc j hm0;rw[hput];by_cases ej:j / m=i
      ·have hj1:i*m≤j:=by rw[←ej,akT];omega
       have hj2:j-i*m=j % m:=by rw[←ej,akT];omega
       rw[if_pos ⟨hj1,by rw[←ej,akT];rw[←ej]at hj1;omega⟩,hj2]
       rw[show bA (f b) i cs (j / m)=cs from if_pos ej];exact jl hinl (j % m) qqO (hvs (j % m) qqO)
      ·rw[show bA (f b) i cs (j / m)=f b (j / m)from if_neg ej]
       rw[if_neg (fun hh=>ej (by
        have h1:i≤j / m:=(ald hm0).2 hh.1;have h2:j / m<i+1:=(ala hm0).2 (by rw[ak7,ak8];exact hh.2)
        omega))]
       exact old)
     refine eG hd (w':=w') ?_ (hk undef S w' ι M' (.refl _) K' (.any _ _) T);simp only[execOp,ho];refine kU ?_;simp only[Instr.storeAt,hev,Instr.sureAddr,Sem.run_bind,Sem.run_pure,Result.andThen,storeVar,bI hτ ht,hey];rw[if_neg (by simp[Value.cells,e3,hvm])]
     simpa [Result.andThen,Value.cells]using r1
    ·rename_i z hv
     rw[aK]at h;simp only[akQ,ale]at h;obtain⟨hlt,⟨⟨e1,e2⟩,e3,hagg,e4⟩,hK⟩:=h;have e1:=akR e1;have e2:=akR e2;have e3:=akR e3;have e4:=akR e4;subst e1;subst e2;subst e4;refine⟨_,_,_,_,hK,?_⟩;intro S w ι H' a next Q M hr ha hn hk;have hob':=(ha k qqS).trans hob;have hr1:=hr x (by simp[ho,Op.operands])
     have hr2:=hr y (by simp[ho,Op.operands])
     rw[hρ]at hr1;rw[hv]at hr2;obtain⟨b0,arr0,e0,_,_,_,_,_,_,g7,_⟩:=M.obj k _ hob';obtain⟨arr,e,g1,g2,g3,g4⟩:=g7 b hmem;cases hev:a.eval x<;>rw[hev]at hr1<;>cases hr1
     cases hey:a.eval y<;>rw[hey]at hr2<;>cases hr2
     have g2':q*1≤arr.size:=g2;have hsz:i<arr.size:=qqO;obtain⟨w',r1,u⟩:=bQ P [.string z] (o:=i*1+0) (i:=0) g1 (by intro v hv;simp at hv;subst hv;rfl) (by simp;omega)
     simp only[akn,akZ,putRow]at u;obtain⟨M',K',T⟩:=M.matRow (rc':=.fn 1 q (bA f b (bA (f b) i [.str z]))) hob' hmem g1 u qqS (fun b' hb'=>by simp[RC.at,bA,hb']) (by simp[RC.at,bA,CL.cnt]) (by simpa [RC.at,bA,CL.ncell]using g2) (fun j hj=>by
      simp only[RC.at,bA,if_true,CL.ncell,akZ]at hj⊢;have:=g3 j (by simpa [RC.at,CL.ncell]using hj)
      simp only[RC.at,CL.get,alf,alg]at this⊢;by_cases ej:j=i
      ·subst ej
       rw[show bA (f b) j [.str z] j=[.str z]from if_pos rfl];simp[akD,hsz,aH];exact .str _ _
      ·rw[show bA (f b) i [.str z] j=f b j from if_neg ej]
       simpa [akD,ak5 (Ne.symm ej)]using this)
     refine eG hd (w':=w') ?_ (hk undef S w' ι M' (.refl _) K' (.any _ _) T);simp only[execOp,ho];refine kU ?_;simp only[Instr.storeAt,hev,Instr.sureAddr,Sem.run_bind,Sem.run_pure,Result.andThen,storeVar,bI hτ ht,hey];rw[if_neg (by simp[Value.cells,e3])]
     simpa [Result.andThen,Value.cells]using r1
    ·exact h.elim
  ·exact h.elim
 ·exact h.elim
variable {P:Program} {r:Option Nat} {τ:TypeId→Option TE}
theorem lC {md:Nat} {k:IntKind} {n:Int} {K:PV→Prop} (h:arK md k n K):K (.int k (k.wrap n)):=by
 unfold arK at h;split at h
 ·exact h
 ·split at h
  ·exact h
  ·rw[oG h.1];exact h.2
 ·rw[oG h.1];exact h.2
theorem OT {t:TypeId} {md:Nat} {op:BinOp} {a:IntKind} {m n:Int} {K:PV→Prop} (h:OC md op a m n K) (hsh:op≠ .shl∧op≠ .shr):
 ∃v val,K v∧(∀S w ι,Rep S w ι v val)∧∀w,(binOp op t (.int a m) (.int a n)).run P w=.ok val w:=by
 cases op with
 |add=>exact⟨_,_,lC h,fun _ _ _=>.int _ _ _,fun w=>by simp[binOp,Op.intArith]⟩
 |sub=>exact⟨_,_,lC h,fun _ _ _=>.int _ _ _,fun w=>by simp[binOp,Op.intArith]⟩
 |mul=>exact⟨_,_,lC h,fun _ _ _=>.int _ _ _,fun w=>by simp[binOp,Op.intArith]⟩
 |quo=>
  simp only[OC]at h;have key:n≠0→∀w,(binOp .quo t (.int a m) (.int a n)).run P w=.ok (.int a (a.wrap (m.tdiv n))) w:=fun hn w=>by simp[binOp,Op.intDiv,hn]
  split at h
  ·obtain⟨⟨h1,h2,h3⟩,h4⟩:=h
   refine⟨_,_,h4,fun _ _ _=>.int _ _ _,fun w=>?_⟩;rw[key qqO w,Int.tdiv_eq_ediv_of_nonneg h1,oG h3]
  ·obtain⟨⟨h1,h3⟩,h4⟩:=h
   refine⟨_,_,h4,fun _ _ _=>.int _ _ _,fun w=>?_⟩;rw[key h1 w,oG h3]
  ·exact⟨_,_,h.2,fun _ _ _=>.int _ _ _,key h.1⟩
 |rem=>
  simp only[OC]at h;have key:n≠0→∀w,(binOp .rem t (.int a m) (.int a n)).run P w=.ok (.int a (m.tmod n)) w:=fun hn w=>by simp[binOp,Op.intDiv,hn]
  split at h
  ·obtain⟨⟨h1,h2⟩,h4⟩:=h
   refine⟨_,_,h4,fun _ _ _=>.int _ _ _,fun w=>?_⟩;rw[key qqO w,Int.tmod_eq_emod_of_nonneg h1]
  ·exact⟨_,_,h.2,fun _ _ _=>.int _ _ _,key h.1⟩
 |eql=>exact⟨_,_,h,fun _ _ _=>.bp _ _,fun w=>by simp[binOp,Op.intCmp];rfl⟩
 |neq=>exact⟨_,_,h,fun _ _ _=>.bp _ _,fun w=>by simp[binOp,Op.intCmp];rfl⟩
 |lss=>exact⟨_,_,h,fun _ _ _=>.bp _ _,fun w=>by simp[binOp,Op.intCmp]⟩
 |leq=>exact⟨_,_,h,fun _ _ _=>.bp _ _,fun w=>by simp[binOp,Op.intCmp]⟩
 |gtr=>exact⟨_,_,h,fun _ _ _=>.bp _ _,fun w=>by simp[binOp,Op.intCmp]⟩
 |geq=>exact⟨_,_,h,fun _ _ _=>.bp _ _,fun w=>by simp[binOp,Op.intCmp]⟩
 |and=>exact⟨_,_,h,fun _ _ _=>.int _ _ _,fun w=>by simp[binOp,Op.intBits]⟩
 |or=>exact⟨_,_,h,fun _ _ _=>.int _ _ _,fun w=>by simp[binOp,Op.intBits]⟩
 |xor=>exact⟨_,_,h,fun _ _ _=>.int _ _ _,fun w=>by simp[binOp,Op.intBits]⟩
 |andNot=>exact⟨_,_,h,fun _ _ _=>.int _ _ _,fun w=>by simp[binOp,Op.intBits]⟩
 |shl=>exact absurd rfl hsh.1
 |shr=>exact absurd rfl hsh.2
theorem Md (x y:ByteArray):(x.toList==y.toList)=decide (x=y):=by
 rw[ByteArray.toList_eq,ByteArray.toList_eq];by_cases h:x=y
 ·subst h;simp
 ·rw[decide_eq_false h]
  simp only[beq_eq_false_iff_ne,ne_eq];exact fun e=>h (Go.WideShapes.bytes_inj e)
theorem OU {op:BinOp} {x y:ByteArray} {K:PV→Prop} (h:WH op x y K) {t:TypeId}:∃v val,K v∧(∀S w ι,Rep S w ι v val)∧∀w,(binOp op t (.string x) (.string y)).run P w=.ok val w:=by
 cases op<;>simp only[WH]at h<;>try exact h.elim
 ·refine⟨_,_,h.2,fun _ _ _=>.str _ _,fun w=>?_⟩
  simp only[binOp,Op.stringOp];rw[if_neg (by simp[IntKind.max,IntKind.signed,IntKind.bits];omega)];rfl
 ·exact⟨_,_,h,fun _ _ _=>.bp _ _,fun w=>by simp[binOp,Op.stringOp,Md]⟩
 ·exact⟨_,_,h,fun _ _ _=>.bp _ _,fun w=>by simp[binOp,Op.stringOp,Md]⟩
 ·exact⟨_,_,h,fun _ _ _=>.bp _ _,fun w=>by simp[binOp,Op.stringOp]⟩
theorem OV {op:BinOp} {x y:Bool} {K:PV→Prop} (h:y8 op x y K) {t:TypeId} (ht:P.underlying t=some .bool):∃v val,K v∧(∀S w ι,Rep S w ι v val)∧∀w,(binOp op t (.bool x) (.bool y)).run P w=.ok val w:=by
 have he:∀w,(Op.equal t (.bool x) (.bool y)).run P w=.ok (x==y) w:=fun w=>by
  have e:Op.maxDepth=9999+1:=rfl;unfold Op.equal;rw[e,Op.equalIn];simp only[Sem.run_bind,run_underlying ht,Result.andThen,Sem.run_pure]
 cases op<;>simp only[y8]at h<;>try exact h.elim
 ·exact⟨_,_,h,fun _ _ _=>.bp _ _,fun w=>by simp only[binOp,Sem.run_bind,he,Result.andThen,Sem.run_pure]⟩
 ·exact⟨_,_,h,fun _ _ _=>.bp _ _,fun w=>by simp only[binOp,Sem.run_bind,he,Result.andThen,Sem.run_pure]⟩
structure Held (P:Program) (t:TypeId) (vx vy:Value):Prop where
 get:(vx≠ .nilIface∧∀c,vx≠ .agg c)∨(P.eqGuardType P.depth t=false∧∃xs ys,vx=.agg xs∧vy=.agg ys)
theorem KP {k:CK} {c d:PV} {K:Bool→Prop} (h:OD k c d K):∃r,K r∧∀{S:Imm} {w:World} {ι:Ix} {u v:Value},Rep S w ι c u→Rep S w ι d v→k.fits u∧k.fits v∧(r=true↔u=v):=by
 unfold OD at h;split at h
 ·split at h
  ·split at h
   ·rw[aK]at h
    obtain⟨h1,h⟩:=h;simp only[akQ,decide_eq_true_eq]at h1;obtain⟨rfl,rfl⟩:=h1;refine⟨_,h,fun hx hy=>?_⟩;cases hx;cases hy
    exact⟨⟨_,rfl⟩,⟨_,rfl⟩,qqS⟩
   ·exact h.elim
  ·exact h.elim
 ·split at h
  ·split at h
   ·refine⟨_,h,fun hx hy=>?_⟩
    cases hx;cases hy
    exact⟨⟨_,rfl⟩,⟨_,rfl⟩,qqS⟩
   ·exact h.elim
  ·exact h.elim
 ·split at h
  ·split at h
   ·refine⟨_,h,fun hx hy=>?_⟩
    cases hx;cases hy
    exact⟨⟨_,rfl⟩,⟨_,rfl⟩,qqS⟩
   ·exact h.elim
  ·exact h.elim
theorem yR (ks:List CK):∀{cs ds:List PV} {K:Bool→Prop} (h:flatK ks cs ds K),∃r,K r∧cs.length=ks.length∧ds.length=ks.length∧∀{S:Imm} {w:World} {ι:Ix} {xs ys:Array Value} {off:Nat},off+cs.length=xs.size→off+ds.length=ys.size→
 (∀i,i<cs.length→Rep S w ι (aH cs i) (xs.getD (off+i) undef))→(∀i,i<ds.length→Rep S w ι (aH ds i) (ys.getD (off+i) undef))→dP ks xs off∧dP ks ys off∧(r=true↔d9 ks xs ys off):=by
 induction ks with
 |nil=>
  intro cs ds K h;cases cs with
  |cons _ _=>exact h.elim
  |nil=>cases ds with
   |cons _ _=>exact h.elim
   |nil=>exact⟨true,h,rfl,rfl,fun h1 h2 _ _=>⟨by simp only[dP,akm]at*;omega,by simp only[dP,akm]at*;omega,by simp[d9]⟩⟩
 |cons k r ih=>
  intro cs ds K h;cases cs with
  |nil=>exact h.elim
  |cons c cs=>cases ds with
   |nil=>exact h.elim
   |cons d ds=>
    obtain⟨b,h,hb⟩:=KP (by simpa only[flatK]using h)
    obtain⟨t,h,e1,e2,ht⟩:=ih h;refine⟨_,h,by simp[e1],by simp[e2],fun{S w ι xs ys off} h1 h2 h3 h4=>?_⟩
    simp only[akq]at h1 h2;obtain⟨f1,f2,f3⟩:=hb (h3 0 qqS) (h4 0 qqS);obtain⟨g1,g2,g3⟩:=ht (xs:=xs) (ys:=ys) (off:=off+1) qqO qqO (fun i hi=>by have:=h3 (i+1) (by simpa using hi);rw[show off+1+i=off+(i+1) by omega];exact this) (fun i hi=>by have:=h4 (i+1) (by simpa using hi);rw[show off+1+i=off+(i+1) by omega];exact this)
    have q1:xs[off]? =some (xs.getD (off+0) undef):=by simp[show off<xs.size by omega]
    have q2:ys[off]? =some (ys.getD (off+0) undef):=by simp[show off<ys.size by omega]
    refine⟨⟨⟨_,q1,f1⟩,g1⟩,⟨⟨_,q2,f2⟩,g2⟩,?_⟩;simp only[d9,q1,q2,akQ,f3,g3,Option.some.injEq]
theorem OW {md:Nat} {op:BinOp} {te:TE} {x y:PV} {K:PV→Prop} (h:WI md op te x y K) {t:TypeId} (ht:P.underlying t=some te.und) (hcmp:∀ks,te.cmp=some ks→Gq P t ks):
 ∃v,K v∧∀{S:Imm} {w:World} {ι:Ix} {vx vy:Value},Rep S w ι x vx→Rep S w ι y vy→Held P t vx vy∧∃val,(binOp op t vx vy).run P w=.ok val w∧Rep S w ι v val:=by
 have boolc:∀(s u:Bool) (p q:PV),te.und=.bool→y8 op s u K→(∀{S:Imm} {w:World} {ι:Ix} {v:Value},Rep S w ι p v→v=.bool s)→(∀{S:Imm} {w:World} {ι:Ix} {v:Value},Rep S w ι q v→v=.bool u)→
  ∃v,K v∧∀{S:Imm} {w:World} {ι:Ix} {vx vy:Value},Rep S w ι p vx→Rep S w ι q vy→Held P t vx vy∧∃val,(binOp op t vx vy).run P w=.ok val w∧Rep S w ι v val:=by
  intro s u p q hu hb hp hq;obtain⟨v,val,h1,h2,h3⟩:=OV (P:=P) hb (by rw[ht,hu])
  refine⟨v,h1,fun hx hy=>?_⟩;rw[hp hx,hq hy];exact⟨⟨.inl ⟨qqS,qqS⟩⟩,val,h3 _,h2 _ _ _⟩
 have bv:∀{s:Bool} {S:Imm} {w:World} {ι:Ix} {v:Value},Rep S w ι (.bool s) v→v=.bool s:=fun h=>by cases h;rfl
 have bpv:∀{s:Bool} {S:Imm} {w:World} {ι:Ix} {v:Value},Rep S w ι (.bp s) v→v=.bool s:=fun h=>by cases h;rfl
 unfold WI at h;split at h
 ·rename_i cs
  split at h
  ·rename_i ds
   split at h
   ·rename_i ks hks
    obtain⟨hg,n,hn,hA⟩:=hcmp ks hks;have key:∀{r:Bool} {S:Imm} {w:World} {ι:Ix} {vx vy:Value},(∀{S:Imm} {w:World} {ι:Ix} {xs ys:Array Value} {off:Nat},off+cs.length=xs.size→off+ds.length=ys.size→
     (∀i,i<cs.length→Rep S w ι (aH cs i) (xs.getD (off+i) undef))→(∀i,i<ds.length→Rep S w ι (aH ds i) (ys.getD (off+i) undef))→dP ks xs off∧dP ks ys off∧(r=true↔d9 ks xs ys off))→
     Rep S w ι (.agg cs) vx→Rep S w ι (.agg ds) vy→Held P t vx vy∧(∃xs ys,vx=.agg xs∧vy=.agg ys)∧(Op.equal t vx vy).run P w=.ok r w:=by
     intro r S w ι vx vy hr hx hy;cases hx with
     |agg _ _ xs l1 c1=>cases hy with
      |agg _ _ ys l2 c2=>
       obtain⟨f1,f2,f3⟩:=hr (xs:=xs) (ys:=ys) (off:=0) qqO qqO (fun i hi=>by rw[akS];exact c1 i hi) (fun i hi=>by rw[akS];exact c2 i hi)
       obtain⟨r',e1,e2⟩:=hA w Op.maxDepth xs ys (by unfold Op.maxDepth;omega) f1 f2
       refine⟨⟨.inr ⟨hg,xs,ys,rfl,rfl⟩⟩,⟨xs,ys,rfl,rfl⟩,?_⟩;have:r'=r:=by rw[Bool.eq_iff_iff,e2,f3]
       rw[←this];exact e1
    split at h
    ·obtain⟨r,h,_,_,hr⟩:=yR ks h
     refine⟨_,h,fun hx hy=>?_⟩;obtain⟨k1,⟨xs,ys,rfl,rfl⟩,k2⟩:=key hr hx hy;exact⟨k1,.bool r,by simp only[binOp,Sem.run_bind,k2,Result.andThen,Sem.run_pure],.bp _ _⟩
    ·obtain⟨r,h,_,_,hr⟩:=yR ks h
     refine⟨_,h,fun hx hy=>?_⟩;obtain⟨k1,⟨xs,ys,rfl,rfl⟩,k2⟩:=key hr hx hy;exact⟨k1,.bool (!r),by simp only[binOp,Sem.run_bind,k2,Result.andThen,Sem.run_pure],.bp _ _⟩
    ·exact h.elim
   ·exact h.elim
  ·exact h.elim
 ·rename_i a m
  split at h
  ·rename_i b n
   split at h
   ·obtain⟨⟨h1,h2⟩,h3⟩:=h
    refine⟨_,lC h3,fun hx hy=>?_⟩;cases hx;cases hy
    refine⟨⟨.inl ⟨qqS,qqS⟩⟩,_,?_,.int _ _ _⟩;simp only[binOp,Op.shift];rw[if_neg qqO,alh h2];rfl
   ·obtain⟨⟨h1,h2,h4⟩,h3⟩:=h
    refine⟨_,h3,fun hx hy=>?_⟩;cases hx;cases hy
    refine⟨⟨.inl ⟨qqS,qqS⟩⟩,.int a (m.fdiv (2 ^ n.toNat)),?_,?_⟩
    ·simp only[binOp,Op.shift]
     rw[if_neg qqO,alh h2];rfl
    ·rw[Int.fdiv_eq_ediv_of_nonneg _ (Int.pow_nonneg qqO)];exact .int _ _ _
   ·rename_i op' hs1 hs2
    rw[aK]at h;have e:=of_decide_eq_true h.1;subst e;obtain⟨v,val,h1,h2,h3⟩:=OT (P:=P) (t:=t) h.2 ⟨fun e=>hs1 e,fun e=>hs2 e⟩;refine⟨v,h1,fun hx hy=>?_⟩;cases hx;cases hy
    exact⟨⟨.inl ⟨qqS,qqS⟩⟩,val,h3 _,h2 _ _ _⟩
  ·exact h.elim
 ·rename_i s
  split at h
  ·rename_i u
   obtain⟨v,val,h1,h2,h3⟩:=OU (P:=P) h (t:=t);refine⟨v,h1,fun hx hy=>?_⟩;cases hx;cases hy
   exact⟨⟨.inl ⟨qqS,qqS⟩⟩,val,h3 _,h2 _ _ _⟩
  ·exact h.elim
 ·split at h
  ·rename_i hu
   split at h
   ·exact boolc _ _ _ _ hu h bpv bpv
   ·exact boolc _ _ _ _ hu h bpv bv
   ·exact h.elim
  ·exact h.elim
 ·split at h
  ·rename_i hu
   split at h
   ·exact boolc _ _ _ _ hu h bv bpv
   ·exact boolc _ _ _ _ hu h bv bv
   ·exact h.elim
  ·exact h.elim
 ·split at h
  ·split at h
   ·rename_i c tk _ _ e hu
    have hsl:∀{S:Imm} {w:World} {ι:Ix} {vx vy:Value},c.cnt≠0→Rep S w ι (.isl c tk) vx→Rep S w ι .nils vy→(∃b n m,vx=.slice (some b) n m)∧vy=.slice none 0 0:=by
     intro S w ι vx vy hc hx hy;cases hy
     cases hx with
     |islnil _ _ _ h0=>exact absurd h0 hc
     |isl _ _ _ b off cap _ _ _ _ _=>exact⟨⟨_,_,_,rfl⟩,rfl⟩
    have heq:∀(b:Addr) (n m:Nat) (w:World),(Op.equal t (.slice (some b) n m) (.slice none 0 0)).run P w=.ok false w:=fun b n m w=>by
     have e:Op.maxDepth=9999+1:=rfl;unfold Op.equal;rw[e,Op.equalIn];rw[hu]at ht;simp only[Sem.run_bind,run_underlying ht,Result.andThen,Sem.run_pure]
    split at h
    ·refine⟨_,h.2,fun{S w ι vx vy} hx hy=>?_⟩
     obtain⟨⟨b,n,m,rfl⟩,rfl⟩:=hsl h.1 hx hy;exact⟨⟨.inl ⟨qqS,qqS⟩⟩,.bool false,by simp only[binOp,Sem.run_bind,heq,Result.andThen,Sem.run_pure],.bp _ _⟩
    ·refine⟨_,h.2,fun{S w ι vx vy} hx hy=>?_⟩
     obtain⟨⟨b,n,m,rfl⟩,rfl⟩:=hsl h.1 hx hy;exact⟨⟨.inl ⟨qqS,qqS⟩⟩,.bool true,by simp only[binOp,Sem.run_bind,heq,Result.andThen,Sem.run_pure,ali],.bp _ _⟩
    ·exact h.elim
   ·exact h.elim
  ·exact h.elim
 ·split at h
  ·split at h
   ·rename_i e hu
    have heq:∀(w:World),(Op.equal t (.slice none 0 0) (.slice none 0 0)).run P w=.ok true w:=fun w=>by
     have e:Op.maxDepth=9999+1:=rfl;unfold Op.equal;rw[e,Op.equalIn];rw[hu]at ht;simp only[Sem.run_bind,run_underlying ht,Result.andThen,Sem.run_pure];rfl
    split at h
    ·refine⟨_,h,fun{S w ι vx vy} hx hy=>?_⟩
     cases hx;cases hy
     exact⟨⟨.inl ⟨qqS,qqS⟩⟩,.bool true,by simp only[binOp,Sem.run_bind,heq,Result.andThen,Sem.run_pure],.bool _ _⟩
    ·refine⟨_,h,fun{S w ι vx vy} hx hy=>?_⟩
     cases hx;cases hy
     exact⟨⟨.inl ⟨qqS,qqS⟩⟩,.bool false,by simp only[binOp,Sem.run_bind,heq,Result.andThen,Sem.run_pure,alj],.bool _ _⟩
    ·exact h.elim
   ·exact h.elim
  ·exact h.elim
 ·split at h
  ·split at h
   ·rename_i e hu
    have hsl:∀{S:Imm} {w:World} {ι:Ix} {vx vy:Value} {k off n:Nat},Rep S w ι (.rsl k off n) vx→Rep S w ι .nils vy→(∃b n m,vx=.slice (some b) n m)∧vy=.slice none 0 0:=by
     intro S w ι vx vy k off n hx hy;cases hy
     cases hx with
     |rsl _ _ _ _ _ _ _ _ _=>exact⟨⟨_,_,_,rfl⟩,rfl⟩
     |rslz _ _ _ _ _ _=>exact⟨⟨_,_,_,rfl⟩,rfl⟩
    have heq:∀(b:Addr) (n m:Nat) (w:World),(Op.equal t (.slice (some b) n m) (.slice none 0 0)).run P w=.ok false w:=fun b n m w=>by
     have e:Op.maxDepth=9999+1:=rfl;unfold Op.equal;rw[e,Op.equalIn];rw[hu]at ht;simp only[Sem.run_bind,run_underlying ht,Result.andThen,Sem.run_pure]
    split at h
    ·refine⟨_,h,fun{S w ι vx vy} hx hy=>?_⟩
     obtain⟨⟨b,n,m,rfl⟩,rfl⟩:=hsl hx hy;exact⟨⟨.inl ⟨qqS,qqS⟩⟩,.bool false,by simp only[binOp,Sem.run_bind,heq,Result.andThen,Sem.run_pure],.bool _ _⟩
    ·refine⟨_,h,fun{S w ι vx vy} hx hy=>?_⟩
     obtain⟨⟨b,n,m,rfl⟩,rfl⟩:=hsl hx hy;exact⟨⟨.inl ⟨qqS,qqS⟩⟩,.bool true,by simp only[binOp,Sem.run_bind,heq,Result.andThen,Sem.run_pure,ali],.bool _ _⟩
    ·exact h.elim
   ·exact h.elim
  ·exact h.elim
 ·split at h
  ·split at h
   ·rename_i c _ _ e hu
    have heq1:∀(b:Addr) (n m:Nat) (w:World),(Op.equal t (.slice (some b) n m) (.slice none 0 0)).run P w=.ok false w:=fun b n m w=>by
     have e:Op.maxDepth=9999+1:=rfl;unfold Op.equal;rw[e,Op.equalIn];rw[hu]at ht;simp only[Sem.run_bind,run_underlying ht,Result.andThen,Sem.run_pure]
    have heq0:∀(w:World),(Op.equal t (.slice none 0 0) (.slice none 0 0)).run P w=.ok true w:=fun w=>by
     have e:Op.maxDepth=9999+1:=rfl;unfold Op.equal;rw[e,Op.equalIn];rw[hu]at ht;simp only[Sem.run_bind,run_underlying ht,Result.andThen,Sem.run_pure];rfl
    split at h
    ·refine⟨_,h,fun{S w ι vx vy} hx hy=>?_⟩
     cases hy
     cases hx with
     |nnl0 _ _ h0=>exact⟨⟨.inl ⟨qqS,qqS⟩⟩,.bool true,by simp only[binOp,Sem.run_bind,heq0,Result.andThen,Sem.run_pure],by rw[decide_eq_true h0];exact .bp _ _⟩
     |nnl1 _ _ b off cap h0 _ _ _=>exact⟨⟨.inl ⟨qqS,qqS⟩⟩,.bool false,by simp only[binOp,Sem.run_bind,heq1,Result.andThen,Sem.run_pure],by rw[decide_eq_false (alk h0)];exact .bp _ _⟩
    ·refine⟨_,h,fun{S w ι vx vy} hx hy=>?_⟩
     cases hy
     cases hx with
     |nnl0 _ _ h0=>exact⟨⟨.inl ⟨qqS,qqS⟩⟩,.bool false,by simp only[binOp,Sem.run_bind,heq0,Result.andThen,Sem.run_pure,alj],by rw[decide_eq_false (fun h=>h h0)];exact .bp _ _⟩
     |nnl1 _ _ b off cap h0 _ _ _=>exact⟨⟨.inl ⟨qqS,qqS⟩⟩,.bool true,by simp only[binOp,Sem.run_bind,heq1,Result.andThen,Sem.run_pure,ali],by rw[decide_eq_true (alk h0)];exact .bp _ _⟩
    ·exact h.elim
   ·exact h.elim
  ·exact h.elim
 ·exact h.elim
theorem OX {op:BinOp} {t:TypeId} {x y:Operand} {a b:Value} (h:a≠ .nilIface∧∀c,a≠ .agg c) (w:World):(eqGuard op t x y a b).run P w=.ok () w:=by
 unfold eqGuard;cases a with
 |nilIface=>exact absurd rfl h.1
 |agg c=>exact absurd rfl (h.2 c)
 |_=>cases op<;>simp
theorem abG {op:BinOp} {t:TypeId} {x y:Operand} {a b:Value} (h:Held P t a b) (w:World):(eqGuard op t x y a b).run P w=.ok () w:=by
 rcases h.get with h1|⟨h1,xs,ys,e1,e2⟩
 ·exact OX h1 w
 ·rw[e1,e2];exact run_eqGuard_agg w op t x y xs ys h1
theorem SC {d:TypeDesc} {v:PV} {y:Operand} (h:OO d v y=true):y=.const .nilIface∧v=.nili∧∃ms,d=.interface ms:=by
 unfold OO at h;split at h
 ·split at h
  ·split at h
   ·split at h
    ·exact⟨rfl,rfl,_,rfl⟩
    ·cases h
   ·cases h
  ·cases h
 ·cases h
theorem Me {t:TypeId} {ms:Array (String × TypeId)} (ht:P.underlying t=some (.interface ms)) (w:World):(binOp .eql t .nilIface .nilIface).run P w=.ok (.bool true) w∧(binOp .neq t .nilIface .nilIface).run P w=.ok (.bool false) w:=by
 have heq:(Op.equal t .nilIface .nilIface).run P w=.ok true w:=by
  have e:Op.maxDepth=9999+1:=rfl;unfold Op.equal;rw[e,Op.equalIn];simp only[Sem.run_bind,run_underlying ht,Result.andThen,Sem.run_pure]
 constructor
 ·simp only[binOp,Sem.run_bind,heq,Result.andThen,Sem.run_pure]
 ·simp only[binOp,Sem.run_bind,heq,Result.andThen,Sem.run_pure,alj]
theorem OY (op:BinOp) (t:TypeId) (x:Operand) (w:World):(eqGuard op t x (.const .nilIface) .nilIface .nilIface).run P w=.ok () w:=by
 unfold eqGuard;cases op<;>simp
theorem SE (hτ:bB P τ) {md rf CP YP} {o:Oper} {ρ:Operand→PV} {H:Hp} {n:Nat} {op:BinOp} {t u:TypeId} {x y:Operand} (ho:o.op=.binOp op t x y u) {K:KR}
 (h:opK τ md rf CP YP ρ H n o.dst o.op K):∃v sets accs news,K v sets accs news∧bH P r o ρ H v sets accs news:=by
 rw[ho]at h;simp only[opK,bU]at h;obtain⟨te,ht,h⟩:=h;split at h
 ·rename_i hn
  obtain⟨rfl,hx,ms,hu⟩:=SC hn;have hund:P.underlying t=some (.interface ms):=(hτ.und t te ht).trans (congrArg some hu);have fin:∀(b:Bool),(∀w:World,(binOp op t .nilIface .nilIface).run P w=.ok (.bool b) w)→bH P r o ρ H (.bool b) [] [] []:=fun b hb=>
   aY (fun c e=>by rw[ho]at e;cases e) fun S w ι H' a M hr ha=>by
    have h1:=hr x (by simp[ho,Op.operands])
    rw[hx]at h1;have h2:a.eval x=.nilIface:=by generalize a.eval x=v at h1;cases h1;rfl
    have h3:a.eval (.const .nilIface)=.nilIface:=rfl;refine⟨.bool b,?_,.bool _ _⟩;simp only[execOp,ho,h2,h3];exact dW (by simp[OY,Result.andThen,hb])
  split at h
  ·exact⟨_,_,_,_,h,fin true fun w=>(Me hund w).1⟩
  ·exact⟨_,_,_,_,h,fin false fun w=>(Me hund w).2⟩
  ·exact h.elim
 simp only[bL]at h;obtain⟨v,hK,hs⟩:=OW h (hτ.und t te ht) (fun ks hk=>hτ.cmp t te ks ht hk);refine⟨v,_,_,_,hK,aY (fun c e=>by rw[ho]at e;cases e) fun S w ι H' a M hr ha=>?_⟩
 obtain⟨hg,val,h1,h2⟩:=hs (hr x (by simp[ho,Op.operands])) (hr y (by simp[ho,Op.operands]))
 refine⟨val,?_,h2⟩;simp only[execOp,ho];exact dW (by simp[abG hg,Result.andThen,h1])
theorem WS (hτ:bB P τ) {md rf CP YP} {o:Oper} {ρ:Operand→PV} {H:Hp} {n:Nat} {op:UnOp} {t:TypeId} {x:Operand} (ho:o.op=.unOp op t x) {K:KR}
 (h:opK τ md rf CP YP ρ H n o.dst o.op K):∃v sets accs news,K v sets accs news∧bH P r o ρ H v sets accs news:=by
 rw[ho]at h;simp only[opK,bL]at h;have key:∃v,K v [] [] []∧∀{S:Imm} {w:World} {ι:Ix} {vx:Value},Rep S w ι (ρ x) vx→∃val,(Op.unary op vx).run P w=.ok val w∧Rep S w ι v val:=by
  unfold unK at h;split at h
  ·split at h
   ·rename_i b hb
    refine⟨_,h,fun hx=>?_⟩;rw[hb]at hx;cases hx
    exact⟨_,rfl,.bp _ _⟩
   ·rename_i b hb
    split at h
    ·refine⟨_,h,fun hx=>?_⟩
     rw[hb]at hx;cases hx
     exact⟨_,rfl,.bool _ _⟩
    ·refine⟨_,h,fun hx=>?_⟩
     rw[hb]at hx;cases hx
     exact⟨_,rfl,.bool _ _⟩
   ·exact h.elim
  ·split at h
   ·rename_i k m hb
    refine⟨_,lC h,fun hx=>?_⟩;rw[hb]at hx;cases hx
    exact⟨_,by simp[Op.unary,Op.intArith];rfl,by simpa using Rep.int _ _ _⟩
   ·exact h.elim
  ·exact h.elim
 obtain⟨v,hK,hs⟩:=key;refine⟨v,_,_,_,hK,aY (fun c e=>by rw[ho]at e;cases e) fun S w ι H' a M hr ha=>?_⟩
 obtain⟨val,h1,h2⟩:=hs (hr x (by simp[ho,Op.operands]))
 exact⟨val,by simp only[execOp,ho];exact dW h1,h2⟩
theorem Mf {τ:TypeId→Option TE} {t:TypeId} (h:u8D τ t=true):∃te,τ t=some te∧te.und=.int .u8:=by
 unfold u8D at h;split at h
 ·rename_i te ht
  split at h
  ·rename_i k hk
   split at h
   ·exact⟨te,ht,hk⟩
   ·cases h
  ·cases h
 ·cases h
theorem abH {τ:TypeId→Option TE} {ts td:TE} (h:cvN τ ts td=1):∃e te,td.und=.slice e∧τ e=some te∧te.und=.int .u8:=by
 unfold cvN at h;split at h
 ·rename_i e he
  split at h
  ·rename_i hu
   obtain⟨te,h1,h2⟩:=Mf hu;exact⟨e,te,he,h1,h2⟩
  ·cases h
 ·split at h
  ·split at h<;>cases h
  ·cases h
 ·cases h
theorem abI {τ:TypeId→Option TE} {ts td:TE} (h:cvN τ ts td≠1) (h':cvN τ ts td≠0):td.und=.string∧∃e te,ts.und=.slice e∧τ e=some te∧te.und=.int .u8:=by
 unfold cvN at h h';split at h
 ·split at h
  ·exact absurd rfl h
  ·rename_i hu _ hu';simp[hu,hu']at h'
 ·rename_i hs
  split at h
  ·rename_i e he
   split at h
   ·rename_i hu
    obtain⟨te,h1,h2⟩:=Mf hu;exact⟨hs,e,te,he,h1,h2⟩
   ·rename_i hu;simp[hs,he,hu]at h'
  ·rename_i he;simp[hs]at h'
 ·simp_all
theorem uU {P:Program} (w:World) (src e:TypeId) (hs:P.underlying src=some (.slice e)) (he:P.underlying e=some (.int .u8)) (a:Option Addr):
 ∀dst,P.underlying dst=some .string→(convert src dst (.slice a 0 0)).run P w=.ok (.string ByteArray.empty) w:=by
 intro dst hd;cases a with
 |none=>exact run_convert_bytes_nil w src e hs he 0 0 dst hd
 |some a=>
  have hl:(loadCells a 0).run P w=.ok (([]:List Int).map (Value.int .u8)).toArray w:=rfl;rw[run_convert_bytes_string w src dst e _ 0 0 hs he hd,run_bytesToString w a 0 0 [] hl];rfl
theorem H6 (hτ:bB P τ) {s d:TypeId} {ts td te:TE} {e:TypeId} (hts:τ s=some ts) (htd:τ d=some td) (hs:ts.und=.slice e) (hd:td.und=.string) (he:τ e=some te) (hu:te.und=.int .u8) {H0:Hp} {x:PV} {K:PV→List Nat→Prop} (h:HV H0 x K):
 ∃v acc,K v acc∧∀{S:Imm} {w:World} {ι:Ix} {H:Hp} {vx:Value},Mem S w ι H→(∀k∈acc,aA H k=aA H0 k)→Rep S w ι x vx→∃val,(convert s d vx).run P w=.ok val w∧Rep S w ι v val:=by
 have u1:P.underlying s=some (.slice e):=(hτ.und s ts hts).trans (congrArg some hs);have u2:P.underlying d=some .string:=(hτ.und d td htd).trans (congrArg some hd);have u3:P.underlying e=some (.int .u8):=(hτ.und e te he).trans (congrArg some hu);unfold HV at h;split at h
 ·split at h
  ·rename_i t k xs
   rw[aK]at h;obtain⟨h1,h⟩:=h;have h1:=of_decide_eq_true h1;subst h1;refine⟨_,_,h,fun{S w ι H vx} M _ hx=>?_⟩;cases hx with
   |islnil _ _ _ hc=>
    obtain rfl:xs=[]:=List.eq_nil_of_length_eq_zero hc;exact⟨_,uU w s e u1 u3 _ d u2,.str _ _⟩
   |isl _ _ _ b off cap hc hS hh hf ho=>
    refine⟨_,run_convert_bytes_arg w s e u1 u3 b off xs.length cap xs rfl (fun i hi=>?_) d u2,.str _ _⟩;have h1:=hh i hi;have h2:=M.imm b (off+i) (hS i hi);rw[iP];obtain⟨y,hy⟩:=Option.isSome_iff_exists.1 h2;have h3:rdv w b (off+i)=y:=by unfold rdv;rw[hy];rfl
    rw[h3]at h1;rw[hy];have h4:(CL.ints .u8 xs).get i=.int .u8 (xs.getD i 0):=rfl;rw[h4]at h1;cases h1;rfl
  ·exact h.elim
 ·rename_i i off m
  rw[bE]at h;obtain⟨o,ho,h⟩:=h;split at h
  ·split at h
   ·rename_i fz k xs
    split at h
    ·exact h.elim
    ·rw[aK]at h
     obtain⟨hl,h1,h⟩:=h;have h1:=of_decide_eq_true h1;subst h1;refine⟨_,_,h,fun{S w ι H vx} M ha hx=>?_⟩;have hH:=(ha i qqS).trans ho;obtain⟨b,arr,et,g1,g2,g3,g4,g5⟩:=M.obj _ _ hH;cases hx with
     |rslz _ _ _ b' o' hk=>
      rw[List.take_zero];exact⟨_,uU w s e u1 u3 _ d u2,.str _ _⟩
     |rsl _ _ _ _ b' cap hk hc hr=>
      rw[g1]at hk;cases hk
      have hlen:((xs.drop off).take m).length=m:=by rw[alm,List.length_drop];omega
      refine⟨_,run_convert_bytes_arg w s e u1 u3 b off m cap ((xs.drop off).take m) hlen (fun j hj=>?_) d u2,.str _ _⟩;rw[iP,aJ g2];have g3':xs.length≤arr.size:=g3;have h1:=g4 (off+j) (show off+j<xs.length by omega)
      rw[akD,akA qqO]at h1;have h4:(CL.ints .u8 xs).get (off+j)=.int .u8 (xs.getD (off+j) 0):=rfl;rw[h4]at h1;rw[akA qqO];have h5:((xs.drop off).take m).getD j 0=xs.getD (off+j) 0:=by
       rw[akG,akG,aln,if_pos hj,List.getElem?_drop]
      rw[h5];simp only[alo]at h1;generalize arr[off+j]'_=y at h1⊢
      cases h1;rfl
   ·exact h.elim
  ·exact h.elim
 ·refine⟨_,_,h,fun{S w ι H vx} M _ hx=>?_⟩
  cases hx
  exact⟨_,run_convert_bytes_nil w s e u1 u3 0 0 d u2,.str _ _⟩
 ·exact h.elim
theorem OZ (hτ:bB P τ) {md rf CP YP} {o:Oper} {ρ:Operand→PV} {H:Hp} {n:Nat} {s d:TypeId} {x:Operand} (ho:o.op=.convert s d x) {K:KR} (hno:∀ts td,τ s=some ts→τ d=some td→cvN τ ts td≠1)
 (h:opK τ md rf CP YP ρ H n o.dst o.op K):∃v sets accs news,K v sets accs news∧bH P r o ρ H v sets accs news:=by
 rw[ho]at h;simp only[opK,bU]at h;obtain⟨ts,hts,td,htd,h⟩:=h;have key:∃v acc,K v [] acc []∧∀{S:Imm} {w:World} {ι:Ix} {H':Hp} {vx:Value},Mem S w ι H'→(∀k∈acc,aA H' k=aA H k)→Rep S w ι (ρ x) vx→∃val,(convert s d vx).run P w=.ok val w∧Rep S w ι v val:=by
  split at h
  ·rw[bL]at h
   unfold ZN at h;split at h
   ·rename_i k hu
    split at h
    ·rename_i k' m hb
     refine⟨_,_,lC h,fun _ _ hx=>?_⟩;rw[hb]at hx;cases hx
     refine⟨_,?_,.int _ _ _⟩;simp only[convert,Sem.run_bind,run_underlying (hτ.und s ts hts),run_underlying (hτ.und d td htd),Result.andThen,hu];rfl
    ·exact h.elim
   ·rename_i hu
    split at h
    ·rename_i m hb
     refine⟨_,_,h,fun _ _ hx=>?_⟩;rw[hb]at hx;cases hx
     refine⟨_,?_,.str _ _⟩;simp only[convert,Sem.run_bind,run_underlying (hτ.und s ts hts),run_underlying (hτ.und d td htd),Result.andThen,hu];rfl
    ·exact h.elim
   ·exact h.elim
  ·rename_i h1
   exact absurd h1 (hno _ _ hts htd)
  ·rename_i h0 h1
   obtain⟨hd,e,te,hs,he,hu⟩:=abI h1 h0;exact H6 hτ hts htd hs hd he hu h
 obtain⟨v,acc,hK,hs⟩:=key;refine⟨v,_,_,_,hK,aY (fun c e=>by rw[ho]at e;cases e) fun S w ι H' a M hr ha=>?_⟩
 obtain⟨val,h1,h2⟩:=hs M ha (hr x (by simp[ho,Op.operands]))
 exact⟨val,by simp only[execOp,ho];exact dW h1,h2⟩
theorem Ak {md rf CP YP} {o:Oper} {ρ:Operand→PV} {H:Hp} {n:Nat} {x:Operand} (ho:o.op=.move x∨o.op=.assign x) {K:KR}
 (h:opK τ md rf CP YP ρ H n o.dst o.op K):∃v sets accs news,K v sets accs news∧bH P r o ρ H v sets accs news:=by
 have h':K (ρ x) [] [] []:=by rcases ho with ho|ho<;>rw[ho]at h<;>simpa only[opK,bL]using h
 refine⟨_,_,_,_,h',aY (fun c e=>by rcases ho with ho|ho<;>rw[ho]at e<;>cases e) fun S w ι H' a M hr ha=>?_⟩
 refine⟨a.eval x,?_,hr x (by rcases ho with ho|ho<;>simp[ho,Op.operands])⟩
 rcases ho with ho|ho<;>simp[execOp,ho]
theorem O1 {md rf CP YP} {o:Oper} {ρ:Operand→PV} {H:Hp} {n:Nat} {c x y:Operand} (ho:o.op=.pick c x y) {K:KR}
 (h:opK τ md rf CP YP ρ H n o.dst o.op K):∃v sets accs news,K v sets accs news∧bH P r o ρ H v sets accs news:=by
 rw[ho]at h;simp only[opK,bL]at h;have key:∀(t:Bool),(∀{S:Imm} {w:World} {ι:Ix} {v:Value},Rep S w ι (ρ c) v→v=.bool t)→K (if t then ρ x else ρ y) [] [] []→∃v sets accs news,K v sets accs news∧bH P r o ρ H v sets accs news:=by
  intro t ht hK;refine⟨_,_,_,_,hK,aY (fun c e=>by rw[ho]at e;cases e) fun S w ι H' a M hr ha=>?_⟩
  have hc:=ht (hr c (by simp[ho,Op.operands]))
  refine⟨if t then a.eval x else a.eval y,?_,?_⟩
  ·simp only[execOp,ho,hc,asBool];simp
  ·cases t
   ·exact hr y (by simp[ho,Op.operands])
   ·exact hr x (by simp[ho,Op.operands])
 split at h
 ·rename_i t hρ
  split at h
  ·exact key true (fun hr=>by rw[hρ]at hr;cases hr;rfl) (by simpa using h)
  ·exact key false (fun hr=>by rw[hρ]at hr;cases hr;rfl) (by simpa using h)
 ·rename_i t hρ
  refine key t (fun hr=>by rw[hρ]at hr;cases hr;rfl) ?_
  cases t
  ·simpa using h.2 rfl
  ·simpa using h.1 rfl
 ·exact h.elim
variable {P:Program} {r:Option Nat} {τ:TypeId→Option TE}
theorem H7 (ρ:Operand→PV) (l:List Operand):(kK ρ l).length=l.length:=by
 induction l with
 |nil=>rfl
 |cons x xs ih=>simp[kK,ih]
theorem WT (ρ:Operand→PV) (l:List Operand):∀i (h:i<l.length),aH (kK ρ l) i=ρ l[i]:=by
 induction l with
 |nil=>intro i h;simp at h
 |cons x xs ih=>
  intro i h;cases i with
  |zero=>rfl
  |succ i=>simpa [kK,aH]using ih i (by simpa using h)
theorem kX {S:Imm} {w:World} {ι:Ix} {ρ:Operand→PV} {a:Act} (l:Array Operand) (h:∀x∈l.toList,Rep S w ι (ρ x) (a.eval x)):bG S w ι (kK ρ l.toList) (l.map a.eval):=by
 refine⟨by simp[H7],fun i hi=>?_⟩
 rw[H7]at hi;rw[WT _ _ _ hi];have:=h l.toList[i] (List.getElem_mem _);simpa [akD,akA (show i<l.size by simpa using hi)]using this
theorem KQ (vs:List Value):∀(k off:Nat) (cells:Array Value),(vs.zipIdx k).foldl (fun cs (x:Value × Nat)=>cs.setIfInBounds (off+x.2) x.1) cells=putRow cells (off+k) vs:=by
 induction vs with
 |nil=>intro k off cells;rfl
 |cons v vs ih=>intro k off cells;simp only[List.zipIdx_cons,List.foldl_cons,putRow];rw[ih];rfl
theorem SF {place:Nat→Option (Nat × Nat)} {cells:Array Value} {i off size:Nat} {v:Value} {rest:List (Nat × Value)} (hp:place i=some (off,size)) (hs:v.cells.size=size) (hb:off+v.cells.size≤cells.size):
 Instr.fill place cells ((i,v)::rest)=Instr.fill place (putRow cells off v.cells.toList) rest:=by
 rw[Instr.fill,hp];simp only;rw[if_neg (by simp[hs];omega)]
 congr 1
 have:=KQ v.cells.toList 0 off cells;rw[akn]at this;rw[←this,←Array.foldl_toList];congr 1;simp
theorem abJ {S:Imm} {w:World} {ι:Ix} {l:List PV} {vs:Array Value} (h:bG S w ι l vs) {o:Nat} {cs:List PV} {ws:Array Value} (hc:bG S w ι cs ws) (hb:o+cs.length≤l.length):
 bG S w ι (setCells l o cs) (putRow vs o ws.toList):=by
 have e1:=h.1;have e2:=hc.1;refine⟨by rw[lX,bW];exact h.1,fun j hj=>?_⟩
 rw[lX]at hj;rw[vv _ _ _ _ hb,fA _ _ _ _ (by simp;omega)]
 simp only[ak2,←e2];split
 ·have:=hc.2 (j-o) qqO
  simpa [akD]using this
 ·exact h.2 j hj
theorem Mg {S:Imm} {w:World} {ι:Ix} {p:PV} {v:Value} (h:Rep S w ι p v) (ho:one p=true):bG S w ι [p] v.cells:=by
 rw[h.cellsOne ho];refine⟨rfl,fun i hi=>?_⟩;simp at hi;subst hi;exact h
theorem sQ {S:Imm} {w:World} {ι:Ix} {ρ:Operand→PV} {a:Act} {place:Nat→Option (Nat × Nat)} {F:List PV→List (Nat × PV)→Option (List PV)}
 (hF0:∀l,F l []=some l)
 (hF:∀l i v rest cs,F l ((i,v)::rest)=some cs→∃o sz ds,place i=some (o,sz)∧ds.length=sz∧o+sz≤l.length∧F (setCells l o ds) rest=some cs∧∀val,Rep S w ι v val→bG S w ι ds val.cells)
 (parts:List (Nat × Operand)):∀(l cs:List PV) (vs:Array Value),(∀x∈parts,Rep S w ι (ρ x.2) (a.eval x.2))→F l (partsOf ρ parts)=some cs→bG S w ι l vs→
  ∃vs',Instr.fill place vs (parts.map fun x=>(x.1,a.eval x.2))=some vs'∧bG S w ι cs vs':=by
 induction parts with
 |nil=>intro l cs vs hr h hl;rw[partsOf,hF0]at h;cases h;exact⟨vs,rfl,hl⟩
 |cons x xs ih=>
  intro l cs vs hr h hl;obtain⟨i,x⟩:=x;rw[partsOf]at h;obtain⟨o,sz,ds,hp,hd,hb,h',hrep⟩:=hF _ _ _ _ _ h;have hds:=hrep _ (hr (i,x) qqS);have e1:=hl.1;have e2:ds.length=(a.eval x).cells.size:=hds.1;obtain⟨vs',h1,h2⟩:=ih _ cs _ (fun y hy=>hr y (List.mem_cons_of_mem _ hy)) h' (abJ hl hds qqO);refine⟨vs',?_,h2⟩;simp only[List.map_cons];rw[SF hp qqO qqO];exact h1
theorem O4 {S:Imm} {w:World} {ι:Ix} {pl:List (Nat × Nat)} (l:List PV) (i:Nat) (v:PV) (rest:List (Nat × PV)) (cs:List PV) (h:qF l pl ((i,v)::rest)=some cs):
 ∃o sz ds,pl[i]? =some (o,sz)∧ds.length=sz∧o+sz≤l.length∧qF (setCells l o ds) pl rest=some cs∧∀val,Rep S w ι v val→bG S w ι ds val.cells:=by
 unfold qF at h;split at h
 ·cases h
 ·rename_i o sz hp
  split at h
  ·rename_i ds
   split at h
   ·rename_i hb
    simp only[akQ]at hb;have e1:=akR hb.1;have e2:=akY hb.2;exact⟨o,sz,ds,hp,e1,e2,h,fun val hr=>by cases hr with|agg _ _ vs hl hh=>exact⟨hl,hh⟩⟩
   ·cases h
  ·split at h
   ·rename_i hb
    simp only[akQ]at hb;have e1:=akR hb.1.2;have e2:=akY hb.2;exact⟨o,sz,[v],hp,by simp[e1],qqO,h,fun val hr=>Mg hr hb.1.1⟩
   ·cases h
theorem sS {S:Imm} {w:World} {ι:Ix} {esz:Nat} (l:List PV) (i:Nat) (v:PV) (rest:List (Nat × PV)) (cs:List PV) (h:jN l esz ((i,v)::rest)=some cs):
 ∃o sz ds,(some (i*esz,esz):Option (Nat × Nat))=some (o,sz)∧ds.length=sz∧o+sz≤l.length∧jN (setCells l o ds) esz rest=some cs∧∀val,Rep S w ι v val→bG S w ι ds val.cells:=by
 unfold jN at h;split at h
 ·rename_i ds
  split at h
  ·rename_i hb
   simp only[akQ]at hb;have e1:=akR hb.1;have e2:=akY hb.2;exact⟨i*esz,esz,ds,rfl,e1,e2,h,fun val hr=>by cases hr with|agg _ _ vs hl hh=>exact⟨hl,hh⟩⟩
  ·cases h
 ·split at h
  ·rename_i hb
   simp only[akQ]at hb;have e1:=akR hb.1.2;have e2:=akY hb.2;subst e1;exact⟨i*1,1,[v],rfl,rfl,qqO,by rw[akZ];exact h,fun val hr=>Mg hr hb.1.1⟩
  ·cases h
theorem KS (hτ:bB P τ):∀(fs:List Field) (pl:List (Nat × Nat)),placesOf τ fs=some pl→fs.mapM (fun f=>(P.info? f.type).map fun i=>(f.offset,i.size))=some pl:=by
 intro fs;induction fs with
 |nil=>intro pl h;simp[placesOf]at h;subst h;rfl
 |cons f fs ih=>
  intro pl h;unfold placesOf at h;split at h
  ·rename_i te ht
   split at h
   ·rename_i l hl
    cases h
    obtain⟨i,h1,h2,h3,h4⟩:=hτ.info _ _ ht;simp[List.mapM_cons,h1,ih l hl,h3]
   ·cases h
  ·cases h
theorem KT (hτ:bB P τ) {md rf CP YP} {o:Oper} {ρ:Operand→PV} {H:Hp} {n:Nat} {t:TypeId} {parts:Array (Nat × Operand)} (ho:o.op=.build t parts) {K:KR}
 (h:opK τ md rf CP YP ρ H n o.dst o.op K):∃v sets accs news,K v sets accs news∧bH P r o ρ H v sets accs news:=by
 rw[ho]at h;simp only[opK,bU,bP]at h;obtain⟨te,ht,h⟩:=h;obtain⟨it,i1,i2,i3,i4⟩:=hτ.info _ _ ht;have hz:∀{S:Imm} {w:World} {ι:Ix},bG S w ι (mD te.zero.cells.toList) te.zero.cells:=by
  intro S w ι;refine⟨by simp[mI],fun i hi=>?_⟩
  rw[mI]at hi;have:=sP (S:=S) (w:=w) (ι:=ι) te.zero.cells.toList i hi;simpa [akD]using this
 have hparts:∀{S:Imm} {w:World} {ι:Ix} {a:Act},(∀x∈o.op.operands.toList,Rep S w ι (ρ x) (a.eval x))→∀x∈parts.toList,Rep S w ι (ρ x.2) (a.eval x.2):=by
  intro S w ι a hr x hx;exact hr x.2 (by simp[ho,Op.operands];exact⟨x.1,by simpa using hx⟩)
 split at h
 ·rename_i fs hu
  split at h
  ·rename_i pl hpl
   split at h
   ·rename_i cs hcs
    refine⟨_,_,_,_,h,aY (fun c e=>by rw[ho]at e;cases e) fun S w ι H' a M hr ha=>?_⟩
    obtain⟨vs',h1,h2⟩:=sQ (S:=S) (w:=w) (ι:=ι) (ρ:=ρ) (a:=a) (place:=fun i=>pl.toArray[i]?) (F:=fun l ps=>qF l pl ps) (fun l=>by simp[qF])
     (fun l i v rest cs hh=>by simpa using O4 l i v rest cs hh) parts.toList _ cs te.zero.cells (hparts hr) hcs hz
    refine⟨.agg vs',?_,.agg _ _ _ h2.1 h2.2⟩;simp only[execOp,ho];refine dW (run_build w t _ vs' ?_);simp only[Program.built,i1,hτ.und _ _ ht,hu,i2,KS hτ _ _ hpl];simpa using h1
   ·exact h.elim
  ·exact h.elim
 ·rename_i q e hu
  obtain⟨te',hte',h⟩:=h;obtain⟨je,j1,j2,j3,j4⟩:=hτ.info _ _ hte';split at h
  ·rename_i cs hcs
   refine⟨_,_,_,_,h,aY (fun c e=>by rw[ho]at e;cases e) fun S w ι H' a M hr ha=>?_⟩
   obtain⟨vs',h1,h2⟩:=sQ (S:=S) (w:=w) (ι:=ι) (ρ:=ρ) (a:=a) (place:=fun i=>some (i*te'.size,te'.size)) (F:=fun l ps=>jN l te'.size ps) (fun l=>by simp[jN])
    (fun l i v rest cs hh=>sS l i v rest cs hh) parts.toList _ cs te.zero.cells (hparts hr) hcs hz
   refine⟨.agg vs',?_,.agg _ _ _ h2.1 h2.2⟩;simp only[execOp,ho];refine dW (run_build w t _ vs' ?_);simp only[Program.built,i1,hτ.und _ _ ht,hu,i2,j1,j3];simpa using h1
  ·exact h.elim
 ·exact h.elim
theorem om (hτ:bB P τ) {t:TypeId} {tf:TE} (ht:τ t=some tf) {cs:List PV} {vs:Array Value} {S:Imm} {w:World} {ι:Ix} (h:bG S w ι cs vs) {off:Nat}:
 (tf.isAgg=true→off+tf.size≤cs.length→∃val,(part t vs off).run P w=.ok val w∧Rep S w ι (.agg (CL.gets (.pv cs) off tf.size)) val)∧
 (tf.isAgg=false→off+1≤cs.length→∃val,(part t vs off).run P w=.ok val w∧Rep S w ι (aH cs off) val):=by
 have e1:=h.1;refine⟨fun ha hb=>⟨.agg (vs.extract off (off+tf.size)),?_,?_⟩,fun ha hb=>⟨vs.getD off undef,?_,h.2 off qqO⟩⟩
 ·simp[part,iZ hτ ht,Result.andThen,ha,bI hτ ht]
 ·refine .agg _ _ _ (by simp[pF];omega) (fun i hi=>?_)
  rw[pF]at hi;rw[zh _ _ _ _ hi];have:=h.2 (off+i) qqO;simp only[CL.get];rw[akD]at this⊢;rw[Array.getElem?_extract,if_pos qqO];exact this
 ·have:off<vs.size:=qqO
  simp[part,iZ hτ ht,Result.andThen,ha,akA this,akD]
theorem KU (hτ:bB P τ) {md rf CP YP} {o:Oper} {ρ:Operand→PV} {H:Hp} {n:Nat} {t:TypeId} {x:Operand} {f:Nat} (ho:o.op=.field t x f) {K:KR}
 (h:opK τ md rf CP YP ρ H n o.dst o.op K):∃v sets accs news,K v sets accs news∧bH P r o ρ H v sets accs news:=by
 rw[ho]at h;simp only[opK,bU]at h;obtain⟨te,ht,h⟩:=h;split at h
 ·rename_i fs hu
  split at h
  ·rename_i fd hfd
   obtain⟨tf,htf,h⟩:=h;split at h
   ·rename_i cs hρ
    have run:∀{S:Imm} {w:World} {ι:Ix} {a:Act},(∀x∈o.op.operands.toList,Rep S w ι (ρ x) (a.eval x))→∃vs,bG S w ι cs vs∧
     ∀{val:Value},(part fd.type vs fd.offset).run P w=.ok val w→(execOp a.eval o).run P w=.ok (.value val) w:=by
     intro S w ι a hr;have hx:=hr x (by simp[ho,Op.operands])
     rw[hρ]at hx;cases hev:a.eval x<;>rw[hev]at hx<;>cases hx
     rename_i vs hl hh;refine⟨vs,⟨hl,hh⟩,fun hp=>?_⟩;simp only[execOp,ho];refine dW ?_;simp only[Instr.field,Sem.run_bind,run_underlying (hτ.und _ _ ht),hu,Result.andThen,hfd,hev,asAgg,Sem.run_pure,hp]
    split at h
    ·rename_i hagg
     rw[aK,bP]at h;have hb:=akY h.1;refine⟨_,_,_,_,h.2,aY (fun c e=>by rw[ho]at e;cases e) fun S w ι H' a M hr ha=>?_⟩
     obtain⟨vs,hv,hrun⟩:=run hr;obtain⟨val,h1,h2⟩:=(om hτ htf hv).1 hagg hb;exact⟨val,hrun h1,h2⟩
    ·rename_i hagg
     rw[aK,bL]at h;have hb:=akY h.1;refine⟨_,_,_,_,h.2,aY (fun c e=>by rw[ho]at e;cases e) fun S w ι H' a M hr ha=>?_⟩
     obtain⟨vs,hv,hrun⟩:=run hr;obtain⟨val,h1,h2⟩:=(om hτ htf hv).2 hagg hb;exact⟨val,hrun h1,h2⟩
   ·exact h.elim
  ·exact h.elim
 ·exact h.elim
theorem Al {x:PV} {d:Nat} {K:PV→Prop} (h:Hy x d K):∃v,K v∧∀{S:Imm} {w:World} {ι:Ix} {vx:Value},Rep S w ι x vx→∃b o,vx=.pointer (some ⟨b,o,none⟩)∧Rep S w ι v (.pointer (some ⟨b,o+d,none⟩)):=by
 unfold Hy at h;split at h
 ·exact⟨_,h,fun hx=>by cases hx;exact⟨_,_,rfl,.rp _ _ _ _ ‹_›⟩⟩
 ·refine⟨_,h,fun hx=>?_⟩
  cases hx with
  |ip _ c off b o hs hh=>exact⟨_,_,rfl,by rw[akr];exact .ip _ _ _ _ _ hs hh⟩
 ·refine⟨_,h,fun hx=>?_⟩
  cases hx with
  |rpe _ k m i j b hk=>exact⟨_,_,rfl,by rw[akr];exact .rpe _ _ _ _ _ _ hk⟩
 ·refine⟨_,h,fun hx=>?_⟩
  cases hx with
  |ipe _ c i j b o hs hh=>exact⟨_,_,rfl,by rw[akr,akr];exact .ipe _ _ _ _ _ _ hs hh⟩
 ·refine⟨_,h,fun hx=>?_⟩
  cases hx with
  |rowp _ k b m i j=>exact⟨_,_,rfl,by rw[akr];exact .rowp _ _ _ _ _ _⟩
 ·exact h.elim
theorem Am (hτ:bB P τ) {md rf CP YP} {o:Oper} {ρ:Operand→PV} {H:Hp} {n:Nat} {t:TypeId} {x:Operand} {f:Nat} (ho:o.op=.fieldAddr t x f) {K:KR}
 (h:opK τ md rf CP YP ρ H n o.dst o.op K):∃v sets accs news,K v sets accs news∧bH P r o ρ H v sets accs news:=by
 rw[ho]at h;simp only[opK,bU]at h;obtain⟨te,ht,h⟩:=h;split at h
 ·rename_i fs hu
  split at h
  ·rename_i fd hfd
   simp only[aK,abF]at h;obtain⟨tf,htf,hb,h⟩:=h;have hb:=akY hb;obtain⟨v,hK,hs⟩:=Al h;refine⟨v,_,_,_,hK,aY (fun c e=>by rw[ho]at e;cases e) fun S w ι H' a M hr ha=>?_⟩
   obtain⟨b,off,h1,h2⟩:=hs (hr x (by simp[ho,Op.operands]))
   refine⟨_,?_,h2⟩;simp only[execOp,ho];refine dW ?_;simp only[Instr.fieldAt,Sem.run_bind,run_underlying (hτ.und _ _ ht),hu,Result.andThen,hfd,h1,Instr.sureAddr,Sem.run_pure,fieldPlace,bI hτ htf];rw[if_neg qqO];simp only[Sem.run_pure,eT]
  ·exact h.elim
 ·exact h.elim
variable {P:Program} {r:Option Nat} {τ:TypeId→Option TE}
theorem jm {i:PV} {n:Nat} {K:Nat→Prop} (h:sM i n K):∃j,K j∧j<n∧∀{S:Imm} {w:World} {ι:Ix} {v:Value},Rep S w ι i v→∃k x,v=.int k x∧0≤x∧x<n∧x.toNat=j:=by
 unfold sM at h;split at h
 ·exact⟨_,h.2,qqO,fun hr=>by cases hr;exact⟨_,_,rfl,h.1.1,h.1.2,rfl⟩⟩
 ·exact h.elim
theorem CS {md rf CP YP} {o:Oper} {ρ:Operand→PV} {H:Hp} {n:Nat} {x:Operand} (ho:o.op=.nilCheck x) {K:KR}
 (h:opK τ md rf CP YP ρ H n o.dst o.op K):∃v sets accs news,K v sets accs news∧bH P r o ρ H v sets accs news:=by
 rw[ho]at h;simp only[opK]at h;have key:∀{v:PV},ρ x=v→(∀{S:Imm} {w:World} {ι:Ix} {vx:Value},Rep S w ι v vx→(∃ad,vx=.pointer (some ad))∨∃f u c,vx=.func (.func f) u c)→K v [] [] []→
  ∃v sets accs news,K v sets accs news∧bH P r o ρ H v sets accs news:=by
  intro v hv hs hK;refine⟨_,_,_,_,hK,aY (fun c e=>by rw[ho]at e;cases e) fun S w ι H' a M hr ha=>?_⟩
  have hx:=hr x (by simp[ho,Op.operands])
  rw[hv]at hx;refine⟨a.eval x,?_,hx⟩;simp only[execOp,ho];rcases hs hx with⟨ad,e⟩|⟨f,u,c,e⟩<;>rw[e]<;>rfl
 split at h
 ·exact key ‹_› (fun hr=>by cases hr;exact .inl ⟨_,rfl⟩) h
 ·exact key ‹_› (fun hr=>by cases hr;exact .inl ⟨_,rfl⟩) h
 ·exact key ‹_› (fun hr=>by cases hr;exact .inl ⟨_,rfl⟩) h
 ·exact key ‹_› (fun hr=>by cases hr;exact .inl ⟨_,rfl⟩) h
 ·exact key ‹_› (fun hr=>by cases hr;exact .inr ⟨_,_,_,rfl⟩) h
 ·exact h.elim
theorem F6 {md rf CP YP} {o:Oper} {ρ:Operand→PV} {H:Hp} {n:Nat} {x:Operand} {i:Nat} (ho:o.op=.extract x i) {K:KR}
 (h:opK τ md rf CP YP ρ H n o.dst o.op K):∃v sets accs news,K v sets accs news∧bH P r o ρ H v sets accs news:=by
 rw[ho]at h;simp only[opK]at h;split at h
 ·rename_i vs hρ
  rw[aK,bL]at h;have hb:=akY h.1;refine⟨_,_,_,_,h.2,aY (fun c e=>by rw[ho]at e;cases e) fun S w ι H' a M hr ha=>?_⟩
  have hx:=hr x (by simp[ho,Op.operands])
  rw[hρ]at hx;cases hev:a.eval x<;>rw[hev]at hx<;>cases hx
  rename_i us hl hh;refine⟨us.getD i undef,?_,hh i qqO⟩;simp only[execOp,ho];refine dW ?_;simp[Instr.extract,hev,akA (show i<us.size by omega),akD]
 ·exact h.elim
theorem Ao (hτ:bB P τ) {md rf CP YP} {o:Oper} {ρ:Operand→PV} {H:Hp} {n:Nat} {t:TypeId} {x y:Operand} (ho:o.op=.indexAddr t x y) {K:KR}
 (h:opK τ md rf CP YP ρ H n o.dst o.op K):∃v sets accs news,K v sets accs news∧bH P r o ρ H v sets accs news:=by
 rw[ho]at h;simp only[opK,bU,bL,dJ]at h;obtain⟨te,ht,h⟩:=h;have hd:∀c,o.op≠ .defer c:=fun c e=>by rw[ho]at e;cases e
 split at h
 ·rename_i e hu
  obtain⟨te',ht',h⟩:=h;have run:∀{S:Imm} {w:World} {ι:Ix} {a:Act} {b off len cap:Nat} {k:IntKind} {q:Int},a.eval x=.slice (some ⟨b,off,none⟩) len cap→a.eval y=.int k q→0≤q→q<len→
   (execOp a.eval o).run P w=.ok (.value (.pointer (some ⟨b,off+q.toNat*te'.size,none⟩))) w:=by
   intro S w ι a b off len cap k q e1 e2 e3 e4;simp only[execOp,ho];refine dW ?_;simp only[Instr.indexAt,e2,asIntOf,Sem.run_bind,Sem.run_pure,Result.andThen,run_underlying (hτ.und _ _ ht),hu,e1];rw[Sem.run_ite,if_pos ⟨e3,e4⟩];simp only[Sem.run_bind,bI hτ ht',Result.andThen,Sem.run_pure,eT]
  split at h
  ·rename_i c tk hρ
   obtain⟨j,hK,hj,hi⟩:=jm h;have key:∀{v:PV},K v [] [] []→(∀{S:Imm} {w:World} {ι:Ix} {b off:Nat},(∀q,q<c.ncell→S b (off+q))→(∀q,q<c.ncell→Rep S w noI (c.get q) (rdv w b (off+q)))→Rep S w ι v (.pointer (some ⟨b,off+j*te'.size,none⟩)))→
    ∃v sets accs news,K v sets accs news∧bH P r o ρ H v sets accs news:=by
    intro v hv hrep;refine⟨_,_,_,_,hv,aY hd fun S w ι H' a M hr ha=>?_⟩;have hx:=hr x (by simp[ho,Op.operands])
    obtain⟨k,q,e2,e3,e4,e5⟩:=hi (hr y (by simp[ho,Op.operands]))
    rw[hρ]at hx;obtain⟨vx,hev⟩:∃v,a.eval x=v:=⟨_,rfl⟩;rw[hev]at hx;cases hx with
    |islnil _ _ _ hz=>omega
    |isl _ _ _ b off cap hc hs hh hf ho'=>
     refine⟨_,run (S:=S) (ι:=ι) hev e2 e3 e4,?_⟩;rw[e5];exact hrep hs hh
   split at hK
   ·rename_i m rs
    rw[aK]at hK;have e:=akR hK.1;exact key hK.2 (fun hs hh=>by rw[←e];exact .ipe _ (.recs m rs) j 0 _ _ hs hh)
   ·rename_i m q f
    rw[aK]at hK;have e:=akR hK.1;exact key hK.2 (fun hs hh=>by rw[←e];exact .ipe _ (.genr m q f) j 0 _ _ hs hh)
   ·rw[aK]at hK
    have e:=akR hK.1;exact key hK.2 (fun hs hh=>by rw[e,akZ];exact .ip _ _ _ _ _ hs hh)
  ·rename_i k off m hρ
   obtain⟨j,hK,hj,hi⟩:=jm h;rw[bE]at hK;obtain⟨ob,hob,hK⟩:=hK;have key:∀{v:PV},K v [] [k] []→(∀{S:Imm} {w:World} {ι:Ix} {b:Nat},ι.o k=some b→Rep S w ι v (.pointer (some ⟨b,off+j*te'.size,none⟩)))→
    ∃v sets accs news,K v sets accs news∧bH P r o ρ H v sets accs news:=by
    intro v hv hrep;refine⟨_,_,_,_,hv,aY hd fun S w ι H' a M hr ha=>?_⟩;have hx:=hr x (by simp[ho,Op.operands])
    obtain⟨k',q,e2,e3,e4,e5⟩:=hi (hr y (by simp[ho,Op.operands]))
    rw[hρ]at hx;obtain⟨vx,hev⟩:∃v,a.eval x=v:=⟨_,rfl⟩;rw[hev]at hx;cases hx with
    |rslz=>omega
    |rsl _ _ _ _ b cap hk hc _=>
     refine⟨_,run (S:=S) (ι:=ι) hev e2 e3 e4,?_⟩;rw[e5];exact hrep hk
   split at hK
   ·rename_i q rs fz
    rw[aK,akQ]at hK;have e:=akR hK.1.1;have e0:=akR hK.1.2;refine key hK.2 (fun hk=>?_);rw[e0,←e,akS,←akn (j*q)];exact .rpe _ _ _ _ _ _ hk
   ·exact key hK (fun hk=>.rp _ _ _ _ hk)
   ·exact key hK (fun hk=>.rp _ _ _ _ hk)
   ·exact key hK (fun hk=>.rp _ _ _ _ hk)
   ·exact hK.elim
  ·rename_i k b m hρ
   obtain⟨j,hK,hj,hi⟩:=jm h;refine⟨_,_,_,_,hK,aY hd fun S w ι H' a M hr ha=>?_⟩;have hx:=hr x (by simp[ho,Op.operands])
   obtain⟨k',q,e2,e3,e4,e5⟩:=hi (hr y (by simp[ho,Op.operands]))
   rw[hρ]at hx;obtain⟨vx,hev⟩:∃v,a.eval x=v:=⟨_,rfl⟩;rw[hev]at hx;cases hx with
   |row _ _ _ _ cap hc=>
    refine⟨_,run (S:=S) (ι:=ι) hev e2 e3 e4,?_⟩;rw[e5,akS];exact .rowp _ _ _ _ _ _
  ·rename_i k es m hρ
   obtain⟨j,hK,hj,hi⟩:=jm h;rw[bE]at hK;obtain⟨ob,hob,hK⟩:=hK;split at hK
   ·rename_i q rs fz
    rw[aK]at hK;have e:=akR hK.1;refine⟨_,_,_,_,hK.2,aY hd fun S w ι H' a M hr ha=>?_⟩;have hx:=hr x (by simp[ho,Op.operands])
    obtain⟨k',q',e2,e3,e4,e5⟩:=hi (hr y (by simp[ho,Op.operands]))
    rw[hρ]at hx;obtain⟨vx,hev⟩:∃v,a.eval x=v:=⟨_,rfl⟩;rw[hev]at hx;cases hx with
    |rsc _ _ _ _ b cap hk hc he hr'=>
     refine⟨_,run (S:=S) (ι:=ι) hev e2 e3 e4,?_⟩;rw[e5,←e,akS,←akn (j*q)];exact .rpe _ _ _ _ _ _ hk
   ·rename_i q rs
    rw[aK]at hK;have e:=akR hK.1;refine⟨_,_,_,_,hK.2,fun S w ι H' a next Q M hr ha hn hk=>?_⟩;have hx:=hr x (by simp[ho,Op.operands])
    obtain⟨k',q',e2,e3,e4,e5⟩:=hi (hr y (by simp[ho,Op.operands]))
    rw[hρ]at hx;obtain⟨vx,hev⟩:∃v,a.eval x=v:=⟨_,rfl⟩;rw[hev]at hx;cases hx with
    |rsc _ _ _ _ b cap hkb hc he hr'=>
     have hob':=(ha k qqS).trans hob;obtain⟨b',g1,arr,e9,g2,g3,g4,g5⟩:=M.obj k _ hob';obtain⟨M',T⟩:=M.stay (o':=.cells (.recs q rs) false) hob' rfl rfl rfl (.refl _) (.refl _ _) (fun _ _=>rfl) (fun b hb=>hb) ⟨b',arr,e9,g1,g2,g3,fun j hj=>(g4 j hj).up ι,g5⟩;refine cB hd (run (S:=S) (ι:=ι) hev e2 e3 e4) (hk _ S w ι M' (.refl _) (.refl _ _) ?_ T);rw[e5,←e,akS,←akn (j*q)];exact .rpe _ _ _ _ _ _ hkb
   ·exact hK.elim
  ·exact h.elim
 ·rename_i m e hu
  obtain⟨te',ht',h⟩:=h;obtain⟨j,hK,hj,hi⟩:=jm h;obtain⟨v,hK,hs⟩:=Al hK;refine⟨v,_,_,_,hK,aY hd fun S w ι H' a M hr ha=>?_⟩;obtain⟨b,off,h1,h2⟩:=hs (hr x (by simp[ho,Op.operands]))
  obtain⟨k',q,e2,e3,e4,e5⟩:=hi (hr y (by simp[ho,Op.operands]))
  refine⟨_,?_,h2⟩;simp only[execOp,ho];refine dW ?_;simp only[Instr.indexAt,e2,asIntOf,Sem.run_bind,Sem.run_pure,Result.andThen,run_underlying (hτ.und _ _ ht),hu,h1,Instr.sureAddr];rw[Sem.run_ite,if_pos ⟨e3,e4⟩];simp only[Sem.run_bind,bI hτ ht',Result.andThen,Sem.run_pure,eT,e5]
 ·exact h.elim
theorem KV (hτ:bB P τ) {md rf CP YP} {o:Oper} {ρ:Operand→PV} {H:Hp} {n:Nat} {t:TypeId} {x y:Operand} (ho:o.op=.index t x y) {K:KR}
 (h:opK τ md rf CP YP ρ H n o.dst o.op K):∃v sets accs news,K v sets accs news∧bH P r o ρ H v sets accs news:=by
 rw[ho]at h;simp only[opK,bU,bL]at h;obtain⟨te,ht,h⟩:=h;have hd:∀c,o.op≠ .defer c:=fun c e=>by rw[ho]at e;cases e
 split at h
 ·rename_i m e hu
  obtain⟨te',ht',h⟩:=h;split at h
  ·rename_i cs hρ
   obtain⟨j,hK,hj,hi⟩:=jm h;have run:∀{S:Imm} {w:World} {ι:Ix} {a:Act},(∀x∈o.op.operands.toList,Rep S w ι (ρ x) (a.eval x))→∃vs,bG S w ι cs vs∧
    ∀{val:Value},(part e vs (j*te'.size)).run P w=.ok val w→(execOp a.eval o).run P w=.ok (.value val) w:=by
    intro S w ι a hr;have hx:=hr x (by simp[ho,Op.operands])
    obtain⟨k',q,e2,e3,e4,e5⟩:=hi (hr y (by simp[ho,Op.operands]))
    rw[hρ]at hx;cases hev:a.eval x<;>rw[hev]at hx<;>cases hx
    rename_i vs hl hh;refine⟨vs,⟨hl,hh⟩,fun hp=>?_⟩;simp only[execOp,ho];refine dW ?_;simp only[Instr.index,e2,asIntOf,Sem.run_bind,Sem.run_pure,Result.andThen,run_underlying (hτ.und _ _ ht),hu,hev];rw[Sem.run_ite,if_pos ⟨e3,e4⟩];simp only[Sem.run_bind,bI hτ ht',Result.andThen,e5,hp]
   split at hK
   ·rename_i hagg
    refine⟨_,_,_,_,hK.2,aY hd fun S w ι H' a M hr ha=>?_⟩;obtain⟨vs,hv,hrun⟩:=run hr;obtain⟨val,h1,h2⟩:=(om hτ ht' hv).1 hagg hK.1;exact⟨val,hrun h1,h2⟩
   ·rename_i hagg
    refine⟨_,_,_,_,hK.2,aY hd fun S w ι H' a M hr ha=>?_⟩;obtain⟨vs,hv,hrun⟩:=run hr;obtain⟨val,h1,h2⟩:=(om hτ ht' hv).2 hagg hK.1;exact⟨val,hrun h1,h2⟩
  ·exact h.elim
 ·rename_i hu
  split at h
  ·rename_i s hρ
   obtain⟨j,hK,hj,hi⟩:=jm h;refine⟨_,_,_,_,hK,aY hd fun S w ι H' a M hr ha=>?_⟩;have hx:=hr x (by simp[ho,Op.operands])
   obtain⟨k',q,e2,e3,e4,e5⟩:=hi (hr y (by simp[ho,Op.operands]))
   rw[hρ]at hx;cases hev:a.eval x<;>rw[hev]at hx<;>cases hx
   refine⟨.int .u8 ((s.data.getD j 0).toNat:Nat),?_,.int _ _ _⟩;simp only[execOp,ho];refine dW ?_;have hlt:j<s.size:=hj;have hgs:s[j]? =some (s.data.getD j 0):=by
    rw[getElem?_pos s j hlt];congr 1;have hlt':j<s.data.size:=hlt;rw[akD,akA hlt'];rfl
   simp only[Instr.index,e2,asIntOf,Sem.run_bind,Sem.run_pure,Result.andThen,run_underlying (hτ.und _ _ ht),hu,hev,e5,if_pos e3,hgs]
  ·exact h.elim
 ·exact h.elim
variable {P:Program} {r:Option Nat} {τ:TypeId→Option TE}
theorem bF (c:CL):c.ncell=c.cnt*c.esz:=by cases c<;>simp[CL.ncell,CL.cnt,CL.esz]
theorem Mh (c:CL) (a b:Nat):(c.sub a b).esz=c.esz:=by cases c<;>rfl
theorem j5 (c:CL) {a b:Nat} (h:b≤c.cnt):(c.sub a b).cnt=b-a:=by
 cases c<;>simp[CL.sub,CL.cnt]at h⊢ <;>omega
theorem Ey (l:List PV):∀(a i:Nat),aH (l.drop a) i=aH l (a+i):=by
 induction l with
 |nil=>intro a i;simp[aH]
 |cons x xs ih=>
  intro a i;cases a with
  |zero=>simp
  |succ a=>rw[List.drop_succ_cons,ih,show a+1+i=(a+i)+1 by omega];rfl
theorem Ez (l:List PV):∀(n i:Nat),i<n→aH (l.take n) i=aH l i:=by
 induction l with
 |nil=>intro n i h;simp[aH]
 |cons x xs ih=>
  intro n i h;cases n with
  |zero=>omega
  |succ n=>cases i with
   |zero=>rfl
   |succ i=>simp only[List.take_succ_cons,aH];exact ih n i qqO
theorem Mj (c:CL) {a b j:Nat} (hj:j<(b-a)*c.esz):(c.sub a b).get j=c.get (a*c.esz+j):=by
 cases c with
 |pv cs=>simp only[CL.esz,akZ]at hj⊢;simp only[CL.sub,CL.get];rw[Ez _ _ _ hj,Ey]
 |ints k xs=>simp only[CL.esz,akZ]at hj⊢;simp[CL.sub,CL.get,aln,hj]
 |bools xs=>simp only[CL.esz,akZ]at hj⊢;simp[CL.sub,CL.get,aln,hj]
 |strs xs=>simp only[CL.esz,akZ]at hj⊢;simp[CL.sub,CL.get,aln,hj]
 |rows k xs=>simp only[CL.esz,akZ]at hj⊢;simp[CL.sub,CL.get,aln,hj]
 |gen n f=>simp only[CL.esz,akZ]at hj⊢;simp[CL.sub,CL.get]
 |recs m rs=>
  simp only[CL.esz]at hj⊢;have hm:0<m:=by rcases alp m with h|h;(subst h;simp at hj);exact h
  have hq:j / m<b-a:=by rw[ala hm];exact hj
  simp only[CL.sub,CL.get];rw[show(a*m+j) / m=a+j / m by rw[akT,akU hm],show(a*m+j) % m=j % m by rw[akT,akW]]
  simp[aln,hq]
 |genr m n f=>
  simp only[CL.esz]at hj⊢;have hm:0<m:=by rcases alp m with h|h;(subst h;simp at hj);exact h
  simp only[CL.sub,CL.get];rw[show(a*m+j) / m=a+j / m by rw[akT,akU hm],show(a*m+j) % m=j % m by rw[akT,akW]]
theorem F7 {len:Nat} {lo hi:Option PV} {K:Nat→Nat→Prop} (h:xM len lo hi K):∃a b,K a b∧a≤b∧b≤len∧
 ∀{S:Imm} {w:World} {ι:Ix} {vlo vhi:Option Value} {cap:Nat} {isS:Bool},len≤cap→(∀p,lo=some p→∃v,vlo=some v∧Rep S w ι p v)→(lo=none→vlo=none)→(∀p,hi=some p→∃v,vhi=some v∧Rep S w ι p v)→(hi=none→vhi=none)→
  (Instr.sliceBounds isS len cap vlo vhi none).run P w=.ok (a,b,cap) w:=by
 have sb:∀{k:IntKind} {x:Int} {y:Nat} {code:BoundsCode} {w:World},0≤x→x≤y→(Instr.sliceBound (.int k x) y code).run P w=.ok x.toNat w:=by
  intro k x y code w h1 h2;simp only[Instr.sliceBound,asIntOf,Sem.run_bind,Sem.run_pure,Result.andThen];rw[Sem.run_ite,if_pos ⟨h1,h2⟩];rfl
 unfold xM at h;split at h
 ·split at h
  ·refine⟨0,len,h,alq _,aku _,fun hc h1 h2 h3 h4=>?_⟩
   rw[h2 rfl,h4 rfl];simp[Instr.sliceBounds,Result.andThen]
  ·rename_i k x
   refine⟨0,x.toNat,h.2,alq _,qqO,fun hc h1 h2 h3 h4=>?_⟩;obtain⟨v,e,hr⟩:=h3 _ rfl;cases hr
   rw[h2 rfl,e];simp only[Instr.sliceBounds,Sem.run_bind,Sem.run_pure,Result.andThen];rw[sb h.1.1 qqO]
  ·exact h.elim
 ·rename_i k x
  split at h
  ·refine⟨x.toNat,len,h.2,qqO,aku _,fun hc h1 h2 h3 h4=>?_⟩
   obtain⟨v,e,hr⟩:=h1 _ rfl;cases hr
   rw[h4 rfl,e];simp only[Instr.sliceBounds,Sem.run_bind,Sem.run_pure,Result.andThen];rw[sb h.1.1 qqO]
  ·rename_i k' y
   refine⟨x.toNat,y.toNat,h.2,qqO,qqO,fun hc h1 h2 h3 h4=>?_⟩;obtain⟨v,e,hr⟩:=h1 _ rfl;cases hr
   obtain⟨v',e',hr'⟩:=h3 _ rfl;cases hr'
   rw[e,e'];simp only[Instr.sliceBounds,Sem.run_bind,Sem.run_pure,Result.andThen];rw[sb qqO qqO];simp only[Result.andThen];rw[sb h.1.1 qqO]
  ·exact h.elim
 ·exact h.elim
theorem rP {S:Imm} {w:World} {c:CL} {b off:Nat} (hs:∀j,j<c.ncell→S b (off+j)) (hh:∀j,j<c.ncell→Rep S w noI (c.get j) (rdv w b (off+j))) {x y:Nat} (hxy:x≤y) (hy:y≤c.cnt) {cap:Nat} (hc:y-x≤cap) (ι:Ix):
 Rep S w ι (.isl (c.sub x y) .none) (.slice (some ⟨b,off+x*c.esz,none⟩) (y-x) cap):=by
 have e:=j5 c (a:=x) hy;have hn:(c.sub x y).ncell=(y-x)*c.esz:=by rw[bF,e,Mh]
 have hlt:∀j,j<(c.sub x y).ncell→x*c.esz+j<c.ncell:=by
  intro j hj;rw[hn]at hj;rw[bF];have h1:(x+(y-x))*c.esz≤c.cnt*c.esz:=ak6 _ qqO;rw[ak7]at h1;omega
 have:=Rep.isl (S:=S) (w:=w) ι (c.sub x y) .none b (off+x*c.esz) cap qqO (fun j hj=>by rw[akr];exact hs _ (hlt j hj))
  (fun j hj=>by rw[Mj c (by rw[hn]at hj;exact hj),akr];exact hh _ (hlt j hj)) (fun e=>by cases e) (fun k e=>by cases e)
 rw[e]at this;exact this
theorem nK {S:Imm} {w:World} (c:CL) (hc:c.cnt=0) {a:Option Addr} {cap:Nat} (ha:a=none∧cap=0∨∃b o,a=some ⟨b,o,none⟩) (ι:Ix):Rep S w ι (.isl c .none) (.slice a 0 cap):=by
 rcases ha with⟨rfl,rfl⟩|⟨b,o,rfl⟩
 ·exact .islnil _ _ _ hc
 ·have hn:c.ncell=0:=by rw[bF,hc];simp
  have:=Rep.isl (S:=S) (w:=w) ι c .none b o cap qqO (fun j hj=>qqO) (fun j hj=>qqO) (fun e=>by cases e) (fun k e=>by cases e)
  rw[hc]at this;exact this
theorem Rep.dropP {S:Imm} {w:World} {ι:Ix} {p:PV} {v:Value} (h:Rep S w ι p v):Rep S w ι (dropP p) v:=by
 cases p<;>first|exact h|exact h.dropC
theorem H8 (hτ:bB P τ) {rf:List Nat} {o:Oper} {ρ:Operand→PV} {H:Hp} {t:TypeId} {x m:Operand} {lo hi:Option Operand} (ho:o.op=.slice t x lo hi (some m)) {K:KR}
 (h:rO τ rf ρ H o.dst t x lo hi (some m) K):∃v sets accs news,K v sets accs news∧bH P r o ρ H v sets accs news:=by
 have hd:∀c,o.op≠ .defer c:=fun c e=>by rw[ho]at e;cases e
 cases lo with
 |none=>exact h.elim
 |some lo=>
 cases hi with
 |none=>exact h.elim
 |some hi=>
 simp only[rO,bU]at h;obtain⟨te,ht,h⟩:=h;split at h
 ·rename_i e hu
  obtain⟨te',ht',h⟩:=h;split at h
  ·rename_i c tk hρ
   unfold LZ at h;split at h
   ·rename_i ka a hla
    split at h
    ·rename_i kb b hlb
     split at h
     ·rename_i km mm hlm
      simp only[eY,dJ,aK]at h;obtain⟨⟨h0,h1,h2,h3⟩,hsz,hK⟩:=h;have hsz:=akR hsz;have sb:∀{k:IntKind} {x:Int} {y:Nat} {code:BoundsCode} {w:World},0≤x→x≤y→(Instr.sliceBound (.int k x) y code).run P w=.ok x.toNat w:=by
       intro k x y code w h1 h2;simp only[Instr.sliceBound,asIntOf,Sem.run_bind,Sem.run_pure,Result.andThen];rw[Sem.run_ite,if_pos ⟨h1,h2⟩];rfl
      refine⟨_,_,_,_,hK,aY hd fun S w ι H' ac M hr ha=>?_⟩;have ra:=hr lo (by simp[ho,Op.operands])
      have rb:=hr hi (by simp[ho,Op.operands])
      have rm:=hr m (by simp[ho,Op.operands])
      have hx:=hr x (by simp[ho,Op.operands])
      rw[hla]at ra;rw[hlb]at rb;rw[hlm]at rm;rw[hρ]at hx;obtain⟨va,ea⟩:∃v,ac.eval lo=v:=⟨_,rfl⟩;obtain⟨vb,eb⟩:∃v,ac.eval hi=v:=⟨_,rfl⟩;obtain⟨vm,em⟩:∃v,ac.eval m=v:=⟨_,rfl⟩;obtain⟨vx,hev⟩:∃v,ac.eval x=v:=⟨_,rfl⟩;rw[ea]at ra;rw[eb]at rb;rw[em]at rm;rw[hev]at hx;cases ra;cases rb;cases rm
      have hb:∀{ln cap:Nat},c.cnt≤cap→(Instr.sliceBounds true ln cap (some (.int ka a)) (some (.int kb b)) (some (.int km mm))).run P w=.ok (a.toNat,b.toNat,mm.toNat) w:=by
       intro ln cap hc;simp only[Instr.sliceBounds,Sem.run_bind,Sem.run_pure,Result.andThen,if_true,Option.isSome_some];rw[sb qqO qqO];simp only[Result.andThen];rw[sb qqO qqO];simp only[Result.andThen];rw[sb qqO qqO]
      have run:∀{ad:Option Addr} {ln cap:Nat},ac.eval x=.slice ad ln cap→c.cnt≤cap→
       (execOp ac.eval o).run P w=.ok (.value (.slice (if mm.toNat=a.toNat then ad else ad.map (·.add (a.toNat*te'.size))) (b.toNat-a.toNat) (mm.toNat-a.toNat))) w:=by
       intro ad ln cap hev hc;simp only[execOp,ho];refine dW ?_;simp only[Instr.sliceAt,Instr.slice,Sem.run_bind,run_underlying (hτ.und _ _ ht),hu,Result.andThen,hev,akC,ea,eb,em,hb hc,bI hτ ht',Sem.run_pure]
      cases hx with
      |islnil _ _ _ hz=>
       have e1:=run hev qqO;refine⟨_,e1,?_⟩;have qa:a.toNat=0:=qqO;have qb:b.toNat=0:=qqO;have qm:mm.toNat=0:=qqO;simp only[qa,qb,qm,if_true];exact .islnil _ _ _ (by rw[j5 _ qqO])
      |isl _ _ _ bk off cap hc hs hh hf ho'=>
       refine⟨_,run hev hc,?_⟩;by_cases hca:mm.toNat=a.toNat
       ·rw[if_pos hca]
        have:b.toNat-a.toNat=0:=qqO;rw[this];exact nK _ (by rw[j5 _ qqO];omega) (.inr ⟨_,_,rfl⟩) _
       ·rw[if_neg hca]
        simp only[akC,eT,←hsz];exact rP hs hh qqO qqO qqO _
     ·exact h.elim
    ·exact h.elim
   ·exact h.elim
  ·exact h.elim
 ·exact h.elim
theorem H9 (hτ:bB P τ) {rf:List Nat} {o:Oper} {ρ:Operand→PV} {H:Hp} {t:TypeId} {x:Operand} {lo hi mx:Option Operand} (ho:o.op=.slice t x lo hi mx) {K:KR}
 (h:rO τ rf ρ H o.dst t x lo hi mx K):∃v sets accs news,K v sets accs news∧bH P r o ρ H v sets accs news:=by
 cases mx with
 |some m=>exact H8 hτ ho h
 |none=>
 simp only[rO,bU,dJ,eY]at h;obtain⟨te,ht,h⟩:=h;have hd:∀c,o.op≠ .defer c:=fun c e=>by rw[ho]at e;cases e
 have hb:∃ln,xM ln (lo.map ρ) (hi.map ρ) (fun a b=>
  match te.und with
  |.string=>match ρ x with
   |.str s=>K (.str (s.extract a b)) [] [] []
   |_=>False
  |.slice e=>∃te',τ e=some te'∧match ρ x with
   |.isl c tk=>ifK (akM c.esz te'.size) (K (.isl (c.sub a b) .none) [] [] [])
   |.rsl k off m=>match(match o.dst with|some d=>gW d rf|none=>false)with
    |true=>bR H k fun o=>Ag o fun q xs=>ifK (akM off 0&&akM a 0) (K (.rsl k 0 b) [(k,.cells (.ints q (xs.take b)) false)] [k] [])
    |false=>K (.rsl k (off+a*te'.size) (b-a)) [] [] []
   |.nils=>K .nils [] [] []
   |_=>False
  |.array m e=>∃te',τ e=some te'∧match ρ x with
   |.rp k off=>bR H k fun o=>match o with
    |.cells c _=>off+m*te'.size≤c.ncell∧ifK (Nat.ble 1 te'.size) (K (.rsl k (off+a*te'.size) (b-a)) [] [k] [])
    |_=>False
   |.ip c off=>off+m≤c.ncell∧ifK (akM c.esz 1&&akM te'.size 1) (K (.isl (c.sub (off+a) (off+b)) .none) [] [] [])
   |_=>False
  |_=>False)∧(match ρ x with|.isl c _=>ln=c.cnt|.rsl _ _ m=>ln=m|.str s=>ln=s.size|.nils=>ln=0|_=>(match te.und with|.array m _=>ln=m|_=>False)):=by
  split at h
  ·exact⟨_,h,by simp[*]⟩
  ·exact⟨_,h,by simp[*]⟩
  ·exact⟨_,h,by simp[*]⟩
  ·exact⟨_,h,by simp[*]⟩
  ·split at h
   ·exact⟨_,h,by simp[*]⟩
   ·exact h.elim
 obtain⟨ln,hb,hln⟩:=hb;obtain⟨a,b,hK,hab,hbl,hrun⟩:=F7 (P:=P) hb;have runB:∀{S:Imm} {w:World} {ι:Ix} {ac:Act} {cap:Nat} {isS:Bool},(∀x∈o.op.operands.toList,Rep S w ι (ρ x) (ac.eval x))→ln≤cap→
  (Instr.sliceBounds isS ln cap (lo.map ac.eval) (hi.map ac.eval) none).run P w=.ok (a,b,cap) w:=by
  intro S w ι ac cap isS hr hc;refine hrun (S:=S) (w:=w) (ι:=ι) hc ?_ (fun e=>by cases lo<;>simp at e⊢) ?_ (fun e=>by cases hi<;>simp at e⊢)
  ·intro p hp
   cases lo with
   |none=>simp at hp
   |some q=>simp at hp;subst hp;exact⟨_,rfl,hr q (by simp[ho,Op.operands])⟩
  ·intro p hp
   cases hi with
   |none=>simp at hp
   |some q=>simp at hp;subst hp;exact⟨_,rfl,hr q (by simp[ho,Op.operands])⟩
 split at hK
 ·
  rename_i hu;split at hK
  ·rename_i s hρ
   refine⟨_,_,_,_,hK,aY hd fun S w ι H' ac M hr ha=>?_⟩;have hx:=hr x (by simp[ho,Op.operands])
   rw[hρ]at hx hln;cases hev:ac.eval x<;>rw[hev]at hx<;>cases hx
   simp only at hln;subst hln;refine⟨.string (s.extract a b),?_,.str _ _⟩;simp only[execOp,ho];refine dW ?_;simp only[Instr.sliceAt,Instr.slice,Sem.run_bind,run_underlying (hτ.und _ _ ht),hu,Result.andThen,hev,alr,Option.isSome_none,als,if_false,Sem.run_pure,runB hr (aku _)]
  ·exact hK.elim
 ·
  rename_i e hu;obtain⟨te',ht',hK⟩:=hK;have run:∀{S:Imm} {w:World} {ι:Ix} {ac:Act} {ad:Option Addr} {cap:Nat},(∀x∈o.op.operands.toList,Rep S w ι (ρ x) (ac.eval x))→ac.eval x=.slice ad ln cap→ln≤cap→
   (execOp ac.eval o).run P w=.ok (.value (.slice (if cap=a then ad else ad.map (·.add (a*te'.size))) (b-a) (cap-a))) w:=by
   intro S w ι ac ad cap hr hev hc;simp only[execOp,ho];refine dW ?_;simp only[Instr.sliceAt,Instr.slice,Sem.run_bind,run_underlying (hτ.und _ _ ht),hu,Result.andThen,hev,alr,runB hr hc,bI hτ ht',Sem.run_pure]
  split at hK
  ·rename_i c tk hρ
   rw[aK]at hK;have hsz:=akR hK.1;refine⟨_,_,_,_,hK.2,aY hd fun S w ι H' ac M hr ha=>?_⟩;have hx:=hr x (by simp[ho,Op.operands])
   rw[hρ]at hx hln;simp only at hln;subst hln;obtain⟨vx,hev⟩:∃v,ac.eval x=v:=⟨_,rfl⟩;rw[hev]at hx;cases hx with
   |islnil _ _ _ hz=>
    have e1:=run hr (by rw[hev,hz]) qqO
    refine⟨_,e1,?_⟩;have ea:a=0:=qqO;have eb:b=0:=qqO;subst ea;subst eb;simp only[if_true];exact .islnil _ _ _ (by rw[j5 _ qqO])
   |isl _ _ _ bk off cap hc hs hh hf ho'=>
    refine⟨_,run hr hev hc,?_⟩;by_cases hca:cap=a
    ·rw[if_pos hca]
     have:b-a=0:=qqO;rw[this];exact nK _ (by rw[j5 _ hbl];omega) (.inr ⟨_,_,rfl⟩) _
    ·rw[if_neg hca]
     simp only[akC,eT,←hsz];exact rP hs hh hab hbl qqO _
  ·rename_i k off m hρ
   split at hK
   ·rw[bE]at hK
    obtain⟨ob,hob,hK⟩:=hK;obtain⟨q,xs,eob,hK'⟩:=OL hK;clear hK;have hK:=hK';clear hK';subst eob
    ·rw[aK,akQ]at hK
     have e1:=akR hK.1.1;have e2:=akR hK.1.2;subst e1 e2;refine⟨_,_,_,_,hK.2,fun S w ι H' ac next Q M hr ha hn hk=>?_⟩;have hx:=hr x (by simp[ho,Op.operands])
     rw[hρ]at hx hln;simp only at hln;subst hln;obtain⟨vx,hev⟩:∃v,ac.eval x=v:=⟨_,rfl⟩;rw[hev]at hx;have hob':=(ha k qqS).trans hob;obtain⟨b0,arr,e0,g1,g2,g3,g4,g5⟩:=M.obj k _ hob';obtain⟨M',T⟩:=M.write (c':=.ints q (xs.take b)) hob' g1 g2 ⟨.refl _,fun _ _=>rfl,g2⟩ (aku _)
      (by simp only[CL.ncell,alm]at g3⊢;omega) (fun j hj=>by
       simp only[CL.ncell,alm]at hj;have:=g4 j (by simp only[CL.ncell];omega)
       simpa [CL.get,aln,show j<b by omega]using this)
     cases hx with
     |rslz _ _ _ bk o' hk'=>
      have eb:b=0:=qqO;subst eb;exact cB hd (run hr hev qqO) (hk _ S w ι M' (.refl _) (.refl _ _) (by simp only[if_true];exact .rslz _ _ _ _ _ hk') T)
     |rsl _ _ _ _ bk cap hk' hc hrd=>
      refine cB hd (run hr hev hc) (hk _ S w ι M' (.refl _) (.refl _ _) ?_ T);simp only[Nat.sub_zero,alu];split
      ·exact .rsl _ _ _ _ _ _ hk' qqO hrd
      ·simp only[akC,eT];exact .rsl _ _ _ _ _ _ hk' qqO hrd
   refine⟨_,_,_,_,hK,aY hd fun S w ι H' ac M hr ha=>?_⟩;have hx:=hr x (by simp[ho,Op.operands])
   rw[hρ]at hx hln;simp only at hln;subst hln;obtain⟨vx,hev⟩:∃v,ac.eval x=v:=⟨_,rfl⟩;rw[hev]at hx;cases hx with
   |rslz _ _ _ bk o' hk=>
    have e1:=run hr hev qqO;refine⟨_,e1,?_⟩;have ea:a=0:=qqO;have eb:b=0:=qqO;subst ea;subst eb;simp only[if_true];exact .rslz _ _ _ _ _ hk
   |rsl _ _ _ _ bk cap hk hc hrd=>
    refine⟨_,run hr hev hc,?_⟩;by_cases hca:cap=a
    ·rw[if_pos hca]
     have:b-a=0:=qqO;rw[this,hca,ak0];exact .rslz _ _ _ _ _ hk
    ·rw[if_neg hca]
     simp only[akC,eT];exact .rsl _ _ _ _ _ _ hk qqO (fun h0 j hj=>hrd qqO j qqO)
  ·rename_i hρ
   refine⟨_,_,_,_,hK,aY hd fun S w ι H' ac M hr ha=>?_⟩;have hx:=hr x (by simp[ho,Op.operands])
   rw[hρ]at hx hln;simp only at hln;subst hln;cases hev:ac.eval x<;>rw[hev]at hx<;>cases hx
   refine⟨_,run hr hev (aku _),?_⟩;have ea:a=0:=qqO;have eb:b=0:=qqO;subst ea;subst eb;exact .nils _
  ·exact hK.elim
 ·rename_i m e hu
  obtain⟨te',ht',hK⟩:=hK;have run:∀{S:Imm} {w:World} {ι:Ix} {ac:Act} {bk of:Nat},(∀x∈o.op.operands.toList,Rep S w ι (ρ x) (ac.eval x))→ac.eval x=.pointer (some ⟨bk,of,none⟩)→ln=m→
   (execOp ac.eval o).run P w=.ok (.value (.slice (some (if m=a then⟨bk,of,none⟩else⟨bk,of+a*te'.size,none⟩)) (b-a) (m-a))) w:=by
   intro S w ι ac bk of hr hev hc;subst hc;simp only[execOp,ho];refine dW ?_;simp only[Instr.sliceAt,Sem.run_bind,run_underlying (hτ.und _ _ ht),hu,Result.andThen,hev,Instr.sureAddr,alr,runB hr (aku _),bI hτ ht',Sem.run_pure,eT]
  split at hK
  ·rename_i k off hρ
   rw[bE]at hK;obtain⟨ob,hob,hK⟩:=hK;split at hK
   ·rename_i c fz
    rw[aK]at hK;obtain⟨hbn,hsz,hK⟩:=hK;have hsz:=akY hsz;refine⟨_,_,_,_,hK,aY hd fun S w ι H' ac M hr ha=>?_⟩;have hx:=hr x (by simp[ho,Op.operands])
    rw[hρ]at hx hln;simp only[hu]at hln;cases hev:ac.eval x<;>rw[hev]at hx<;>cases hx
    rename_i bk hk;have hl:=M.lies ((ha k qqS).trans hob) hk;refine⟨_,run hr hev hln,?_⟩;have hms:m≤m*te'.size:=alv _ hsz;split
    ·rename_i hma
     have:b-a=0:=qqO;rw[this,hma,ak0];exact .rslz _ _ _ _ _ hk
    ·exact .rsl _ _ _ _ _ _ hk qqO (fun h0 j hj=>by have:=(hl j qqO).1;rwa [akS]at this)
   ·exact hK.elim
  ·rename_i c off hρ
   rw[aK,akQ]at hK;have h1:=akR hK.2.1.1;have h2:=akR hK.2.1.2;refine⟨_,_,_,_,hK.2.2,aY hd fun S w ι H' ac M hr ha=>?_⟩;have hx:=hr x (by simp[ho,Op.operands])
   rw[hρ]at hx hln;simp only[hu]at hln;obtain⟨vx,hev⟩:∃v,ac.eval x=v:=⟨_,rfl⟩;rw[hev]at hx;cases hx with
   |ip _ _ _ bk o' hs hh=>
    refine⟨_,run hr hev hln,?_⟩;have hcn:c.ncell=c.cnt:=by rw[bF,h1,akZ]
    have hle:=hK.1;split
    ·have:b-a=0:=qqO
     rw[this];exact nK _ (by rw[j5 _ qqO];omega) (.inr ⟨_,_,rfl⟩) _
    ·have:=rP hs hh (x:=off+a) (y:=off+b) qqO qqO (cap:=m-a) qqO ι
     rw[h1,akZ,show off+b-(off+a)=b-a by omega,←akr]at this
     rw[h2,akZ];exact this
  ·exact hK.elim
 ·exact hK.elim
theorem KW (hτ:bB P τ) {md rf CP YP} {o:Oper} {ρ:Operand→PV} {H:Hp} {n:Nat} {t:TypeId} {x:Operand} {lo hi mx:Option Operand} (ho:o.op=.slice t x lo hi mx) {K:KR}
 (h:opK τ md rf CP YP ρ H n o.dst o.op K):∃v sets accs news,K v sets accs news∧bH P r o ρ H v sets accs news:=by
 rw[ho]at h;simp only[opK]at h;obtain⟨v,sets,accs,news,hK,hs⟩:=H9 (P:=P) (r:=r) hτ ho h;exact⟨v,sets,accs,news,hK,fun S w ι H' a next Q M hr ha hn hk=>hs S w ι H' a next Q M (fun x hx=>(hr x hx).dropP) ha hn hk⟩
variable {P:Program} {r:Option Nat} {τ:TypeId→Option TE}
theorem Mem.newImm {S:Imm} {w:World} {ι:Ix} {H:Hp} (M:Mem S w ι H) {c:CL} {arr:Array Value} {e:TypeId} (hn:c.ncell≤arr.size)
 (hc:∀j,j<c.ncell→Rep S w noI (c.get j) (arr.getD j undef)):
 ∃S',Mem S' {w with heap:=w.heap.push (.cells arr e)} ι H∧Keeps S w S' {w with heap:=w.heap.push (.cells arr e)}∧
  (∀j,j<c.ncell→S' w.heap.size j)∧(∀j,j<c.ncell→Rep S' {w with heap:=w.heap.push (.cells arr e)} noI (c.get j) (rdv {w with heap:=w.heap.push (.cells arr e)} w.heap.size j))∧
  ∀p,Tr p S w ι H S' {w with heap:=w.heap.push (.cells arr e)} ι H:=by
 let w':World:={w with heap:=w.heap.push (.cells arr e)}
 let S':Imm:=fun b j=>S b j∨(b=w.heap.size∧j<c.ncell)
 have hk0:=jY M.imm (w:=w) (.cells arr e);have hkeep:Keeps S w S' w':=⟨fun b j h=>⟨.inl h,(hk0.imm b j h).2⟩,hk0.cells⟩;have hnew:∀j,rd w' w.heap.size j=arr[j]? :=fun j=>aJ (gJ w _) j;have hrep:∀j,j<c.ncell→Rep S' w' noI (c.get j) (rdv w' w.heap.size j):=fun j hj=>by
  have:=(hc j hj).mono hkeep _ (.refl _);rw[akD]at this;rw[rdv,hnew];exact this
 have hlt:∀k o b,aA H k=some o→o.has ι k b→b<w.heap.size:=fun k o b ho hb=>(M.obj k o ho).lt hb;refine⟨S',⟨?_,M.liveO,M.liveT,M.dist,?_⟩,hkeep,fun j hj=>.inr ⟨rfl,hj⟩,hrep,fun p=>⟨iI _ _ (dU _ _),fun b hb _=>iD hb,hkeep,?_,fun b h=>.inl h,fun k _ b h=>h,fun k _ b n h=>⟨b,n,h,.inl ⟨rfl,aku _⟩⟩⟩⟩
 ·intro k o ho
  refine(M.obj k o ho).mono hkeep (.refl _) (iI _ _ (dU _ _)) (fun b hb=>iD (hlt k o b ho hb)) (fun _=>rfl) rfl (fun b j hb hs=>?_);rcases hs with h|⟨h,_⟩
  ·exact h
  ·have:=hlt k o b ho hb;omega
 ·intro b j hs
  rcases hs with h|⟨rfl,h⟩
  ·rw[(hkeep.imm b j h).2];exact M.imm b j h
  ·rw[hnew,akA qqO];rfl
 ·intro b j hb hs
  rcases hs with h|⟨h,_⟩
  ·exact .inl h
  ·omega
theorem vC {o:Oper} {ρ:Operand→PV} {H0:Hp} {c:CL} {accs:List Nat} (hd:∀c,o.op≠ .defer c)
 (h:∀(S:Imm) (w:World) (ι:Ix) (H:Hp) (a:Act),Mem S w ι H→(∀x∈o.op.operands.toList,Rep S w ι (ρ x) (a.eval x))→(∀k∈accs,aA H k=aA H0 k)→
   ∃arr e,(execOp a.eval o).run P w=.ok (.value (.slice (some ⟨w.heap.size,0,none⟩) c.cnt c.cnt)) {w with heap:=w.heap.push (.cells arr e)}∧c.ncell≤arr.size∧(∀j,j<c.ncell→Rep S w noI (c.get j) (arr.getD j undef))):
 bH P r o ρ H0 (.isl c .full) [] accs []:=by
 intro S w ι H a next Q M hr ha hn hk;obtain⟨arr,e,h1,h2,h3⟩:=h S w ι H a M hr ha;obtain⟨S',M',K,hs,hh,T⟩:=M.newImm h2 h3 (e:=e);refine cB hd h1 (hk _ S' _ ι M' (.refl _) K ?_ T);exact .isl _ _ _ _ _ _ (aku _) (fun j hj=>by rw[akS];exact hs j hj) (fun j hj=>by rw[akS];exact hh j hj) (fun _=>rfl) (fun k e=>by cases e)
theorem j6 {p q:PV} (h:iQ p=some q) {S:Imm} {w:World} {ι:Ix} {v:Value} (hr:Rep S w ι p v):Rep S w noI q v:=by
 cases p with
 |isl c t=>
  have key:∀t',(t'=.full→t=.full)→(∀k,t'≠ .own k)→Rep S w noI (.isl c t') v:=by
   intro t' h1 h2;cases hr with
   |islnil _ _ _ hc=>exact .islnil _ _ _ hc
   |isl _ _ _ b off cap hc hs hh hf ho=>exact .isl _ _ _ _ _ _ hc hs hh (fun e=>hf (h1 e)) (fun k e=>absurd e (h2 k))
  cases t<;>cases h<;>exact key _ qqS qqS
 |ip c o=>cases h;cases hr with|ip _ _ _ b o' hs hh=>exact .ip _ _ _ _ _ hs hh
 |nnl c=>cases h;cases hr with
  |nnl0 _ _ h=>exact .nnl0 _ _ h
  |nnl1 _ _ b off cap h0 hc hs hh=>exact .nnl1 _ _ _ _ _ h0 hc hs hh
 |fn f us vs=>
  simp only[iQ]at h;split at h
  ·rename_i h1
   split at h
   ·rename_i h2
    cases h
    cases hr with
    |fn _ _ _ _ us' vs' hk hl hu hv=>exact .fn _ _ _ _ _ _ hk hl (fun i hi=>jl h1 i hi (hu i hi)) (fun i hi=>jl h2 i hi (hv i hi))
   ·cases h
  ·cases h
 |ipe c i j=>cases h;cases hr with|ipe _ _ _ _ b o' hs hh=>exact .ipe _ _ _ _ _ _ hs hh
 |_=>first|(cases h;cases hr;constructor)|(simp[iQ]at h)
theorem kQ:∀{ps qs:List PV},lU ps=some qs→qs.length=ps.length∧∀i,i<ps.length→∀{S:Imm} {w:World} {ι:Ix} {v:Value},Rep S w ι (aH ps i) v→Rep S w noI (aH qs i) v:=by
 intro ps;induction ps with
 |nil=>intro qs h;simp[lU]at h;subst h;exact⟨rfl,fun i hi=>by simp at hi⟩
 |cons p ps ih=>
  intro qs h;unfold lU at h;split at h
  ·rename_i y hy
   split at h
   ·rename_i ys hys
    cases h
    obtain⟨h1,h2⟩:=ih hys;refine⟨by simp[h1],fun i hi=>?_⟩
    cases i with
    |zero=>intro S w ι v hr;exact j6 hy hr
    |succ i=>exact h2 i (by simpa using hi)
   ·cases h
  ·cases h
theorem Ia {k:IntKind}:∀{ps:List PV} {xs:List Int},vg k ps=some xs→xs.length=ps.length∧∀i,i<ps.length→∀{S:Imm} {w:World} {ι:Ix} {v:Value},Rep S w ι (aH ps i) v→Rep S w noI (.int k (xs.getD i 0)) v:=by
 intro ps;induction ps with
 |nil=>intro qs h;simp[vg]at h;subst h;exact⟨rfl,fun i hi=>by simp at hi⟩
 |cons p ps ih=>
  intro qs h;unfold vg at h;split at h
  ·rename_i e;cases e
  ·rename_i k' n r e
   cases e
   split at h
   ·rename_i hk
    have hk:=of_decide_eq_true hk;subst hk;split at h
    ·rename_i ys hys
     cases h
     obtain⟨h1,h2⟩:=ih hys;refine⟨by simp[h1],fun i hi=>?_⟩
     cases i with
     |zero=>intro S w ι v hr;cases hr;exact .int _ _ _
     |succ i=>intro S w ι v hr;simpa using h2 i (by simpa using hi) hr
    ·cases h
   ·cases h
  ·cases h
theorem F8:∀{ps:List PV} {xs:List Bool},oH ps=some xs→xs.length=ps.length∧∀i,i<ps.length→∀{S:Imm} {w:World} {ι:Ix} {v:Value},Rep S w ι (aH ps i) v→Rep S w noI (.bp (xs.getD i false)) v:=by
 intro ps;induction ps with
 |nil=>intro qs h;simp[oH]at h;subst h;exact⟨rfl,fun i hi=>by simp at hi⟩
 |cons p ps ih=>
  intro qs h;unfold oH at h;split at h
  ·rename_i e;cases e
  ·rename_i n r e
   cases e
   split at h
   ·rename_i ys hys
    cases h
    obtain⟨h1,h2⟩:=ih hys;refine⟨by simp[h1],fun i hi=>?_⟩
    cases i with
    |zero=>intro S w ι v hr;cases hr;exact .bp _ _
    |succ i=>intro S w ι v hr;simpa using h2 i (by simpa using hi) hr
   ·cases h
  ·rename_i n r e
   cases e
   split at h
   ·rename_i ys hys
    cases h
    obtain⟨h1,h2⟩:=ih hys;refine⟨by simp[h1],fun i hi=>?_⟩
    cases i with
    |zero=>intro S w ι v hr;cases hr;exact .bp _ _
    |succ i=>intro S w ι v hr;simpa using h2 i (by simpa using hi) hr
   ·cases h
  ·cases h
theorem Ib:∀{ps:List PV} {xs:List ByteArray},strsOf ps=some xs→xs.length=ps.length∧∀i,i<ps.length→∀{S:Imm} {w:World} {ι:Ix} {v:Value},Rep S w ι (aH ps i) v→Rep S w noI (.str (xs.getD i .empty)) v:=by
 intro ps;induction ps with
 |nil=>intro qs h;simp[strsOf]at h;subst h;exact⟨rfl,fun i hi=>by simp at hi⟩
 |cons p ps ih=>
  intro qs h;unfold strsOf at h;split at h
  ·rename_i e;cases e
  ·rename_i n r e
   cases e
   split at h
   ·rename_i ys hys
    cases h
    obtain⟨h1,h2⟩:=ih hys;refine⟨by simp[h1],fun i hi=>?_⟩
    cases i with
    |zero=>intro S w ι v hr;cases hr;exact .str _ _
    |succ i=>intro S w ι v hr;simpa using h2 i (by simpa using hi) hr
   ·cases h
  ·cases h
theorem Rep.toNoI {S:Imm} {w:World} {ι:Ix} {c:CL} {v:Value} (h:Rep S w ι (.isl c .none) v):Rep S w noI (.isl c .none) v:=j6 (p:=.isl c .none) rfl h
theorem Ic {k:IntKind}:∀{ps:List PV} {xs:List (List Int)},rowsOf k ps=some xs→xs.length=ps.length∧∀i,i<ps.length→∀{S:Imm} {w:World} {ι:Ix} {v:Value},Rep S w ι (aH ps i) v→Rep S w noI (.isl (.ints k (xs.getD i [])) .none) v:=by
 intro ps;induction ps with
 |nil=>intro qs h;simp[rowsOf]at h;subst h;exact⟨rfl,fun i hi=>by simp at hi⟩
 |cons p ps ih=>
  intro qs h;unfold rowsOf at h;split at h
  ·rename_i e;cases e
  ·rename_i k' n t r e
   cases e
   split at h
   ·rename_i hk
    have hk:=of_decide_eq_true hk;subst hk;split at h
    ·rename_i ys hys
     cases h
     obtain⟨h1,h2⟩:=ih hys;refine⟨by simp[h1],fun i hi=>?_⟩
     cases i with
     |zero=>intro S w ι v hr;exact hr.drop.toNoI
     |succ i=>intro S w ι v hr;simpa using h2 i (by simpa using hi) hr
    ·cases h
   ·cases h
  ·rename_i r e
   cases e
   split at h
   ·rename_i ys hys
    cases h
    obtain⟨h1,h2⟩:=ih hys;refine⟨by simp[h1],fun i hi=>?_⟩
    cases i with
    |zero=>intro S w ι v hr;cases hr;exact .islnil _ _ _ rfl
    |succ i=>intro S w ι v hr;simpa using h2 i (by simpa using hi) hr
   ·cases h
  ·cases h
theorem O5 {z:Value} {els:List PV} {K:CL→Prop} (h:WJ z els K):∃c,K c∧c.esz=1∧c.cnt=els.length∧
 ∀i,i<els.length→∀{S:Imm} {w:World} {ι:Ix} {v:Value},Rep S w ι (aH els i) v→Rep S w noI (c.get i) v:=by
 have pvc:(match lU els with|some l=>K (.pv l)|none=>False)→∃c,K c∧c.esz=1∧c.cnt=els.length∧
  ∀i,i<els.length→∀{S:Imm} {w:World} {ι:Ix} {v:Value},Rep S w ι (aH els i) v→Rep S w noI (c.get i) v:=by
  intro h;split at h
  ·rename_i l hl
   obtain⟨h1,h2⟩:=kQ hl;exact⟨_,h,rfl,h1,h2⟩
  ·exact h.elim
 unfold WJ at h;split at h
 ·split at h
  ·rename_i l hl
   obtain⟨h1,h2⟩:=Ia hl;exact⟨_,h,rfl,h1,h2⟩
  ·exact h.elim
 ·split at h
  ·rename_i l hl
   obtain⟨h1,h2⟩:=F8 hl;exact⟨_,h,rfl,h1,h2⟩
  ·exact h.elim
 ·split at h
  ·rename_i l hl
   obtain⟨h1,h2⟩:=Ib hl;exact⟨_,h,rfl,h1,h2⟩
  ·exact h.elim
 ·split at h
  ·rename_i l hl
   obtain⟨h1,h2⟩:=Ic hl;exact⟨_,h,rfl,h1,h2⟩
  ·exact pvc h
 ·exact pvc h
theorem zk (n:Nat):(nZ n).length=n:=by
 induction n with
 |zero=>rfl
 |succ n ih=>simp[nZ,ih]
theorem Ie (n i:Nat):aH (nZ n) i=.any:=by
 induction n generalizing i with
 |zero=>rfl
 |succ n ih=>cases i with
  |zero=>rfl
  |succ i=>exact ih i
theorem oo (m:Nat):∀(n:Nat) (l:List PV),(chunks m n l).length=n:=by
 intro n;induction n with
 |zero=>intro l;rfl
 |succ n ih=>intro l;simp[chunks,ih]
theorem O6 (m:Nat):∀(n:Nat) (l:List PV) (i q:Nat),i<n→q<m→aH ((chunks m n l).getD i []) q=aH l (i*m+q):=by
 intro n;induction n with
 |zero=>intro l i q h;omega
 |succ n ih=>
  intro l i q h hq;cases i with
  |zero=>simp only[chunks,List.getD_cons_zero,alu,akS];exact Ez _ _ _ hq
  |succ i=>
   simp only[chunks,List.getD_cons_succ];rw[ih _ i q qqO hq,Ey];congr 1;rw[ak7];omega
theorem SG {l:List PV} {i:Nat} (h:l.length≤i):aH l i=.any:=by
 induction l generalizing i with
 |nil=>rfl
 |cons x xs ih=>cases i with
  |zero=>simp at h
  |succ i=>exact ih (by simpa using h)
theorem Ig:∀(rs:List (List PV)),eZ rs→∀i,iQ.inlF (rs.getD i [])=true:=by
 intro rs;induction rs with
 |nil=>intro _ i;simp[iQ.inlF]
 |cons r rs ih=>
  intro h i;cases i with
  |zero=>exact h.1
  |succ i=>simpa using ih h.2 i
theorem KY {o:AO} {m:Nat} {K:RC→Prop} (h:OJ o m K):∃c rc,o=.cells c false∧c.cnt=m∧0<m∧(∀b,rc.at b=c)∧
 (∀j,j<c.ncell→∀{S:Imm} {w:World} {ι:Ix} {v:Value},Rep S w ι (c.get j) v→Rep S w noI (c.get j) v)∧K rc:=by
 unfold OJ at h;split at h
 ·split at h
  ·exact h.elim
  ·split at h
   ·exact⟨_,_,rfl,h.1.1.symm,h.1.2,fun _=>rfl,fun j _ S w ι v hv=>by cases hv;exact .int _ _ _,h.2⟩
   ·rename_i e rs
    refine⟨_,_,rfl,h.1.1.symm,h.1.2.1,fun _=>rfl,fun j hj S w ι v hv=>?_,h.2⟩;simp only[CL.get]at hv⊢;by_cases hl:j % e<(rs.getD (j / e) []).length
    ·exact jl (Ig _ h.1.2.2 _) _ hl hv
    ·rw[SG qqO];exact .any _ _
   ·exact h.elim
 ·exact h.elim
theorem Mem.newImmF {S:Imm} {w w':World} {ι:Ix} {H:Hp} (M:Mem S w ι H) {c:CL} {arr:Array Value} {e:TypeId} {fz:Nat × Nat} (hn:c.ncell≤arr.size)
 (hc:∀j,j<c.ncell→Rep S w noI (c.get j) (arr.getD j undef)) (hh:w'.heap=w.heap.push (.cells arr e fz)) (hos:w'.os=w.os) (htp:w'.tape=w.tape) (hou:w'.output=w.output):
 ∃S',Mem S' w' ι H∧Keeps S w S' w'∧(∀j,j<c.ncell→S' w.heap.size j)∧(∀j,j<c.ncell→Rep S' w' noI (c.get j) (rdv w' w.heap.size j))∧∀p,Tr p S w ι H S' w' ι H:=by
 let S':Imm:=fun b j=>S b j∨(b=w.heap.size∧j<c.ncell)
 have hold:∀b,b<w.heap.size→w'.heap[b]? =w.heap[b]? :=fun b hb=>by rw[hh,akz,if_neg qqO]
 have hnw:w'.heap[w.heap.size]? =some (.cells arr e fz):=by rw[hh];simp
 have hbel:Bel w w':=⟨hos,htp,hou,by rw[hh];simp,fun b hb=>gq (hold b hb)⟩
 have hrd:∀b j,(rd w b j).isSome→rd w' b j=rd w b j:=fun b j h=>dD (hold b (dZ h)) j;have hkeep:Keeps S w S' w':=⟨fun b j h=>⟨.inl h,hrd b j (M.imm b j h)⟩,fun b j h=>by rw[hrd b j h];exact h⟩
 have hnew:∀j,rd w' w.heap.size j=arr[j]? :=fun j=>aJ hnw j;have hrep:∀j,j<c.ncell→Rep S' w' noI (c.get j) (rdv w' w.heap.size j):=fun j hj=>by
  have:=(hc j hj).mono hkeep _ (.refl _);rw[akD]at this;rw[rdv,hnew];exact this
 have hlt:∀k o b,aA H k=some o→o.has ι k b→b<w.heap.size:=fun k o b ho hb=>(M.obj k o ho).lt hb;refine⟨S',⟨?_,M.liveO,M.liveT,M.dist,?_⟩,hkeep,fun j hj=>.inr ⟨rfl,hj⟩,hrep,fun p=>⟨hbel,fun b hb _=>hold b hb,hkeep,?_,fun b h=>.inl h,fun k _ b h=>h,fun k _ b n h=>⟨b,n,h,.inl ⟨rfl,aku _⟩⟩⟩⟩
 ·intro k o ho
  refine(M.obj k o ho).mono hkeep (.refl _) hbel (fun b hb=>hold b (hlt k o b ho hb)) (fun _=>rfl) rfl (fun b j hb hs=>?_);rcases hs with h|⟨h,_⟩
  ·exact h
  ·have:=hlt k o b ho hb;omega
 ·intro b j hs
  rcases hs with h|⟨rfl,h⟩
  ·rw[(hkeep.imm b j h).2];exact M.imm b j h
  ·rw[hnew,akA qqO];rfl
 ·intro b j hb hs
  rcases hs with h|⟨h,_⟩
  ·exact .inl h
  ·omega
theorem KZ (hτ:bB P τ) {md rf CP YP} {o:Oper} {ρ:Operand→PV} {H:Hp} {n:Nat} {s d:TypeId} {x:Operand} (ho:o.op=.convert s d x) {K:KR}
 (h:opK τ md rf CP YP ρ H n o.dst o.op K):∃v sets accs news,K v sets accs news∧bH P r o ρ H v sets accs news:=by
 by_cases hno:∀ts td,τ s=some ts→τ d=some td→cvN τ ts td≠1
 ·exact OZ hτ ho hno h
 rw[ho]at h;simp only[opK,bU]at h;obtain⟨ts,hts,td,htd,h⟩:=h;have h1:cvN τ ts td=1:=alx.1 fun e=>hno fun ts' td' a b=>by
  rw[hts]at a;rw[htd]at b;cases a;cases b;exact e
 rw[h1]at h;simp only at h;obtain⟨e,te,hd,he,hu⟩:=abH h1;split at h
 ·rename_i b hb
  refine⟨_,_,_,_,h,fun S w ι H' a next Q M hr ha hn hk=>?_⟩;have hx:=hr x (by simp[ho,Op.operands])
  rw[hb]at hx;have hv:a.eval x=.string b:=by generalize a.eval x=v at hx;cases hx;rfl
  have hrun:=Lib.run_convert_string_bytes (P:=P) w s d e b (hτ.und s ts hts) ((hτ.und d td htd).trans (congrArg some hd)) ((hτ.und e te he).trans (congrArg some hu));have hlen:(zf b).length=b.size:=by unfold zf;rw[List.length_map,ak2];rfl
  have hheap:(Lib.bytesWorld w e b).heap=w.heap.push (.cells (Lib.bytesCells w e b) e ((Lib.bytesCells w e b).size,(Lib.bytesCells w e b).size+1)):=by
   apply Array.ext_getElem?;intro j;rcases Nat.lt_trichotomy j w.heap.size with hj|hj|hj
   ·rw[Lib.bytesWorld_at_old w e b j hj,akz,if_neg qqO]
   ·subst hj;rw[Lib.bytesWorld_at_new];simp
   ·rw[akx (by rw[Lib.bytesWorld_size];omega),akx (by simp;omega)]
  have hg:=grownCap_ge w b.size 0 e;obtain⟨S',M',K',hs',hh',T'⟩:=M.newImmF (c:=.ints .u8 (zf b)) (w':=Lib.bytesWorld w e b) (arr:=Lib.bytesCells w e b) (by simp only[CL.ncell,hlen,Lib.bytesCells];rw[aly,alz];exact Nat.le_add_right b.data.size _) (fun j hj=>by
   simp only[CL.ncell,hlen]at hj;have:(Lib.bytesCells w e b).getD j undef=.int .u8 ((zf b).getD j 0):=by
    have hj':j<b.data.size:=hj;have e1:b.data[j]? =some b.data[j]:=akA hj';rw[akD,Lib.bytesCells,Array.getElem?_append,alz,if_pos hj',Array.getElem?_map,e1,akG,zf,List.getElem?_map,Array.getElem?_toList,e1];rfl
   rw[this];exact .int _ _ _) hheap (by unfold Lib.bytesWorld World.freeze;split<;>rfl) (by unfold Lib.bytesWorld World.freeze;split<;>rfl) (by unfold Lib.bytesWorld World.freeze;split<;>rfl)
  refine cB (fun c e=>by rw[ho]at e;cases e) (w':=Lib.bytesWorld w e b) (val:=.slice (some ⟨w.heap.size,0,none⟩) b.size (grownCap w b.size 0 e)) (by simp only[execOp,ho];rw[hv];exact dW hrun) (hk _ S' _ ι M' (.refl _) K' ?_ T')
  have:=Rep.isl (S:=S') (w:=Lib.bytesWorld w e b) ι (.ints .u8 (zf b)) .none w.heap.size 0 (grownCap w b.size 0 e) (by simp only[CL.cnt,hlen];exact hg) (fun j hj=>by rw[akS];exact hs' j hj) (fun j hj=>by rw[akS];exact hh' j hj) (fun e=>by cases e) (fun k e=>by cases e)
  simpa only[CL.cnt,hlen]using this
 ·exact h.elim
theorem zl (hτ:bB P τ) {md rf CP YP} {o:Oper} {ρ:Operand→PV} {H:Hp} {n:Nat} {t:TypeId} {len:Nat} {parts:Array (Nat × Operand)} (ho:o.op=.buildSlice t len parts) {K:KR}
 (h:opK τ md rf CP YP ρ H n o.dst o.op K):∃v sets accs news,K v sets accs news∧bH P r o ρ H v sets accs news:=by
 rw[ho]at h;simp only[opK,bU,aK,Sn]at h;obtain⟨te,ht,h⟩:=h;have hd:∀c,o.op≠ .defer c:=fun c e=>by rw[ho]at e;cases e
 split at h
 ·rename_i e hu
  obtain⟨te',ht',hsz,h⟩:=h;have hsz:=akY hsz;split at h
  ·rename_i cs hcs
   have run:∀{S:Imm} {w:World} {ι:Ix} {a:Act},(∀x∈o.op.operands.toList,Rep S w ι (ρ x) (a.eval x))→∃arr,bG S w ι cs arr∧cs.length=len*te'.size∧
    (execOp a.eval o).run P w=.ok (.value (.slice (some ⟨w.heap.size,0,none⟩) len len)) {w with heap:=w.heap.push (.cells arr e)}:=by
    intro S w ι a hr;have hparts:∀x∈parts.toList,Rep S w ι (ρ x.2) (a.eval x.2):=by
     intro x hx;exact hr x.2 (by simp[ho,Op.operands];exact⟨x.1,by simpa using hx⟩)
    have hfill:∀zc:Array Value,zc.size=len*te'.size→∃vs',Instr.fill (fun i=>some (i*te'.size,te'.size)) zc (parts.map fun x=>(x.1,a.eval x.2)).toList=some vs'∧bG S w ι cs vs':=by
     intro zc hzs;obtain⟨vs',h1,h2⟩:=sQ (S:=S) (w:=w) (ι:=ι) (ρ:=ρ) (a:=a) (place:=fun i=>some (i*te'.size,te'.size)) (F:=fun l ps=>jN l te'.size ps) (fun l=>by simp[jN])
      (fun l i v rest cs hh=>sS l i v rest cs hh) parts.toList _ cs zc hparts hcs ⟨by rw[zk,hzs],fun i hi=>by rw[Ie];exact .any _ _⟩
     exact⟨vs',by simpa using h1,h2⟩
    have hlen:cs.length=len*te'.size:=by
     have:∀(ps:List (Nat × PV)) (l cs:List PV),jN l te'.size ps=some cs→cs.length=l.length:=by
      intro ps;induction ps with
      |nil=>intro l cs hh;simp[jN]at hh;rw[hh]
      |cons x xs ih=>
       intro l cs hh;obtain⟨i,v⟩:=x;obtain⟨o',sz,ds,_,_,_,h4,_⟩:=sS (S:=S) (w:=w) (ι:=ι) l i v xs cs hh;rw[ih _ _ h4,lX]
     rw[this _ _ _ hcs,zk]
    have pre:∀X,(∀{w':World},(Instr.buildSlice t len (parts.map fun x=>(x.1,a.eval x.2))).run P w=.ok X w'→(execOp a.eval o).run P w=.ok (.value X) w'):=by
     intro X w' hX;simp only[execOp,ho];exact dW hX
    by_cases h0:len*te'.size=0
    ·obtain⟨vs',h1,h2⟩:=hfill ((alA (len*te'.size)).map fun x=>(#[]:Array Value)[x % (#[]:Array Value).size]!) qqS
     refine⟨vs',h2,hlen,pre _ ?_⟩;simp only[Instr.buildSlice,Sem.run_bind,run_underlying (hτ.und _ _ ht),hu,Result.andThen,bI hτ ht'];rw[if_neg qqO,Sem.run_ite,if_pos h0];simp only[Sem.run_bind,Sem.run_pure,Result.andThen,h1];simp[newRow,Result.andThen]
    ·obtain⟨vs',h1,h2⟩:=hfill ((alA (len*te'.size)).map fun x=>te'.zero.cells[x % te'.zero.cells.size]!) qqS
     refine⟨vs',h2,hlen,pre _ ?_⟩;simp only[Instr.buildSlice,Sem.run_bind,run_underlying (hτ.und _ _ ht),hu,Result.andThen,bI hτ ht'];rw[if_neg qqO,Sem.run_ite,if_neg h0];simp only[Sem.run_bind,Sem.run_pure,Result.andThen,gT hτ ht',h1];simp[newRow,Result.andThen]
   split at h
   ·simp only[aK,akQ]at h
    obtain⟨⟨es,el⟩,h⟩:=h;have es:=akR es;have el:=akR el;subst el;unfold afw at h;split at h
    ·rename_i x
     split at h
     ·rw[bS]at h
      refine⟨_,_,_,_,h.2,?_⟩;intro S w ι H' a' next Q M hr ha hn hk;have hnn:=hn n qqS;obtain⟨arr,h1,h2,h3⟩:=run hr;have h0:=h1.2 0 qqS;simp only[aH]at h0;obtain⟨x0,hx0⟩:∃x0,arr.getD 0 undef=x0:=⟨_,rfl⟩;rw[hx0]at h0;have hsz1:arr.size=1:=by have:=h1.1;simp at this;omega
      cases h0
      obtain⟨w',hw'⟩:∃w':World,w'={w with heap:=w.heap.push (.cells arr e)}:=⟨_,rfl⟩;rw[←hw']at h3;have hheap:w'.heap=w.heap.push (.cells arr e):=by rw[hw']
      have hbelow:Bel w w':=by rw[hw'];exact iI _ _ (dU _ _)
      obtain⟨X,M',le,K',T⟩:=M.qNil hnn (arr:=arr) (e:=e) qqO hx0 hheap hbelow (fun _=>.pv []);have hio:(ι.setm n w.heap.size X).o n=some w.heap.size:=by simp[Ix.setm]
      refine cB hd h3 (hk _ S w' _ M' le K' (.rsl _ _ _ _ _ _ hio (aku _) (fun _ j hj=>?_)) T);have hat:w'.heap[w.heap.size]? =some (.cells arr e (0,0)):=by rw[hheap];simp
      rw[aJ hat,akA qqO];rfl
     ·obtain⟨a,c,od,h,hod,hox,hoT,hsrc⟩:=vo h
      rw[bS]at h;refine⟨_,_,_,_,h.2,?_⟩;intro S w ι H' a' next Q M hr ha hn hk;have hnn:=hn n qqS;have hod':=(ha a qqS).trans hod;obtain⟨arr,h1,h2,h3⟩:=run hr;have h0:=h1.2 0 qqS;simp only[aH]at h0;have hsz1:arr.size=1:=by have:=h1.1;simp at this;omega
      obtain⟨ba,cap,e1,e2,e3,e4,e5,e6,e7⟩:=hsrc M hod' h0;obtain⟨w',hw'⟩:∃w':World,w'={w with heap:=w.heap.push (.cells arr e)}:=⟨_,rfl⟩;rw[←hw']at h3;have hheap:w'.heap=w.heap.push (.cells arr e):=by rw[hw']
      have hbelow:Bel w w':=by rw[hw'];exact iI _ _ (dU _ _)
      obtain⟨X,M',le,K',T⟩:=M.qOne hnn hod' hox hoT e2 e3 e4 e5 e6 e7 (arr:=arr) (e:=e) qqO e1 hheap hbelow;have hio:(ι.setm n w.heap.size X).o n=some w.heap.size:=by simp[Ix.setm]
      refine cB hd h3 (hk _ S w' _ M' le K' (.rsl _ _ _ _ _ _ hio (aku _) (fun _ j hj=>?_)) T);have hat:w'.heap[w.heap.size]? =some (.cells arr e (0,0)):=by rw[hheap];simp
      rw[aJ hat,akA qqO];rfl
    ·exact h.elim
   split at h
   ·rename_i a m hrl
    have hcs1:cs=[.rsl a 0 m]:=by
     unfold Sy at hrl;split at hrl
     ·split at hrl
      ·split at hrl
       ·cases hrl;rfl
       ·cases hrl
      ·cases hrl
     ·cases hrl
    rw[bE,akQ]at h;obtain⟨⟨es,el⟩,ob,hob,h⟩:=h;have es:=akR es;have el:=akR el;subst el;obtain⟨c,rc,hobc,hm,hm0,hrc,hno,h⟩:=KY h;rw[bS]at h;refine⟨_,_,_,_,h.2,?_⟩;intro S w ι H' a' next Q M hr ha hn hk;have hob':=(ha a qqS).trans (hob.trans (by rw[hobc]))
    have hnn:=hn n qqS;obtain⟨arr,h1,h2,h3⟩:=run hr;rw[hcs1]at h1 h2;have h0:=h1.2 0 qqS;simp only[aH]at h0;obtain⟨x0,hx0⟩:∃x0,arr.getD 0 undef=x0:=⟨_,rfl⟩;rw[hx0]at h0;have hsz1:arr.size=1:=by have:=h1.1;simp at this;omega
    cases h0 with
    |rslz=>omega
    |rsl _ _ _ _ b cap hkb hc hrd=>
     have hw2:∃w':World,w'={w with heap:=w.heap.push (.cells arr e)}:=⟨_,rfl⟩;obtain⟨w',hw'⟩:=hw2;rw[←hw']at h3;have hheap:w'.heap=w.heap.push (.cells arr e):=by rw[hw']
     have hbelow:Bel w w':=by rw[hw'];exact iI _ _ (dU _ _)
     obtain⟨X,M',le,K',T⟩:=M.absorb hob' hnn hkb (rc:=rc) hrc (fun j hj v hv=>hno j hj hv) (arr:=arr) (e:=e) qqO (cap:=cap) qqO (by rw[hx0,hm]) hheap hbelow
     have hio:(ι.setm n w.heap.size X).o n=some w.heap.size:=by simp[Ix.setm]
     refine cB hd h3 (hk _ S w' _ M' le K' (.rsl _ _ _ _ _ _ hio (aku _) (fun _ j hj=>?_)) T);have hat:w'.heap[w.heap.size]? =some (.cells arr e (0,0)):=by rw[hheap];simp
     rw[aJ hat,akA qqO];rfl
   split at h
   ·split at h
    ·rename_i ds hds
     obtain⟨i1,i2⟩:=kQ hds;have hm:=akY h.1;have hrec:∀{S:Imm} {w:World} {ι:Ix} {arr:Array Value},bG S w ι cs arr→cs.length=len*te'.size→∀j,j<(CL.recs te'.size (chunks te'.size len ds)).ncell→
      Rep S w noI ((CL.recs te'.size (chunks te'.size len ds)).get j) (arr.getD j undef):=by
      intro S w ι arr ha hl j hj;simp only[CL.ncell,oo]at hj;have hq:j % te'.size<te'.size:=alc _ hm;have hd':j / te'.size<len:=by rw[ala hm];exact hj
      simp only[CL.get];rw[O6 _ _ _ _ _ hd' hq,Nat.div_add_mod'];exact i2 j qqO (ha.2 j qqO)
     have h:=h.2;split at h
     ·rw[bS]at h
      refine⟨_,_,_,_,h.2,jR hd fun S w ι H' a M hr ha=>?_⟩;obtain⟨arr,h1,h2,h3⟩:=run hr;have e1:=h1.1;exact⟨_,arr,e,h3,by simp[CL.ncell,oo];omega,fun j hj=>(hrec h1 h2 j hj).up ι,fun S' w' ι' hi hw=>.rsl _ _ _ _ _ _ hi (aku _) (fun _ j hj=>by
       have:=alv len hm;rw[aJ hw,akA qqO];rfl)⟩
     ·refine⟨_,_,_,_,h,vC hd fun S w ι H' a M hr ha=>?_⟩
      obtain⟨arr,h1,h2,h3⟩:=run hr;have e1:=h1.1;exact⟨arr,e,by simpa [CL.cnt,oo]using h3,by simp[CL.ncell,oo];omega,hrec h1 h2⟩
    ·exact h.elim
   ·obtain⟨c,h,c1,c2,c3⟩:=O5 h
    have hm:=akR h.1;have hcn:c.ncell=cs.length:=by rw[bF,c1,c2,akZ]
    have h:=h.2;split at h
    ·rw[bS]at h
     refine⟨_,_,_,_,h.2,jR hd fun S w ι H' a M hr ha=>?_⟩;obtain⟨arr,h1,h2,h3⟩:=run hr;have e1:=h1.1;exact⟨_,arr,e,h3,qqO,fun j hj=>(c3 j qqO (h1.2 j qqO)).up ι,fun S' w' ι' hi hw=>.rsl _ _ _ _ _ _ hi (aku _) (fun _ j hj=>by
      rw[hm,akZ]at h2;rw[aJ hw,akA qqO];rfl)⟩
    ·refine⟨_,_,_,_,h,vC hd fun S w ι H' a M hr ha=>?_⟩
     obtain⟨arr,h1,h2,h3⟩:=run hr;have e1:=h1.1;have e2:c.cnt=len:=by rw[c2,h2,hm,akZ]
     exact⟨arr,e,by rw[e2];exact h3,qqO,fun j hj=>c3 j qqO (h1.2 j qqO)⟩
  ·exact h.elim
 ·exact h.elim
variable {P:Program} {r:Option Nat} {τ:TypeId→Option TE}
theorem dw {w:World} {b off n size len cap:Nat} (h:∀j,j<n*size→(rd w b (off+j)).isSome):
 (Builtin.firstCells size n (.slice (some ⟨b,off,none⟩) len cap)).run P w=.ok ((akE (n*size)).map fun j=>rdv w b (off+j)).toArray w:=by
 simp only[Builtin.firstCells];exact run_loadCells P h
theorem mh {w:World} {a:Option Addr} {size len cap:Nat}:(Builtin.firstCells size 0 (.slice a len cap)).run P w=.ok #[] w:=by
 cases a with
 |none=>rfl
 |some a=>simp only[Builtin.firstCells,alu];rfl
theorem run_firstCells_none {w:World} {n size len cap:Nat}:(Builtin.firstCells size n (.slice none len cap)).run P w=.ok #[] w:=rfl
theorem SH (n:Nat) (c:Nat) (h:c<n):Builtin.growBy n 4 c≤3*n+2000:=by
 simp only[Builtin.growBy];split
 ·omega
 ·split
  ·omega
  ·split
   ·omega
   ·split<;>omega
theorem Ap {n c:Nat} (h:c<n):Builtin.nextslicecap n c≤3*n+2000:=by
 unfold Builtin.nextslicecap;split
 ·omega
 ·split
  ·omega
  ·exact SH n c h
theorem run_append_grow (hτ:bB P τ) {t u ty e:TypeId} {tt tu te:TE} (ht:τ t=some tt) (hu:τ u=some tu) (he:τ e=some te) (hd:tt.und=.slice e) {e':TypeId} (hd':tu.und=.slice e') {w:World}
 {base:Option Addr} {sLen sCap n:Nat} {xb:Option Addr} {xc:Nat} (hgrow:sCap<sLen+n) (hbd:sLen+n≤1073741824) (hby:te.bytes≤65536) {old new:Array Value}
 (hold:(Builtin.firstCells te.size sLen (.slice base sLen sCap)).run P {w with drawn:=w.drawn+1}=.ok old {w with drawn:=w.drawn+1})
 (hnew:(Builtin.firstCells te.size n (.slice xb n xc)).run P {w with drawn:=w.drawn+1}=.ok new {w with drawn:=w.drawn+1}):
 ∃cap',sLen+n≤cap'∧(Builtin.append_ #[t,u] ty #[.slice base sLen sCap,.slice xb n xc]).run P w=
  .ok (.slice (some ⟨w.heap.size,0,none⟩) (sLen+n) cap') {({w with drawn:=w.drawn+1}:World)with heap:=w.heap.push (.cells (old++new++Builtin.zeroCells te.zero.cells (cap'-(sLen+n))) e)}:=by
 obtain⟨i,hi,hz,hs,hb⟩:=jG hτ he w;obtain⟨i2,hi2,hz2,hs2,hb2⟩:=jG hτ he {w with drawn:=w.drawn+1};have hcap:=Ap hgrow;refine⟨(Question.appendCap (sLen+n) sCap e).cut (w.tape w.drawn (.appendCap (sLen+n) sCap e)),by simp[Question.cut],?_⟩
 simp only[Builtin.append_,alB,alC,alD,Sem.run_bind,run_underlying (hτ.und _ _ ht),hd,Result.andThen,bI hτ he,run_underlying (hτ.und _ _ hu),hd',Sem.run_pure,als,if_false,Builtin.lenOf];simp only[ali,if_true];rw[Sem.run_ite,if_neg qqO];simp only[Sem.run_bind,hi,Result.andThen,hb];rw[Sem.run_ite,if_neg (by simp[IntKind.max,IntKind.signed,IntKind.bits];omega)]
 simp only[Sem.run_bind,Sem.run_pure,Result.andThen,hi,hb];rw[Sem.run_ite,if_neg (by
  have:Builtin.nextslicecap (sLen+n) sCap*te.bytes≤3221227472*65536:=alE qqO hby;omega)]
 simp only[Sem.run_bind,run_choose,Question.forced,als,if_false,Result.andThen,hi2,hb2,run_askRoom,hold,hnew,ali,if_true,gT hτ he,newRow,run_newObj,Sem.run_pure]
theorem Aq (hτ:bB P τ) {t u ty e:TypeId} {tt tu te:TE} (ht:τ t=some tt) (hu:τ u=some tu) (he:τ e=some te) (hd:tt.und=.slice e) {k:IntKind} (hd':tu.und=.int k) {w:World}
 {n:Nat} (hn:0<n∧n≤1000000) (hby:te.bytes≤65536) (h1:te.size=1):
 ∃cap',n≤cap'∧(Builtin.append_ #[t,u] ty #[.slice none 0 0,.int .i64 (n:Int)]).run P w=
  .ok (.slice (some ⟨w.heap.size,0,none⟩) n cap') {({w with drawn:=w.drawn+1}:World)with heap:=w.heap.push (.cells (#[]++Builtin.zeroCells te.zero.cells n++Builtin.zeroCells te.zero.cells (cap'-n)) e)}:=by
 obtain⟨i,hi,hz,hs,hb⟩:=jG hτ he w;obtain⟨i2,hi2,hz2,hs2,hb2⟩:=jG hτ he {w with drawn:=w.drawn+1};have hcap:=Ap (n:=n) (c:=0) hn.1;have hw:IntKind.i64.wrap (n:Int)=n:=by simp[IntKind.wrap,IntKind.signed,IntKind.bits];omega
 have hmul:n*te.bytes≤1000000*65536:=alE hn.2 hby;refine⟨(Question.appendCap n 0 e).cut (w.tape w.drawn (.appendCap n 0 e)),by simp[Question.cut],?_⟩
 simp only[Builtin.append_,alB,alC,alD,Sem.run_bind,run_underlying (hτ.und _ _ ht),hd,Result.andThen,bI hτ he,run_underlying (hτ.und _ _ hu),hd',Sem.run_pure,if_true,asInt,asIntOf,hw];rw[Sem.run_ite,if_neg qqO];simp only[Sem.run_bind,hi,Result.andThen,hb];rw[Sem.run_ite,if_neg qqO];simp only[Sem.run_bind,Sem.run_pure,Result.andThen,Int.toNat_natCast,akS];rw[Sem.run_ite,if_neg qqO];simp only[Sem.run_bind,hi,Result.andThen,hb];rw[Sem.run_ite,if_neg (by simp[IntKind.max,IntKind.signed,IntKind.bits];omega)]
 simp only[Sem.run_bind,Sem.run_pure,Result.andThen,hi,hb];rw[Sem.run_ite,if_neg (by
  have:Builtin.nextslicecap n 0*te.bytes≤3002000*65536:=alE qqO hby;omega)]
 have hz:¬n*te.size=0:=by rw[h1];omega
 simp only[Sem.run_bind,run_choose,Question.forced,als,if_false,Result.andThen,hi2,hb2,run_askRoom,run_firstCells_none,alj,hz,gT hτ he,newRow,run_newObj,Sem.run_pure]
theorem gU (hτ:bB P τ) {t u ty e:TypeId} {tt tu te:TE} (ht:τ t=some tt) (hu:τ u=some tu) (he:τ e=some te) (hd:tt.und=.slice e) {e':TypeId} (hd':tu.und=.slice e') {w w':World}
 {base:Option Addr} {sLen sCap n:Nat} {xb:Option Addr} {xc:Nat} (hfit:sLen+n≤sCap) {new:Array Value}
 (hnew:(Builtin.firstCells te.size n (.slice xb n xc)).run P w=.ok new w)
 (hst:((match base with|some a=>storeCells (a.add (sLen*te.size)) new.toList|none=>pure ()):Sem Unit).run P w=.ok () w'):
 (Builtin.append_ #[t,u] ty #[.slice base sLen sCap,.slice xb n xc]).run P w=.ok (.slice base (sLen+n) sCap) w':=by
 simp only[Builtin.append_,alB,alC,alD,Sem.run_bind,run_underlying (hτ.und _ _ ht),hd,Result.andThen,bI hτ he,run_underlying (hτ.und _ _ hu),hd',Sem.run_pure,als,if_false,Builtin.lenOf];rw[Sem.run_ite,if_pos hfit];simp only[Sem.run_bind,ali,if_true,hnew,Result.andThen];cases base with
 |none=>simp at hst;subst hst;rfl
 |some a=>simp only at hst;simp only[Sem.run_bind,hst,Result.andThen,Sem.run_pure]
theorem Mem.tokStep {S:Imm} {w w':World} {ι:Ix} {H:Hp} (M:Mem S w ι H) {k b esz hw':Nat} {arr':Array Value} {e:TypeId}
 (below:Bel w w') (other:∀b',b'<w.heap.size→b'≠b→w'.heap[b']? =w.heap[b']?) (here:w'.heap[b]? =some (.cells arr' e (0,0))) (hpos:0<hw') (hsz:hw'*esz≤arr'.size)
 (hk:aA H k=none∨∃hw,aA H k=some (.tok esz hw))
 (hle:∀b0 hw,ι.t k=some (b0,hw)→(b=b0∧hw≤hw')∨hw<hw')
 (hb:w.heap.size≤b∨∃hw arr e0,aA H k=some (.tok esz hw)∧ι.t k=some (b,hw)∧w.heap[b]? =some (.cells arr e0 (0,0))∧arr.size≤arr'.size∧∀j,j<hw*esz→arr'[j]? =arr[j]?):
 ∃S',Mem S' w' (ι.sett k b hw') (aO H k (.tok esz hw'))∧Keeps S w S' w'∧ι.le (ι.sett k b hw')∧(∀j,j<hw'*esz→S' b j)∧∀p,Tr p S w ι H S' w' (ι.sett k b hw') (aO H k (.tok esz hw')):=by
 let S':Imm:=fun b' j=>S b' j∨(b'=b∧j<hw'*esz)
 have hnotO:ι.o k=none:=by
  cases eo:ι.o k with
  |none=>rfl
  |some x=>
   obtain⟨o,g1,g2⟩:=M.liveO k x eo;rcases hk with h|⟨hw,h⟩
   ·rw[h]at g1;cases g1
   ·rw[h]at g1;cases g1;simp[AO.isTok]at g2
 have hSb:∀j,S b j→∃hw arr e0,w.heap[b]? =some (.cells arr e0 (0,0))∧arr.size≤arr'.size∧j<hw*esz∧hw≤hw'∧∀j,j<hw*esz→arr'[j]? =arr[j]? :=by
  intro j hs;have hlt:=dZ (M.imm b j hs);rcases hb with h|⟨hw,arr,e0,h1,h2,h3,h4,h5⟩
  ·omega
  ·obtain⟨g1,g2⟩:=M.obj k _ h1
   rcases alp hw with hz|hz
   ·rw[g1 hz]at h2;cases h2
   ·obtain⟨b',arr2,e2,q1,q2,q3⟩:=g2 hz
    rw[h2]at q1;cases q1
    have:=hle b hw h2;exact⟨hw,arr,e0,h3,h4,q3 j hs,qqO,h5⟩
 have keeps:Keeps S w S' w':=by
  refine⟨fun b' j hs=>⟨.inl hs,?_⟩,fun b' j hs=>?_⟩
  ·by_cases eb:b'=b
   ·subst eb
    obtain⟨hw,arr,e0,h3,h4,h5,h6,h7⟩:=hSb j hs;rw[aJ here,aJ h3];exact h7 j h5
   ·exact dD (other b' (dZ (M.imm b' j hs)) eb) j
  ·by_cases eb:b'=b
   ·subst eb
    have hlt:=dZ hs;rcases hb with h|⟨hw,arr,e0,h1,h2,h3,h4,h5⟩
    ·omega
    ·rw[aJ h3]at hs
     rw[aJ here];have:j<arr.size:=by
      rcases akw j arr.size with h1|h1
      ·exact h1
      ·rw[akx h1]at hs;simp at hs
     rw[akA qqO];rfl
   ·rw[dD (other b' (dZ hs) eb) j];exact hs
 have le:ι.le (ι.sett k b hw'):=⟨fun _ _ h=>h,fun k' b0 hw h=>by
  by_cases ek:k'=k
  ·subst ek
   refine⟨b,hw',by simp[Ix.sett],?_⟩
   rcases hle b0 hw h with⟨h1,h2⟩|h1
   ·exact .inl ⟨h1,h2⟩
   ·exact .inr h1
  ·exact⟨b0,hw,by simp[Ix.sett,ek,h],.inl ⟨rfl,aku _⟩⟩⟩
 have hbl:∀b',(AO.tok esz hw').has (ι.sett k b hw') k b'↔b'=b:=fun b'=>by simp[AO.has,Ix.sett,eq_comm]
 obtain⟨M',T⟩:=M.step (S':=S') (b:=b) (k:=k) (o':=.tok esz hw') below other keeps (fun b' j h=>by rcases h with h|⟨h,_⟩;exact .inl h;exact .inr h)
  (fun j h=>by
    rw[aJ here];have:j<arr'.size:=by
     rcases h with h|⟨_,h⟩
     ·obtain⟨hw,arr,e0,h3,h4,h5,h6,h7⟩:=hSb j h
      have:hw*esz≤hw'*esz:=ak6 _ h6;omega
     ·omega
    rw[akA this];rfl)
  le (fun _ _=>rfl) (fun k' h=>by simp[Ix.sett,h]) rfl
  (by
    rcases hb with h|⟨hw,arr,e0,h1,h2,h3,h4,h5⟩
    ·exact .inl h
    ·exact .inr ⟨_,h1,rfl,_,h2⟩)
  hbl (fun _=>by simpa [Ix.sett]using hnotO) (fun h=>by simp[AO.isTok]at h)
  ⟨fun hz=>qqO,fun _=>⟨b,arr',e,by simp[Ix.sett],here,fun j h=>by
   rcases h with h|⟨_,h⟩
   ·obtain⟨hw,arr,e0,h3,h4,h5,h6,h7⟩:=hSb j h
    have:hw*esz≤hw'*esz:=ak6 _ h6;omega
   ·exact h⟩⟩
 exact⟨S',M',keeps,le,fun j hj=>.inr ⟨rfl,hj⟩,T⟩
theorem Mem.virgin {S:Imm} {w:World} {ι:Ix} {H:Hp} (M:Mem S w ι H) {k:Nat} (hk:aA H k=none) (esz:Nat):
 Mem S w ι (aO H k (.tok esz 0))∧∀p,Tr p S w ι H S w ι (aO H k (.tok esz 0)):=by
 have hno:=M.none_o hk;have hnt:=M.none_t hk;have get:∀k' o,aA (aO H k (.tok esz 0)) k'=some o→(k'=k∧o=.tok esz 0)∨(k'≠k∧aA H k'=some o):=by
  intro k' o h;rw[aX]at h;by_cases e:k'=k
  ·subst e;simp at h;exact .inl ⟨rfl,h.symm⟩
  ·rw[if_neg e]at h;exact .inr ⟨e,h⟩
 have up:∀k' o,aA H k'=some o→aA (aO H k (.tok esz 0)) k'=some o:=by
  intro k' o h;rw[aX];by_cases e:k'=k
  ·subst e;rw[hk]at h;cases h
  ·rw[if_neg e];exact h
 have own:∀b,owned ι (aO H k (.tok esz 0)) b→owned ι H b:=by
  rintro b ⟨k',o,h1,h2,h3⟩
  rcases get k' o h1 with⟨rfl,rfl⟩|⟨_,h⟩
  ·simp[AO.has,hnt]at h3
  ·exact⟨k',o,h,h2,h3⟩
 refine⟨⟨?_,?_,?_,?_,M.imm⟩,fun p=>⟨Bel.refl _,fun _ _ _=>rfl,.refl _ _,fun _ _ _ h=>.inl h,fun b h=>.inl (own b h),fun _ _ _ h=>h,fun _ _ b n h=>⟨b,n,h,.inl ⟨rfl,aku _⟩⟩⟩⟩
 ·intro k' o h
  rcases get k' o h with⟨rfl,rfl⟩|⟨_,h⟩
  ·exact⟨fun _=>hnt,fun h=>qqO⟩
  ·exact M.obj k' o h
 ·intro k' b h
  obtain⟨o,h1,h2⟩:=M.liveO k' b h;exact⟨o,up k' o h1,h2⟩
 ·intro k' x h
  obtain⟨o,h1,h2⟩:=M.liveT k' x h;exact⟨o,up k' o h1,h2⟩
 ·intro k1 k2 o1 o2 b h1 h2 hb1 hb2
  rcases get k1 o1 h1 with⟨rfl,rfl⟩|⟨_,h1⟩
  ·simp[AO.has,hnt]at hb1
  ·rcases get k2 o2 h2 with⟨rfl,rfl⟩|⟨_,h2⟩
   ·simp[AO.has,hnt]at hb2
   ·exact M.dist k1 k2 o1 o2 b h1 h2 hb1 hb2
theorem K4:∀(rs:List (List PV)),eZ rs→∀i,iQ.inlF (rs.getD i [])=true:=by
 intro rs;induction rs with
 |nil=>intro _ i;rfl
 |cons x r ih=>
  intro h i;cases i with
  |zero=>exact h.1
  |succ i=>simpa using ih h.2 i
theorem gX {c:CL} {K:CL→Prop} (h:lV c K):∃d,K d∧d.esz=c.esz∧d.ncell=c.ncell∧∀j,j<c.ncell→∀{S:Imm} {w:World} {ι:Ix} {v:Value},Rep S w ι (c.get j) v→Rep S w noI (d.get j) v:=by
 unfold lV at h;split at h
 ·exact⟨_,h,rfl,rfl,fun j hj S w ι v hr=>by cases hr;exact .int _ _ _⟩
 ·exact⟨_,h,rfl,rfl,fun j hj S w ι v hr=>by cases hr;exact .bp _ _⟩
 ·exact⟨_,h,rfl,rfl,fun j hj S w ι v hr=>by cases hr;exact .str _ _⟩
 ·exact⟨_,h,rfl,rfl,fun j hj S w ι v hr=>hr.toNoI⟩
 ·split at h
  ·rename_i ds hds
   obtain⟨h1,h2⟩:=kQ hds;exact⟨_,h,rfl,h1,fun j hj S w ι v hr=>h2 j hj hr⟩
  ·exact h.elim
 ·rename_i m rs
  refine⟨_,h.2,rfl,rfl,fun j hj S w ι v hr=>?_⟩;simp only[CL.get]at hr⊢;by_cases hl:j % m<(rs.getD (j / m) []).length
  ·exact jl (K4 rs h.1 _) _ hl hr
  ·have:aH (rs.getD (j / m) []) (j % m)=.any:=by
    generalize rs.getD (j / m) []=l at hl
    generalize j % m=q at hl
    induction l generalizing q with
    |nil=>rfl
    |cons x xs ih=>cases q with
     |zero=>simp at hl
     |succ q=>exact ih q (by simpa using hl)
   rw[this];exact .any _ _
 ·exact h.elim
def Src (S:Imm) (w:World) (d:CL) (vx:Value):Prop:=
 ∃ad cap,vx=.slice ad d.cnt cap∧∃vals:Array Value,vals.size=d.ncell∧(∀j,j<d.ncell→Rep S w noI (d.get j) (vals.getD j undef))∧
  ∀(P:Program) (w':World),w'.heap=w.heap→(Builtin.firstCells d.esz d.cnt vx).run P w'=.ok vals w'
theorem nA {S:Imm} {w:World} {d:CL} {b off cap:Nat} (h:∀j,j<d.ncell→(rd w b (off+j)).isSome) (hr:∀j,j<d.ncell→Rep S w noI (d.get j) (rdv w b (off+j))):
 Src S w d (.slice (some ⟨b,off,none⟩) d.cnt cap):=by
 refine⟨_,_,rfl,((akE d.ncell).map fun j=>rdv w b (off+j)).toArray,qqS,fun j hj=>?_,fun P w' hw=>?_⟩
 ·have:=hr j hj
  simpa [akD,hj]using this
 ·have e:∀j,rd w' b j=rd w b j:=fun j=>by simp[rd,hw]
  have:=dw (P:=P) (w:=w') (b:=b) (off:=off) (n:=d.cnt) (size:=d.esz) (len:=d.cnt) (cap:=cap) (fun j hj=>by rw[e];exact h j (by rw[bF];exact hj))
  rw[this,bF];simp only[rdv,e]
theorem Mk {S:Imm} {w:World} {d:CL} {a:Option Addr} (h:d.cnt=0):Src S w d (.slice a 0 0):=by
 have hn:d.ncell=0:=by rw[bF,h,alu]
 exact⟨a,0,by rw[h], #[],by rw[hn];rfl,fun j hj=>qqO,fun P w' hw=>by rw[h];exact mh⟩
theorem jo {H:Hp} {x:PV} {K:CL→List Nat→Prop} (h:sN H x K):∃d acc,K d acc∧∀{S:Imm} {w:World} {ι:Ix} {H':Hp} {vx:Value},Mem S w ι H'→(∀k∈acc,aA H' k=aA H k)→Rep S w ι x vx→Src S w d vx:=by
 unfold sN at h;split at h
 ·rename_i c t
  refine⟨_,_,h,fun M ha hr=>?_⟩;cases hr with
  |islnil _ _ _ hc=>exact Mk hc
  |isl _ _ _ b off cap hc hs hh hf ho=>exact nA (fun j hj=>M.imm _ _ (hs j hj)) hh
 ·rename_i k off n
  rw[bE]at h;obtain⟨o,ho,h⟩:=h;split at h
  ·rename_i c fz
   obtain⟨d,h,d1,d2,d3⟩:=gX h;simp only[eY,dJ,aK]at h;obtain⟨h1,h2,h3⟩:=h;have h2:=akR h2;have hcnt:(d.sub off (off+n)).cnt=n:=by rw[j5 _ h1];omega
   have hnc:(d.sub off (off+n)).ncell=n:=by rw[bF,hcnt,Mh,h2,akZ]
   have hdn:d.ncell=d.cnt:=by rw[bF,h2,akZ]
   refine⟨_,_,h3,fun M ha hr=>?_⟩;rename_i S w ι H' vx;have ho':=(ha k qqS).trans ho;cases hr with
   |rslz _ _ _ b o' hk=>
    have:=nA (S:=S) (w:=w) (d:=d.sub off (off+0)) (b:=b) (off:=o') (cap:=0) (fun j hj=>qqO) (fun j hj=>qqO);rw[hcnt]at this;exact this
   |rsl _ _ _ _ b cap hk hc _=>
    have hl:=M.lies ho' hk;have:=nA (S:=S) (w:=w) (d:=d.sub off (off+n)) (b:=b) (off:=off) (cap:=cap)
     (fun j hj=>by have:=(hl (off+j) qqO).1;rwa [akS]at this)
     (fun j hj=>by
       rw[Mj d (by rw[h2,akZ];omega),h2,akZ]
       have:=d3 (off+j) qqO (hl (off+j) qqO).2
       rwa [akS]at this)
    rw[hcnt]at this;exact this
  ·exact h.elim
 ·exact h.elim
theorem nC (l m:List PV):∀j,(j<l.length→aH (l++m) j=aH l j)∧aH (l++m) (l.length+j)=aH m j:=by
 induction l with
 |nil=>intro j;exact⟨fun h=>by simp at h,qqS⟩
 |cons x xs ih=>
  intro j;refine⟨fun h=>?_,?_⟩
  ·cases j with
   |zero=>rfl
   |succ j=>exact(ih j).1 (by simpa using h)
  ·rw[akq,show xs.length+1+j=(xs.length+j)+1 by omega]
   exact(ih j).2
theorem oq {c d:CL} {K:CL→Prop} (h:Cz c d K):∃e,K e∧e.esz=c.esz∧d.esz=c.esz∧e.cnt=c.cnt+d.cnt∧(∀j,j<c.ncell→e.get j=c.get j)∧∀j,j<d.ncell→e.get (c.ncell+j)=d.get j:=by
 unfold Cz at h;split at h
 ·exact⟨_,h,rfl,rfl,by simp[CL.cnt],fun j hj=>((nC _ _ j).1 hj),fun j hj=>(nC _ _ j).2⟩
 ·rw[aK]at h
  have e:=of_decide_eq_true h.1;subst e;exact⟨_,h.2,rfl,rfl,by simp[CL.cnt],fun j hj=>by simp only[CL.ncell]at hj;simp[CL.get,alF,hj],fun j hj=>by simp[CL.get,CL.ncell,alG]⟩
 ·exact⟨_,h,rfl,rfl,by simp[CL.cnt],fun j hj=>by simp only[CL.ncell]at hj;simp[CL.get,alF,hj],fun j hj=>by simp[CL.get,CL.ncell,alG]⟩
 ·exact⟨_,h,rfl,rfl,by simp[CL.cnt],fun j hj=>by simp only[CL.ncell]at hj;simp[CL.get,alF,hj],fun j hj=>by simp[CL.get,CL.ncell,alG]⟩
 ·rw[aK]at h
  have e:=of_decide_eq_true h.1;subst e;exact⟨_,h.2,rfl,rfl,by simp[CL.cnt],fun j hj=>by simp only[CL.ncell]at hj;simp[CL.get,alF,hj],fun j hj=>by simp[CL.get,CL.ncell,alG]⟩
 ·rename_i m xs m' ys
  rw[aK]at h;have e:=akR h.1;subst e;refine⟨_,h.2,rfl,rfl,by simp[CL.cnt],fun j hj=>?_,fun j hj=>?_⟩
  ·simp only[CL.ncell]at hj
   have hm:0<m:=by rcases alp m with h|h;(subst h;simp at hj);exact h
   have:j / m<xs.length:=by rw[ala hm];exact hj
   simp[CL.get,alF,this]
  ·simp only[CL.ncell]at hj⊢
   have hm:0<m:=by rcases alp m with h|h;(subst h;simp at hj);exact h
   simp only[CL.get];rw[show(xs.length*m+j) / m=xs.length+j / m by rw[akT,akU hm],show(xs.length*m+j) % m=j % m by rw[akT,akW]]
   simp[alG]
 ·exact h.elim
variable {P:Program} {r:Option Nat} {τ:TypeId→Option TE}
theorem kg {ι:Ix} {H H':Hp} (h:∀k,aA H k=aA H' k) (b:Nat):owned ι H b↔owned ι H' b:=by
 simp only[owned,h]
theorem Mem.congr {S:Imm} {w:World} {ι:Ix} {H H':Hp} (h:∀k,aA H k=aA H' k) (M:Mem S w ι H):Mem S w ι H':=
 ⟨fun k o ho=>M.obj k o ((h k).trans ho),fun k b hb=>by obtain⟨o,h1,h2⟩:=M.liveO k b hb;exact⟨o,(h k).symm.trans h1,h2⟩,
  fun k b hb=>by obtain⟨o,h1,h2⟩:=M.liveT k b hb;exact⟨o,(h k).symm.trans h1,h2⟩,
  fun k k' o o' b h1 h2=>M.dist k k' o o' b ((h k).trans h1) ((h k').trans h2),M.imm⟩
theorem Tr.congr {p:Nat} {S S':Imm} {w w':World} {ι ι':Ix} {H H' H1:Hp} (h:∀k,aA H k=aA H1 k) (t:Tr p S w ι H S' w' ι' H'):Tr p S w ι H1 S' w' ι' H':=
 ⟨t.below,fun b hb ho=>t.same b hb (fun h'=>ho ((kg h b).1 h')),t.keeps,fun b j hb hs=>Or.imp id (fun h'=>(kg h b).1 h') (t.immN b j hb hs),
  fun b ho=>Or.imp (fun h'=>(kg h b).1 h') id (t.own b ho),t.protO,t.protT⟩
theorem Tr.congr' {p:Nat} {S S':Imm} {w w':World} {ι ι':Ix} {H H' H1:Hp} (h:∀k,aA H' k=aA H1 k) (t:Tr p S w ι H S' w' ι' H'):Tr p S w ι H S' w' ι' H1:=
 ⟨t.below,t.same,t.keeps,t.immN,fun b ho=>t.own b ((kg h b).2 ho),t.protO,t.protT⟩
theorem EA {H:Hp} {k:Nat} {o:AO} (h:aA H k=some o) (k':Nat):aA H k'=aA (aO H k o) k':=by
 rw[aX];by_cases e:k'=k
 ·subst e;simp[h]
 ·simp[e]
def fU (P:Program) (S:Imm) (w:World) (ι:Ix) (H:Hp) (s:Sem Value) (v:PV) (sets:List (Nat × AO)):Prop:=
 ∃val S' w' ι',s.run P w=.ok val w'∧Mem S' w' ι' (bC H sets)∧ι.le ι'∧Keeps S w S' w'∧Rep S' w' ι' v val∧∀p,Tr p S w ι H S' w' ι' (bC H sets)
theorem fU.same {S:Imm} {w:World} {ι:Ix} {H:Hp} {s:Sem Value} {v:PV} {val:Value} (M:Mem S w ι H) (h:s.run P w=.ok val w) (hr:Rep S w ι v val):fU P S w ι H s v []:=
 ⟨val,S,w,ι,h,M,.refl _,.refl _ _,hr,fun p=>.refl _ _ _ _ _⟩
theorem fU.again {S:Imm} {w:World} {ι:Ix} {H:Hp} {s:Sem Value} {v:PV} {val:Value} {k:Nat} {ob:AO} (hk:aA H k=some ob) (M:Mem S w ι H) (h:s.run P w=.ok val w) (hr:Rep S w ι v val):fU P S w ι H s v [(k,ob)]:=
 ⟨val,S,w,ι,h,M.congr (EA hk),.refl _,.refl _ _,hr,fun p=>(Tr.refl _ _ _ _ _).congr' (EA hk)⟩
theorem fU.virgin {S:Imm} {w:World} {ι:Ix} {H:Hp} {s:Sem Value} {v:PV} {val:Value} {k:Nat} (hk:aA H k=none) (esz:Nat) (M:Mem S w ι H) (h:s.run P w=.ok val w) (hr:Rep S w ι v val):fU P S w ι H s v [(k,.tok esz 0)]:=
 ⟨val,S,w,ι,h,(M.virgin hk esz).1,.refl _,.refl _ _,hr,(M.virgin hk esz).2⟩
structure Row (S:Imm) (w:World) (esz:Nat) (n:Nat) (g:Nat→PV) (vs:Value) (vals:Array Value):Prop where
 size:vals.size=n*esz
 rep:∀j,j<n*esz→Rep S w noI (g j) (vals.getD j undef)
 run:∀(P:Program) (w':World),w'.heap=w.heap→(Builtin.firstCells esz n vs).run P w'=.ok vals w'
theorem zm (hτ:bB P τ) {t u ty e:TypeId} {tt tu te:TE} (ht:τ t=some tt) (hu:τ u=some tu) (he:τ e=some te) (hd:tt.und=.slice e) {e':TypeId} (hd':tu.und=.slice e')
 {S:Imm} {w:World} {ι:Ix} {H:Hp} (M:Mem S w ι H) {k:Nat} (hk:aA H k=none∨∃hw,aA H k=some (.tok te.size hw)) {base xb:Option Addr} {cn sCap dn xc:Nat}
 (hlt:∀b0 hw,ι.t k=some (b0,hw)→hw<cn+dn) (hgrow:sCap<cn+dn) (hbd:cn+dn≤1073741824) (hby:te.bytes≤65536) {E:CL} (hE:E.cnt=cn+dn) (hEs:E.esz=te.size)
 {old new:Array Value} (ho:Row S w te.size cn E.get (.slice base cn sCap) old) (hn:Row S w te.size dn (fun j=>E.get (cn*te.size+j)) (.slice xb dn xc) new):
 fU P S w ι H (Builtin.append_ #[t,u] ty #[.slice base cn sCap,.slice xb dn xc]) (.isl E (.own k)) [(k,.tok te.size (cn+dn))]:=by
 obtain⟨cap',hcap,hrun⟩:=run_append_grow (ty:=ty) hτ ht hu he hd hd' hgrow hbd hby (ho.run P {w with drawn:=w.drawn+1} rfl) (hn.run P {w with drawn:=w.drawn+1} rfl);have hEn:E.ncell=(cn+dn)*te.size:=by rw[bF,hE,hEs]
 have hzc:te.zero.cells.size=te.size:=hτ.zsz _ _ he;have e1:∀{arr:Array Value} {e0:TypeId},({({w with drawn:=w.drawn+1}:World)with heap:=w.heap.push (.cells arr e0)}:World).heap=w.heap.push (.cells arr e0):=rfl;generalize hzz:Builtin.zeroCells te.zero.cells (cap'-(cn+dn))=zz at hrun
 have hzs:zz.size=(cap'-(cn+dn))*te.size:=by
  rw[←hzz];simp[Builtin.zeroCells,hzc]
 have hsz:(old++new++zz).size=cap'*te.size:=by
  simp only[aly,ho.size,hn.size,hzs,←ak7];congr 1;omega
 have hle:(cn+dn)*te.size≤cap'*te.size:=ak6 _ hcap;generalize hw':({({w with drawn:=w.drawn+1}:World)with heap:=w.heap.push (.cells (old++new++zz) e)}:World)=w' at hrun
 have hheap:w'.heap=w.heap.push (.cells (old++new++zz) e):=by rw[←hw']
 have hbelow:Bel w w':=by
  refine .block w.heap.size (by rw[←hw']) (by rw[←hw']) (by rw[←hw']) (by rw[←hw'];simp) (fun b' hb'=>by rw[hheap,akz,if_neg hb']) (by rw[akx (aku _)];exact ji) (by rw[hheap];simp;exact dU _ _)
 have hnew:w'.heap[w.heap.size]? =some (.cells (old++new++zz) e (0,0)):=by rw[hheap];simp
 obtain⟨S',M',K',L',hS,T⟩:=M.tokStep (k:=k) (b:=w.heap.size) (esz:=te.size) (hw':=cn+dn) hbelow (fun b' hb' _=>by rw[hheap,akz];rw[if_neg qqO]) hnew qqO qqO hk
  (fun b0 hw h=>.inr (hlt b0 hw h)) (.inl (aku _))
 refine⟨_,S',w',_,hrun,M',L',K',?_,T⟩;have hval:∀j,j<(cn+dn)*te.size→Rep S w noI (E.get j) (rdv w' w.heap.size j):=by
  intro j hj;rw[rdv,aJ hnew];by_cases h:j<cn*te.size
  ·have:=ho.rep j h
   rw[akD]at this;rw[alH (by simp only[aly,ho.size];omega),alH (by rw[ho.size];omega)]
   exact this
  ·have h2:j-cn*te.size<dn*te.size:=by rw[ak7]at hj;omega
   have:=hn.rep (j-cn*te.size) h2;rw[akD,show cn*te.size+(j-cn*te.size)=j by omega]at this
   rw[alH (by simp only[aly,ho.size,hn.size];omega),Array.getElem?_append_right (by rw[ho.size];omega),ho.size]
   exact this
 have:=Rep.isl (S:=S') (w:=w') (ι.sett k w.heap.size (cn+dn)) E (.own k) w.heap.size 0 cap' qqO (fun j hj=>by rw[akS];exact hS j qqO)
  (fun j hj=>by rw[akS];exact(hval j qqO).mono K' _ (.refl _)) (fun h=>by cases h)
  (fun k' h=>by
    cases h
    exact .inr ⟨w.heap.size,cn+dn,by simp[Ix.sett],qqO,.inl ⟨rfl,rfl,fun j hj=>by
     rw[aJ hnew,akA (by rw[hsz,←hEs];exact hj)];rfl⟩⟩)
 rw[hE]at this;exact this
theorem Src.row {S:Imm} {w:World} {d:CL} {vx:Value} (h:Src S w d vx):∃ad cap vals,vx=.slice ad d.cnt cap∧Row S w d.esz d.cnt d.get (.slice ad d.cnt cap) vals:=by
 obtain⟨ad,cap,rfl,vals,h1,h2,h3⟩:=h;exact⟨ad,cap,vals,rfl,⟨by rw[h1,bF],fun j hj=>h2 j (by rw[bF];exact hj),h3⟩⟩
theorem Ar {S:Imm} {w:World} {ι:Ix} {H:Hp} (M:Mem S w ι H) {c:CL} {t:Tok} {v:Value} (h:Rep S w ι (.isl c t) v):Src S w c v:=by
 cases h with
 |islnil _ _ _ hc=>exact Mk hc
 |isl _ _ _ b off cap hc hs hh hf ho=>exact nA (fun j hj=>M.imm _ _ (hs j hj)) hh
theorem K5 {m:Nat}:∀(rs:List (List PV)),oI m rs→∀i,i<rs.length→jF (rs.getD i [])=true∧(rs.getD i []).length=m:=by
 intro rs;induction rs with
 |nil=>intro _ i hi;simp at hi
 |cons r rs ih=>
  intro h i hi;cases i with
  |zero=>have:=h.1;rw[akQ]at this;exact⟨this.2,akR this.1⟩
  |succ i=>simpa using ih h.2 i (by simpa using hi)
theorem sU {d:CL} {K:Prop} (h:Hu d K):K∧∀j,j<d.ncell→one (d.get j)=true:=by
 unfold Hu at h;split at h
 ·rw[aK]at h
  exact⟨h.2,fun j hj=>jZ _ h.1 j hj⟩
 ·exact⟨h,fun j _=>rfl⟩
 ·exact⟨h,fun j _=>rfl⟩
 ·exact⟨h,fun j _=>rfl⟩
 ·exact⟨h,fun j _=>rfl⟩
 ·rename_i m rs
  refine⟨h.2,fun j hj=>?_⟩;simp only[CL.ncell]at hj;have hm:0<m:=by rcases alp m with h|h;(subst h;simp at hj);exact h
  have h1:j / m<rs.length:=by rw[ala hm];exact hj
  obtain⟨g1,g2⟩:=K5 rs h.1 _ h1;exact jZ _ g1 _ (by rw[g2];exact alc _ hm)
 ·exact h.elim
theorem abK (hτ:bB P τ) {t u ty e:TypeId} {tt tu te:TE} (ht:τ t=some tt) (hu:τ u=some tu) (he:τ e=some te) (hd:tt.und=.slice e) {e':TypeId} (hd':tu.und=.slice e')
 {S:Imm} {w:World} {ι:Ix} {H:Hp} (M:Mem S w ι H) {k hw b:Nat} (hk:aA H k=some (.tok te.size hw)) (hb:ι.t k=some (b,hw)) {xb:Option Addr} {cap dn xc:Nat}
 (hfit:hw+dn≤cap) (hcells:∀j,j<cap*te.size→(rd w b j).isSome) (hpos:0<hw) {E:CL} (hE:E.cnt=hw+dn) (hEs:E.esz=te.size)
 (hold:∀j,j<hw*te.size→S b j∧Rep S w noI (E.get j) (rdv w b j)) {new:Array Value} (hone:∀j,j<dn*te.size→one (E.get (hw*te.size+j))=true)
 (hn:Row S w te.size dn (fun j=>E.get (hw*te.size+j)) (.slice xb dn xc) new):
 fU P S w ι H (Builtin.append_ #[t,u] ty #[.slice (some ⟨b,0,none⟩) hw cap,.slice xb dn xc]) (.isl E (.own k)) [(k,.tok te.size (hw+dn))]:=by
 have hEn:E.ncell=(hw+dn)*te.size:=by rw[bF,hE,hEs]
 obtain⟨_,g⟩:=M.obj k _ hk;obtain⟨b',arr,e0,g1,g2,g3⟩:=g hpos;rw[hb]at g1;cases g1
 have hsz:cap*te.size≤arr.size:=by
  rcases alp (cap*te.size)with h|h
  ·omega
  ·have:=hcells (cap*te.size-1) qqO
   rw[aJ g2]at this;rcases akw (cap*te.size-1) arr.size with h1|h1
   ·omega
   ·rw[akx h1]at this;simp at this
 have hle:(hw+dn)*te.size≤cap*te.size:=ak6 _ hfit;have hadd:(hw+dn)*te.size=hw*te.size+dn*te.size:=ak7 _ _ _;have honeV:∀v∈new.toList,v.oneCell'=true:=by
  intro v hv;obtain⟨i,hi,rfl⟩:=akK hv;have hi':i<dn*te.size:=by rw[←hn.size];simpa using hi
  have:=(hn.rep i hi').oneCell (hone i hi');simpa [akD,akA (show i<new.size by simpa using hi)]using this
 obtain⟨w',r1,uu⟩:=bQ P new.toList (o:=hw*te.size) (i:=0) g2 honeV (by simp[hn.size];omega)
 have hput:∀j,(putRow arr (hw*te.size+0) new.toList).getD j undef=if hw*te.size≤j∧j<hw*te.size+dn*te.size then new.getD (j-hw*te.size) undef else arr.getD j undef:=by
  intro j;rw[fA _ _ _ _ (by simp[hn.size];omega)]
  simp only[akn,ak2,hn.size];congr 1;simp[akD]
 have hsz':(putRow arr (hw*te.size+0) new.toList).size=arr.size:=bW _ _ _;obtain⟨S',M',K',L',hS,T⟩:=M.tokStep (k:=k) (b:=b) (esz:=te.size) (hw':=hw+dn) uu.below (fun b' _ hb'=>uu.other b' hb') uu.here qqO qqO (.inr ⟨hw,hk⟩)
  (fun b0 hw0 h=>by rw[hb]at h;cases h;exact .inl ⟨rfl,qqO⟩) (.inr ⟨hw,arr,e0,hk,hb,g2,qqO,fun j hj=>by
   have:=hput j;rw[if_neg qqO]at this;have hj1:j<arr.size:=qqO;simp only[akD,akA hj1,akA (show j<(putRow arr (hw*te.size+0) new.toList).size by omega),alo]at this
   rw[akA hj1,akA qqO,this]⟩)
 have hrun:=gU (ty:=ty) (w':=w') hτ ht hu he hd hd' (base:=some ⟨b,0,none⟩) (sLen:=hw) (sCap:=cap) hfit (hn.run P w rfl) (by simpa [eT]using r1)
 refine⟨_,S',w',_,hrun,M',L',K',?_,T⟩;have:=Rep.isl (S:=S') (w:=w') (ι.sett k b (hw+dn)) E (.own k) b 0 cap qqO (fun j hj=>by rw[akS];exact hS j qqO)
  (fun j hj=>by
    rw[akS];by_cases h:j<hw*te.size
    ·obtain⟨h1,h2⟩:=hold j h
     have:=h2.mono K' _ (.refl _);rw[rdv,(K'.imm b j h1).2];exact this
    ·have h2:j-hw*te.size<dn*te.size:=qqO
     have:=(hn.rep _ h2).mono K' _ (.refl _);rw[show hw*te.size+(j-hw*te.size)=j by omega]at this
     have h3:=hput j;rw[if_pos qqO]at h3;rw[rdv,aJ uu.here,←akD,h3];exact this) (fun h=>by cases h)
  (fun k' h=>by
    cases h
    exact .inr ⟨b,hw+dn,by simp[Ix.sett],qqO,.inl ⟨rfl,rfl,fun j hj=>K'.cells _ _ (hcells j (by rw[←hEs];exact hj))⟩⟩)
 rw[hE]at this;exact this
theorem Rep.islSlice {S:Imm} {w:World} {ι:Ix} {c:CL} {t:Tok} {v:Value} (h:Rep S w ι (.isl c t) v):∃ad cap,v=.slice ad c.cnt cap:=by
 cases h with
 |islnil _ _ _ hc=>exact⟨_,0,by rw[hc]⟩
 |isl _ _ _ b off cap=>exact⟨_,_,rfl⟩
theorem Rep.islCap {S:Imm} {w:World} {ι:Ix} {c:CL} {t:Tok} {v:Value} (h:Rep S w ι (.isl c t) v):∃ad cap,v=.slice ad c.cnt cap∧c.cnt≤cap:=by
 cases h with
 |islnil _ _ _ hc=>exact⟨_,0,by rw[hc],qqO⟩
 |isl _ _ _ b off cap hc=>exact⟨_,_,rfl,hc⟩
theorem Rep.rslSlice {S:Imm} {w:World} {ι:Ix} {k off n:Nat} {v:Value} (h:Rep S w ι (.rsl k off n) v):∃ad cap,v=.slice ad n cap:=by
 cases h<;>exact⟨_,_,rfl⟩
theorem nN (hτ:bB P τ) {t u ty e:TypeId} {tt tu te:TE} (ht:τ t=some tt) (hu:τ u=some tu) (he:τ e=some te) (hd:tt.und=.slice e) {e':TypeId} (hd':tu.und=.slice e') (hby:te.bytes≤65536)
 {H:Hp} {n:Nat} {s x:PV} {K:KR} (h:mG te H n s x K):
 ∃v sets accs news,K v sets accs news∧∀{S:Imm} {w:World} {ι:Ix} {H':Hp} {vs vx:Value},Mem S w ι H'→Rep S w ι s vs→Rep S w ι x vx→(∀k∈accs,aA H' k=aA H k)→(∀k∈news,aA H' k=none)→
  fU P S w ι H' (Builtin.append_ #[t,u] ty #[vs,vx]) v sets:=by
 have nil0:∀{base:Option Addr} {sLen sCap:Nat} (w:World),sLen≤sCap→∀{xb:Option Addr} {xc:Nat},(Builtin.firstCells te.size 0 (.slice xb 0 xc)).run P w=.ok #[] w→
  (Builtin.append_ #[t,u] ty #[.slice base sLen sCap,.slice xb 0 xc]).run P w=.ok (.slice base sLen sCap) w:=by
  intro base sLen sCap w hle xb xc hf;have:=gU (ty:=ty) (w':=w) hτ ht hu he hd hd' (base:=base) (sLen:=sLen) (sCap:=sCap) (n:=0) (xb:=xb) (xc:=xc) qqO hf (by cases base<;>rfl)
  simpa using this
 have row0:∀{S:Imm} {w:World} {esz:Nat} {g:Nat→PV} {vx:Value} {vals:Array Value},Row S w esz 0 g vx vals→(Builtin.firstCells esz 0 vx).run P w=.ok #[] w:=by
  intro S w esz g vx vals h;have:=h.run P w rfl;have hs:=h.size;rw[alu]at hs;rw[Array.eq_empty_of_size_eq_zero hs]at this;exact this
 unfold mG LX at h;split at h
 ·
  split at h
  ·refine⟨_,_,_,_,h,fun M hs hx ha hn=>?_⟩
   cases hs;cases hx
   exact .same M (nil0 _ (aku _) rfl) (.nils _)
  ·obtain⟨d,acc,h,hd0⟩:=jo h
   simp only[dJ,eY,bS,aK]at h;obtain⟨hfr,hbd,hez,hK⟩:=h;have hez:=akR hez;refine⟨_,_,_,_,hK,fun M hs hx ha hn=>?_⟩;rename_i S w ι H' vs vx;have hno:=hn n qqS;have hsrc:=hd0 M ha hx;obtain⟨ad,cap,vals,rfl,hrow⟩:=hsrc.row;cases hs
   by_cases h0:d.cnt=0
   ·rw[h0]at hrow⊢
    rw[hez];rw[hez]at hrow;exact .virgin hno _ M (nil0 _ (aku _) (row0 hrow)) (.islnil _ _ _ h0)
   ·have:=zm (ty:=ty) hτ ht hu he hd hd' M (k:=n) (.inl hno) (base:=none) (xb:=ad) (cn:=0) (sCap:=0) (dn:=d.cnt) (xc:=cap) (fun b0 hw hh=>by rw[M.none_t hno]at hh;cases hh) qqO qqO hby
     (E:=d) qqO hez (old:= #[]) ⟨qqS,fun j hj=>by simp at hj,fun P w' hw=>rfl⟩ (new:=vals) (by
      rw[hez]at hrow;refine⟨hrow.size,fun j hj=>?_,hrow.run⟩;rw[alu,akS];exact hrow.rep j hj)
    rw[akS]at this;rw[hez];exact this
 ·rename_i c tk
  split at h
  ·
   simp only[dJ,eY,aK]at h;obtain⟨hbd,hez,hK⟩:=h;refine⟨_,_,_,_,hK,fun M hs hx ha hn=>?_⟩;cases hx
   obtain⟨ad,cap,e1,hcap⟩:=hs.islCap;subst e1;exact .same M (nil0 _ hcap rfl) hs.drop
  ·have h':=jo h
   clear h;obtain⟨d,acc,h,hd0⟩:=h';split at h
   ·
    rename_i k;rw[bE]at h;obtain⟨ob,hob,h⟩:=h;split at h
    ·rename_i m hw
     simp only[dJ,eY,aK]at h;obtain⟨hhw,hm,h⟩:=h;have hm:=akR hm;obtain⟨h,hone⟩:=sU h;obtain⟨E,h,a1,a2,a3,a4,a5⟩:=oq h;try simp only[dJ,eY,aK]at h
     obtain⟨hbd,hez,hK⟩:=h;have hez:=akR hez;refine⟨_,_,_,_,hK,fun M hs hx ha hn=>?_⟩;rename_i S w ι H' vs vx;have hobj:=(ha k qqS).trans hob;have hsrc:=hd0 M (fun k' hk'=>ha k' (by simp[hk'])) hx
     obtain⟨ad,xcap,vals,rfl,hrow⟩:=hsrc.row;have hde:d.esz=te.size:=qqO;have hce:c.esz=te.size:=qqO;rw[hde]at hrow;have hm':m=te.size:=qqO;subst hm';obtain⟨o1,o2⟩:=M.obj k _ hobj;have hcn:c.ncell=c.cnt*te.size:=by rw[bF,hce]
     have hdn:d.ncell=d.cnt*te.size:=by rw[bF,hde]
     have hrow':Row S w te.size d.cnt (fun j=>E.get (c.cnt*te.size+j)) (.slice ad d.cnt xcap) vals:=
      ⟨hrow.size,fun j hj=>by rw[←hcn,a5 j qqO];exact hrow.rep j hj,hrow.run⟩
     have hold:∀{base cap},Row S w te.size c.cnt c.get (.slice base c.cnt cap) (vals)∨True→True:=fun _=>trivial;have grow:∀{base:Option Addr} {cap:Nat},Rep S w ι (.isl c (.own k)) (.slice base c.cnt cap)→cap<c.cnt+d.cnt→0<d.cnt→
      fU P S w ι H' (Builtin.append_ #[t,u] ty #[.slice base c.cnt cap,.slice ad d.cnt xcap]) (.isl E (.own k)) [(k,.tok te.size (hw+d.cnt))]:=by
      intro base cap hr hlt hpos;obtain⟨ad2,cap2,vals2,e1,hrow2⟩:=(Ar M hr).row;cases e1
      rw[hce]at hrow2;have:=zm (ty:=ty) hτ ht hu he hd hd' M (k:=k) (.inr ⟨hw,hobj⟩) (base:=base) (xb:=ad) (cn:=c.cnt) (sCap:=cap) (dn:=d.cnt) (xc:=xcap) (fun b0 hw0 hh=>by
       rcases alp hw with hz|hz
       ·rw[o1 hz]at hh;cases hh
       ·obtain⟨b',arr,e0,g1,g2,g3⟩:=o2 hz
        rw[hh]at g1;cases g1;omega) hlt qqO hby (E:=E) a3 hez (old:=vals2)
       ⟨hrow2.size,fun j hj=>by rw[a4 j qqO];exact hrow2.rep j hj,hrow2.run⟩ hrow'
      rw[←hhw]at this⊢;exact this
     cases hs with
     | @islnil _ _ _ a0 hc=>
      by_cases h0:d.cnt=0
      ·rw[h0]at hrow⊢
       refine .again hobj M (nil0 _ (aku _) (row0 hrow)) (.islnil _ _ _ qqO)
      ·have:=grow (base:=a0) (cap:=0) (by rw[hc];exact .islnil _ _ _ hc) qqO qqO
       rw[hc]at this;exact this
     |isl _ _ _ b off cap hc hss hh hf ho=>
      have hr:=Rep.isl (S:=S) (w:=w) ι c (.own k) b off cap hc hss hh hf ho;by_cases hfit:c.cnt+d.cnt≤cap
      ·by_cases h0:d.cnt=0
       ·rw[h0]at hrow⊢
        refine .again hobj M (nil0 _ hc (row0 hrow)) ?_;have hEc:E.cnt=c.cnt:=qqO;have hEn:E.ncell=c.ncell:=by rw[bF,bF,hEc,a1]
        have:=Rep.isl (S:=S) (w:=w) ι E (.own k) b off cap qqO (fun j hj=>hss j qqO) (fun j hj=>by rw[a4 j qqO];exact hh j qqO) (fun h=>by cases h)
         (fun k' hk'=>by rw[hEc,a1];exact ho k' hk')
        rw[hEc]at this;exact this
       ·rcases ho k rfl with hz|⟨b1,n1,g1,g2,g3⟩
        ·omega
        ·rcases alp hw with hz|hz
         ·rw[o1 hz]at g1;cases g1
         ·obtain⟨b',arr,e0,q1,q2,q3⟩:=o2 hz
          rw[g1]at q1;cases q1
          rcases g3 with⟨rfl,rfl,g3⟩|g3
          ·subst hhw
           refine abK (ty:=ty) hτ ht hu he hd hd' M hobj g1 hfit (fun j hj=>g3 j (by rw[hce];exact hj)) hz a3 hez (fun j hj=>?_) (fun j hj=>?_) hrow'
           ·rw[a4 j qqO]
            have h1:=hss j qqO;have h2:=hh j qqO;rw[akS]at h1 h2;exact⟨h1,h2⟩
           ·rw[←hcn,a5 j qqO];exact hone j qqO
          ·omega
      ·exact grow hr qqO qqO
    ·exact h.elim
   ·
    simp only[dJ,eY]at h;obtain⟨hor,h⟩:=h;obtain⟨E,h,a1,a2,a3,a4,a5⟩:=oq h;simp only[dJ,eY,aK,bS]at h;obtain⟨hfr,hbd,hez,hK⟩:=h;have hez:=akR hez;refine⟨_,_,_,_,hK,fun M hs hx ha hn=>?_⟩;rename_i S w ι H' vs vx;have hno:=hn n qqS;have hsrc:=hd0 M ha hx;obtain⟨ad,xcap,vals,rfl,hrow⟩:=hsrc.row;have hde:d.esz=te.size:=qqO;have hce:c.esz=te.size:=qqO;rw[hde]at hrow;have hcn:c.ncell=c.cnt*te.size:=by rw[bF,hce]
    have hdn:d.ncell=d.cnt*te.size:=by rw[bF,hde]
    have hrow':Row S w te.size d.cnt (fun j=>E.get (c.cnt*te.size+j)) (.slice ad d.cnt xcap) vals:=
     ⟨hrow.size,fun j hj=>by rw[←hcn,a5 j qqO];exact hrow.rep j hj,hrow.run⟩
    have hcap:∃base,vs=.slice base c.cnt c.cnt:=by
     cases hs with
     |islnil _ _ _ hc=>exact⟨_,by rw[hc]⟩
     |isl _ _ _ b off cap hc hss hh hf ho=>exact⟨_,by rw[hf rfl]⟩
    obtain⟨base,rfl⟩:=hcap;obtain⟨ad2,cap2,vals2,e1,hrow2⟩:=(Ar M hs).row;cases e1
    rw[hce]at hrow2;rw[hez,a3];by_cases h0:d.cnt=0
    ·have hc0:c.cnt=0:=qqO
     have hE0:E.cnt=0:=qqO;rw[h0]at hrow⊢;rw[show c.cnt+0=0 by omega]
     refine .virgin hno _ M (nil0 _ (aku _) (row0 hrow)) ?_;have key:∀vs:Value,Rep S w ι (.isl c .full) vs→Rep S w ι (.isl E (.own n)) vs:=by
      intro vs hs;cases hs with
      |islnil _ _ _ hc=>exact .islnil _ _ _ hE0
      |isl _ _ _ b off cap hc hss hh hf ho=>
       have:=Rep.isl (S:=S) (w:=w) ι E (.own n) b off 0 qqO (fun j hj=>by rw[bF,hE0]at hj;omega) (fun j hj=>by rw[bF,hE0]at hj;omega) (fun h=>by cases h) (fun _ _=>.inl rfl)
       rw[hE0]at this;rw[hf rfl,hc0];exact this
     exact key _ hs
    ·exact zm (ty:=ty) hτ ht hu he hd hd' M (k:=n) (.inl hno) (base:=base) (xb:=ad) (cn:=c.cnt) (sCap:=c.cnt) (dn:=d.cnt) (xc:=xcap) (fun b0 hw hh=>by rw[M.none_t hno]at hh;cases hh) qqO qqO hby
      (E:=E) a3 hez (old:=vals2) ⟨hrow2.size,fun j hj=>by rw[a4 j qqO];exact hrow2.rep j hj,hrow2.run⟩ hrow'
   ·exact h.elim
 ·exact h.elim
end Go.Eng
