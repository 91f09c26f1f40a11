/- An engine that walks through a function of the program with symbolic values, and the proofs that it is sound. No condition. -/
import Derived.OrdersIn
import Derived.LoopNIn
import Derived.RangeFuncLeaves
import Derived.RangeFuncRecord
import Derived.Test.YtcechbdgokjmgaaGreatDoorEb
open Array renaming getElem?_eq_getElem→ahT,getD_eq_getD_getElem?→ahW,length_toList→ais,getElem?_setIfInBounds→aje,getElem?_eq_none→ahQ,getElem?_toList→ajo,getElem?_eq_some_iff→ahI,getElem?_replicate→ajt,replicate→aju,mapM_eq_mapM_toList→ajv
open Bool renaming false_eq_true→aiF,and_eq_true→aia,or_eq_true→ajm,not→ajq
open List renaming getD_cons_zero→aiJ,find?→ajd,mem_cons→ajg,mem_append_left→ah1,pairwise_cons→ajh,pairwise_append→aji,range→ahX,getD_eq_getElem?_getD→ahZ,getElem?_append_left→ajn,getElem?_append_right→aiX,all_eq_true→ajp,range'→ajr,range_eq_range'→ajs,mapM→ajw,mem_cons_of_mem→ajx,mem_iff_getElem?→ajy,getElem?_eq_some_iff→ajz,getElem?_eq_getElem→ah4,mem_of_getElem?→ajA,drop_eq_getElem_cons→ajB
open Nat renaming le_refl→ahO,zero_add→aic,lt_or_ge→ahP,blt→ajj,testBit→ajk,beq→ah6,eq_of_beq_eq_true→aib,ne_of_beq_eq_false→ajl
open Option renaming getD_some→ah5,bind_some→ajf,isSome_iff_exists→ahY
namespace Go.Eng
open Go.RowKit
set_option linter.unusedSimpArgs false
set_option linter.unusedVariables false
variable {P:Program} {r:Option Nat} {τ:TypeId→Option TE}
theorem Mem.freeze {S:Imm} {w:World} {ι:Ix} {H:Hp} (M:Mem S w ι H) {k:Nat} {c c':CL} (h:ay H k=some (.cells c false)) (hn:c'.ncell=c.ncell)
 (hc:∀j,j<c.ncell→∀{S:Imm} {w:World} {ι:Ix} {v:Value},Rep S w ι (c.get j) v→Rep S w noI (c'.get j) v):
 ∃S',Mem S' w ι (aQ H k (.cells c' true))∧Keeps S w S' w∧(∀p,Tr p S w ι H S' w ι (aQ H k (.cells c' true)))∧
  ∀b,ι.o k=some b→∀j,j<c'.ncell→S' b j∧Rep S' w noI (c'.get j) (rdv w b j):=by
 obtain⟨b,arr,e,h1,h2,h3,h4,h5⟩:=M.obj k _ h
 let S':Imm:=fun b' j=>S b' j∨(b'=b∧j<c'.ncell)
 have hk:Keeps S w S' w:=⟨fun b' j hs=>⟨.inl hs,rfl⟩,fun b' j hs=>hs⟩;have hrep:∀j,j<c'.ncell→Rep S' w noI (c'.get j) (arr.getD j undef):=fun j hj=>by
  have:=h4 j (by omega)
  exact(hc j (by omega) this).mono hk _ (.refl _)
 have ht:ι.t k=none:=by
  cases et:ι.t k with
  |none=>rfl
  |some x=>obtain⟨o,g1,g2⟩:=M.liveT k x et;rw[h]at g1;cases g1;simp[AO.isTok]at g2
 obtain⟨M',T⟩:=M.step1 (S':=S') (w':=w) (ι':=ι) (k:=k) (o':=.cells c' true) (b:=b) (Bel.refl _) (fun _ _ _=>rfl) hk (fun b' j hs=>by rcases hs with h|⟨h,_⟩;exact .inl h;exact .inr h)
  (fun j hs=>by
   rcases hs with h|⟨_,h⟩
   ·exact absurd h (h5 j)
   ·rw[aN h2,ahT (by omega)];rfl) (.refl _) (fun _ _=>rfl) (fun _ _=>rfl) rfl (.inr ⟨_,h,rfl,h1⟩) (fun b' h=>h.elim) (by simp[AO.isTok]) (fun _=>ht)
  ⟨b,h1,fun j hj=>⟨.inr ⟨rfl,hj⟩,by have:=hrep j hj;rw[ahW]at this;rw[rdv,aN h2];exact this⟩⟩
 refine⟨S',M',hk,T,fun b' hb' j hj=>?_⟩;rw[h1]at hb';cases hb'
 refine⟨.inr ⟨rfl,hj⟩,?_⟩;have:=hrep j hj;rw[rdv,aN h2];rw[ahW]at this;exact this
theorem Gp (hτ:aY P τ) {md rf CP YP} {o:Oper} {ρ:Operand→PV} {H:Hp} {n:Nat} {t:TypeId} {x y:Operand} (ho:o.op=.store t x y) (hfz:Nh rf x=true) {K:KR}
 (h:opK τ md rf CP YP ρ H n o.dst o.op K):∃v sets accs news,K v sets accs news∧bE P r o ρ H v sets accs news:=by
 rw[ho]at h;simp only[opK,cB,hfz]at h;obtain⟨te,ht,h⟩:=h;have hd:∀c,o.op≠ .defer c:=fun c e=>by rw[ho]at e;cases e
 unfold KY at h;split at h
 ·rename_i k off hρ
  rw[bH]at h;obtain⟨cs,h,hs⟩:=qw h;rw[aX]at h;obtain⟨ob,hob,h⟩:=h;split at h
  ·rename_i c fz
   split at h
   ·exact h.elim
   ·obtain⟨c',h,hn1,hn2,hget⟩:=Ed h
    obtain⟨d,hK,d1,d2,d3⟩:=jX h;refine⟨_,_,_,_,hK,?_⟩;intro S w ι H' a next Q M hr ha hn hk;have hob':=(ha k (by simp)).trans hob
    have hr1:=hr x (by simp[ho,Op.operands])
    obtain⟨e1,e2,e3⟩:=hs (hr y (by simp[ho,Op.operands]))
    rw[hρ]at hr1;obtain⟨b,arr,e,g1,g2,g3,g4,g5⟩:=M.obj k _ hob';cases hev:a.eval x<;>rw[hev]at hr1<;>cases hr1
    rename_i b' hb';rw[g1]at hb';cases hb'
    have hone:∀v∈(a.eval y).cells.toList,v.oneCell'=true:=by
     intro v hv;obtain⟨i,hi,rfl⟩:=List.getElem_of_mem hv;have h0:=e3 i (by rw[e2];simpa using hi)
     have:=h0.1.oneCell h0.2;simpa [ahW,ahT (show i<(a.eval y).cells.size by simpa using hi)]using this
    have hsz:off+0+(a.eval y).cells.toList.length≤arr.size:=by simp[←e2];omega
    obtain⟨w',r1,u⟩:=eH P (a.eval y).cells.toList g2 hone hsz;have hc':∀j,j<c'.ncell→Rep S w ι (c'.get j) ((putRow arr (off+0) (a.eval y).cells.toList).getD j undef):=by
     intro j hj;refine hget j S w ι _ ?_ (by omega)
     rw[ji _ _ _ _ (by simp[←e2];omega)]
     simp only[Nat.add_zero,ais,←e2];split
     ·rename_i hin
      have:=(e3 (j-off) (by omega)).1
      simpa [ahW]using this
     ·have:=g4 j (by omega)
      simpa using this
    obtain⟨M',T⟩:=M.write hob' g1 g2 u (by rw[eT];exact ahO _) (by rw[eT];omega) hc'
    obtain⟨S1,M1,K1,T1,_⟩:=M'.freeze (k:=k) (c:=c') (c':=d) (by rw[bq,if_pos rfl]) d2 (fun j hj=>by intro S w ι v hr;exact d3 j hj hr)
    have hHH:∀k',ay (aQ (aQ H' k (.cells c' false)) k (.cells d true)) k'=ay (aQ H' k (.cells d true)) k':=fun k'=>by
     rw[bq,bq,bq];by_cases e:k'=k
     ·rw[if_pos e,if_pos e]
     ·rw[if_neg e,if_neg e,if_neg e]
    refine jk hd (w':=w') ?_ (hk undef S1 w' ι (M1.congr hHH) (.refl _) ((T 0).keeps.trans K1) (.any _ _) (fun p=>((T p).trans (T1 p)).congr' hHH));simp only[execOp,ho];refine tZ ?_;simp only[Instr.storeAt,hev,Instr.sureAddr,Sem.run_bind,Sem.run_pure,Result.andThen,storeVar,bQ hτ ht];rw[if_neg (by simp[←e2,e1])]
    simpa [Result.andThen]using r1
  ·exact h.elim
 ·exact h.elim
theorem Mem.frozen {S:Imm} {w:World} {ι:Ix} {H:Hp} (M:Mem S w ι H) {k b:Nat} {c:CL} (h:ay H k=some (.cells c true)) (hb:ι.o k=some b):
 ∀j,j<c.ncell→S b j∧Rep S w noI (c.get j) (rdv w b j):=by
 obtain⟨b',h1,h2⟩:=M.obj k _ h;rw[hb]at h1;cases h1
 exact h2
theorem ND:∀(ps:List PV) {H:Hp} {K:List PV→List (Nat × AO)→List Nat→Prop},tX H ps K→∃cs sets acc,K cs sets acc∧
 ∀{S:Imm} {w:World} {ι:Ix} {H':Hp} {vs:List Value},Mem S w ι H'→(∀k∈acc,ay H' k=ay H k)→ps.length=vs.length→(∀i,i<ps.length→Rep S w ι (aD ps i) (vs.getD i undef))→
  ∃S',Mem S' w ι (aZ H' sets)∧Keeps S w S' w∧(∀p,Tr p S w ι H' S' w ι (aZ H' sets))∧cs.length=vs.length∧∀i,i<cs.length→Rep S' w ι (aD cs i) (vs.getD i undef):=by
 intro ps;induction ps with
 |nil=>
  intro H K h;exact⟨_,_,_,h,fun M ha hl hr=>⟨_,M,.refl _ _,fun p=>.refl _ _ _ _ _,hl,fun i hi=>by simp at hi⟩⟩
 |cons p ps ih=>
  intro H K h;have keep:∀{H:Hp} {K:List PV→List (Nat × AO)→List Nat→Prop},(tX H ps fun cs sets acc=>K (p::cs) sets acc)→∃cs sets acc,K cs sets acc∧
   ∀{S:Imm} {w:World} {ι:Ix} {H':Hp} {vs:List Value},Mem S w ι H'→(∀k∈acc,ay H' k=ay H k)→(p::ps).length=vs.length→(∀i,i<(p::ps).length→Rep S w ι (aD (p::ps) i) (vs.getD i undef))→
    ∃S',Mem S' w ι (aZ H' sets)∧Keeps S w S' w∧(∀p,Tr p S w ι H' S' w ι (aZ H' sets))∧cs.length=vs.length∧∀i,i<cs.length→Rep S' w ι (aD cs i) (vs.getD i undef):=by
   intro H K h;obtain⟨cs,sets,acc,hK,hs⟩:=ih h;refine⟨_,_,_,hK,fun M ha hl hr=>?_⟩;rename_i S w ι H' vs;cases vs with
   |nil=>simp at hl
   |cons v vs=>
    obtain⟨S',M',k',T,hl',hr'⟩:=hs (vs:=vs) M ha (by simpa using hl) (fun i hi=>by simpa [aD]using hr (i+1) (by simpa using hi))
    refine⟨S',M',k',T,by simp[hl'],fun i hi=>?_⟩
    cases i with
    |zero=>exact(hr 0 (by simp)).mono k' _ (.refl _)
    |succ i=>simpa [aD]using hr' i (by simpa using hi)
  unfold tX at h;split at h
  ·rename_i k off
   rw[aX]at h;obtain⟨ob,hob,h⟩:=h;split at h
   ·rename_i ds fz
    split at h
    ·obtain⟨cs,sets,acc,hK,hs⟩:=ih h
     refine⟨_,_,_,hK,fun M ha hl hr=>?_⟩;rename_i S w ι H' vs;cases vs with
     |nil=>simp at hl
     |cons v vs=>
      have hob':=(ha k (by simp)).trans hob
      obtain⟨S',M',k',T,hl',hr'⟩:=hs (vs:=vs) M (fun k' hk'=>ha k' (by simp[hk'])) (by simpa using hl) (fun i hi=>by simpa [aD]using hr (i+1) (by simpa using hi))
      refine⟨S',M',k',T,by simp[hl'],fun i hi=>?_⟩
      cases i with
      |zero=>
       have h0:=hr 0 (by simp)
       simp only[aD,aiJ]at h0⊢;cases h0 with
       |rp _ _ _ b hb=>
        have hf:=M.frozen hob' hb;have:=Rep.ip (S:=S) (w:=w) ι (.pv ds) off b 0 (fun j hj=>by rw[aic];exact(hf j hj).1) (fun j hj=>by rw[aic];exact(hf j hj).2)
        rw[aic]at this;exact this.mono k' _ (.refl _)
      |succ i=>simpa [aD]using hr' i (by simpa using hi)
    ·split at h
     ·rename_i es hes
      rw[bg,yV]at h;obtain⟨cs,sets,acc,hK,hs⟩:=ih h;refine⟨_,_,_,hK,fun M ha hl hr=>?_⟩;rename_i S w ι H' vs;cases vs with
      |nil=>simp at hl
      |cons v vs=>
       have hob':=(ha k (by simp)).trans hob
       obtain⟨q1,q2⟩:=kZ hes;obtain⟨S1,M1,k1,T1,F1⟩:=M.freeze (c':=.pv es) hob' q1 (fun j hj=>by intro S w ι v hr;exact q2 j hj hr)
       obtain⟨S',M',k',T,hl',hr'⟩:=hs (vs:=vs) M1 (fun k' hk'=>by
        rw[bq,bq];by_cases e:k'=k
        ·simp[e]
        ·rw[if_neg e,if_neg e];exact ha k' (by simp[hk'])) (by simpa using hl)
        (fun i hi=>by have:=(hr (i+1) (by simpa using hi)).mono k1 _ (.refl _);simpa [aD]using this)
       refine⟨S',M',k1.trans k',fun p=>(T1 p).trans (T p),by simp[hl'],fun i hi=>?_⟩
       cases i with
       |zero=>
        have h0:=hr 0 (by simp)
        simp only[aD,aiJ]at h0⊢;cases h0 with
        |rp _ _ _ b hb=>
         have hf:=F1 b hb;have:=Rep.ip (S:=S1) (w:=w) ι (.pv es) off b 0 (fun j hj=>by rw[aic];exact(hf j hj).1) (fun j hj=>by rw[aic];exact(hf j hj).2)
         rw[aic]at this;exact this.mono k' _ (.refl _)
       |succ i=>simpa [aD]using hr' i (by simpa using hi)
     ·exact keep h
   ·exact keep h
  ·rw[bH]at h;exact keep h
theorem Cx {md rf CP YP} {o:Oper} {ρ:Operand→PV} {H:Hp} {n:Nat} {fn:Fn} {fs cs:Array Operand} (ho:o.op=.makeFunc fn fs cs) {K:KR}
 (h:opK τ md rf CP YP ρ H n o.dst o.op K):∃v sets accs news,K v sets accs news∧bE P r o ρ H v sets accs news:=by
 rw[ho]at h;have hd:∀c,o.op≠ .defer c:=fun c e=>by rw[ho]at e;cases e
 simp only[opK,bg]at h;split at h
 ·refine⟨_,_,_,_,h,aU hd fun S w ι H' a M hr ha=>?_⟩
  have h1:=lK (a:=a) fs (fun x hx=>hr x (by simp[ho,Op.operands]at hx⊢;exact .inl hx))
  have h2:=lK (a:=a) cs (fun x hx=>hr x (by simp[ho,Op.operands]at hx⊢;exact .inr hx))
  exact⟨.func fn (fs.map a.eval) (cs.map a.eval),by simp only[execOp,ho];exact dQ rfl,.fn _ _ _ _ _ _ h1.1 h2.1 h1.2 h2.2⟩
 ·obtain⟨ds,sets,acc,hK,hs⟩:=ND _ h
  refine⟨_,_,_,_,hK,fun S w ι H' a next Q M hr ha hn hk=>?_⟩;have h1:=lK (a:=a) fs (fun x hx=>hr x (by simp[ho,Op.operands]at hx⊢;exact .inl hx))
  have h2:=lK (a:=a) cs (fun x hx=>hr x (by simp[ho,Op.operands]at hx⊢;exact .inr hx))
  obtain⟨S',M',k',T,hl,hr'⟩:=hs (vs:=(cs.map a.eval).toList) M ha (by simpa using h2.1) (fun i hi=>by have:=h2.2 i hi;simpa [ahW]using this)
  refine d9 hd (w':=w) (val:=.func fn (fs.map a.eval) (cs.map a.eval)) (by simp only[execOp,ho];exact dQ rfl) (hk _ S' w ι M' (.refl _) k' ?_ T)
  exact .fn _ _ _ _ _ _ h1.1 (by simpa using hl) (fun i hi=>(h1.2 i hi).mono k' _ (.refl _)) (fun i hi=>by have:=hr' i hi;simpa [ahW]using this)
def pz (P:Program) (B:Imm→World→Prop) (g:FuncId) (args:List PV) (H0:Hp) (v:PV) (sets:List (Nat × AO)) (accs news:List Nat):Prop:=
 (∀vs w,(callFunc g vs).run P w=.ok (.enter g vs) w)∧
 ∀(S:Imm) (w:World) (ι:Ix) (H:Hp) (vs:Array Value),B S w→Mem S w ι H→bF S w ι args vs→(∀k∈accs,ay H k=ay H0 k)→(∀k∈news,ay H k=none)→
  CallsIn (Fw none) 0 P g vs w fun e w'=>∃val S' ι',e=.returned val∧Mem S' w' ι' (aZ H sets)∧ι.le ι'∧Keeps S w S' w'∧Rep S' w' ι' v val∧∀p,Tr p S w ι H S' w' ι' (aZ H sets)
def kR:Imm→World→Prop:=gB
def iZ (P:Program) (g:FuncId) (args:List PV) (H0:Hp) (v:PV) (sets:List (Nat × AO)) (accs news:List Nat):Prop:=pz P kR g args H0 v sets accs news
theorem iZ.up {P:Program} {g:FuncId} {args:List PV} {H0:Hp} {v:PV} {sets:List (Nat × AO)} {accs news:List Nat} (h:iZ P g args H0 v sets accs news) (B:Imm→World→Prop) (hg:∀S w,B S w→gB S w):pz P B g args H0 v sets accs news:=
 ⟨h.1,fun S w ι H vs hb=>h.2 S w ι H vs (hg _ _ hb)⟩
def jU (P:Program) (B:Imm→World→Prop) (CP:CPT):Prop:=∀g args n H K,CP g args n H K→∃v sets accs news,K v sets accs news∧pz P B g args H v sets accs news
def aW (P:Program) (CP:CPT):Prop:=jU P kR CP
theorem aW.up {P:Program} {CP:CPT} (h:aW P CP) (B:Imm→World→Prop) (hg:∀S w,B S w→gB S w:=by first|exact fun _ _ h=>h|exact fun _ _ h=>h.2|exact fun _ _ h=>h.2.2):jU P B CP:=fun g args n H K hk=>by
 obtain⟨v,sets,accs,news,h1,h2⟩:=h g args n H K hk;exact⟨v,sets,accs,news,h1,iZ.up h2 B hg⟩
abbrev YPT:=Fn→Array Value→Array Value→List PV→Nat→Hp→KR→Prop
def UF (P:Program) (r:Option Nat) (B:Imm→World→Prop) (f:Fn) (us vs:Array Value) (args:List PV) (H0:Hp) (v:PV) (sets:List (Nat × AO)) (accs news:List Nat):Prop:=
 ∀(S:Imm) (w:World) (ι:Ix) (H:Hp) (o:Oper) (c:Call) (a:Act) (next:Act→World→Prop) (Q:Exit→Act→World→Prop) (vals:Array Value),o.op=.call c→
  B S w→Mem S w ι H→bF S w ι args vals→(∀k∈accs,ay H k=ay H0 k)→(∀k∈news,ay H k=none)→
  (∀(val:Value) (S':Imm) (w':World) (ι':Ix),Mem S' w' ι' (aZ H sets)→ι.le ι'→Keeps S w S' w'→Rep S' w' ι' v val→(∀p,Tr p S w ι H S' w' ι' (aZ H sets))→next (a.put o.dst val) w')→
  o.uponIn (Fw r) 0 P a next Q ((invoke (.fn f vs) (us++vals)).run P w)
def kS (P:Program) (r:Option Nat) (B:Imm→World→Prop) (YP:YPT):Prop:=
 ∀f us vs args n H K,YP f us vs args n H K→∃v sets accs news,K v sets accs news∧UF P r B f us vs args H v sets accs news
def mE (P:Program) (r:Option Nat) (B:Imm→World→Prop) (o:Oper) (ρ:Operand→PV) (H0:Hp) (v:PV) (sets:List (Nat × AO)) (accs news:List Nat):Prop:=
 ∀(S:Imm) (w:World) (ι:Ix) (H:Hp) (a:Act) (next:Act→World→Prop) (Q:Exit→Act→World→Prop),
  B S w→Mem S w ι H→(∀x∈o.op.operands.toList,Rep S w ι (ρ x) (a.eval x))→(∀k∈accs,ay H k=ay H0 k)→(∀k∈news,ay H k=none)→
  (∀(val:Value) (S':Imm) (w':World) (ι':Ix),Mem S' w' ι' (aZ H sets)→ι.le ι'→Keeps S w S' w'→Rep S' w' ι' v val→(∀p,Tr p S w ι H S' w' ι' (aZ H sets))→next (a.put o.dst val) w')→
  o.wpIn (Fw r) 0 P a w next Q
theorem bE.toB {B:Imm→World→Prop} {o:Oper} {ρ:Operand→PV} {H0:Hp} {v:PV} {sets:List (Nat × AO)} {accs news:List Nat} (h:bE P r o ρ H0 v sets accs news):mE P r B o ρ H0 v sets accs news:=
 fun S w ι H a next Q _=>h S w ι H a next Q
theorem uo {n:Nat} {f:FuncId} {args:Array Value} {w:World} {R:Ending→World→Prop} (h:CallsIn (Fw none) n P f args w R):CallsIn (Fw r) n P f args w R:=h
theorem gI {S:Imm} {w:World} {ι:Ix} {ps qs:List PV} {us vs:Array Value} (h:bF S w ι ps us) (g:bF S w ι qs vs):bF S w ι (ps++qs) (us++vs):=by
 refine⟨by simp[h.1,g.1],fun i hi=>?_⟩
 rw[ahW];by_cases e:i<ps.length
 ·rw[(nV ps qs i).1 e,Array.getElem?_append_left (by rw[←h.1];exact e),←ahW]
  exact h.2 i e
 ·obtain⟨d,rfl⟩:∃d,i=ps.length+d:=⟨i-ps.length,by omega⟩
  rw[(nV ps qs d).2,Array.getElem?_append_right (by rw[←h.1];omega),←h.1,Nat.add_sub_cancel_left,←ahW]
  exact g.2 d (by simp at hi;omega)
theorem Aw {md rf CP YP} {B:Imm→World→Prop} (hC:jU P B CP) (hY:kS P r B YP) {o:Oper} {ρ:Operand→PV} {H:Hp} {n:Nat} {f:Operand} {args:Array Operand} {ats:Array TypeId} (ho:o.op=.call ⟨.value f,args,ats⟩) {K:KR}
 (h:opK τ md rf CP YP ρ H n o.dst o.op K):∃v sets accs news,K v sets accs news∧mE P r B o ρ H v sets accs news:=by
 rw[ho]at h;simp only[opK]at h;have hd:∀c,o.op≠ .defer c:=fun c e=>by rw[ho]at e;cases e
 have hargs:∀{S:Imm} {w:World} {ι:Ix} {a:Act},(∀x∈o.op.operands.toList,Rep S w ι (ρ x) (a.eval x))→bF S w ι (kQ ρ args.toList) (args.map a.eval):=by
  intro S w ι a hr;exact lK args (fun x hx=>hr x (by simp[ho,Op.operands,Call.operands]at hx⊢;exact .inr hx))
 have hf:∀{S:Imm} {w:World} {ι:Ix} {a:Act},(∀x∈o.op.operands.toList,Rep S w ι (ρ x) (a.eval x))→Rep S w ι (ρ f) (a.eval f):=fun hr=>hr f (by simp[ho,Op.operands,Call.operands])
 split at h
 ·rename_i g fs cs hρ
  rw[bg]at h;obtain⟨v,sets,accs,news,hK,hent,hs⟩:=hC _ _ _ _ _ h;refine⟨v,sets,accs,news,hK,fun S w ι H' a next Q hBw M hr ha hn hk=>?_⟩;have h1:=hargs hr;have h2:=hf hr;rw[hρ]at h2;generalize hv:a.eval f=fv at h2
  cases h2 with
  |fn _ _ _ _ us vs hkk hl hu hvs=>
   have hres:(execOp a.eval o).run P w=.ok (.enter g (us++args.map a.eval++vs)) w:=by
    simp only[execOp,ho,resolve,hv,Deferred.ofValue,Sem.run_bind,Sem.run_pure,Result.andThen,invoke,hent]
   refine⟨fun _ _=>trivial,?_⟩;rw[Oper.semAt_eq _ _ _ hd,hres,Oper.uponIn_enter];refine⟨fun h=>by simp[Fw,Fence.wide]at h,uo ((hs S w ι H' _ hBw M (gI (gI ⟨hkk,hu⟩ h1) ⟨hl,hvs⟩) ha hn).mono ?_)⟩
   rintro e w' ⟨val,S',ι',rfl,M',L',K',R',T'⟩
   exact hk val S' w' ι' M' L' K' R' T'
 ·rename_i g us vs hρ
  rw[bg]at h;obtain⟨v,sets,accs,news,hK,hs⟩:=hY _ _ _ _ _ _ _ h;refine⟨v,sets,accs,news,hK,fun S w ι H' a next Q hB M hr ha hn hk=>?_⟩;have h1:=hargs hr;have h2:=hf hr;rw[hρ]at h2;generalize hv:a.eval f=fv at h2
  cases h2
  have hres:(execOp a.eval o).run P w=(invoke (.fn g vs) (us++args.map a.eval)).run P w:=by
   simp only[execOp,ho,resolve,hv,Deferred.ofValue,Sem.run_bind,Sem.run_pure,Result.andThen]
  refine⟨fun _ _=>trivial,?_⟩;rw[Oper.semAt_eq _ _ _ hd,hres];exact hs S w ι H' o _ a next Q _ ho hB M h1 ha hn hk
 ·exact h.elim
theorem J6:∀{ms:List Method} {s:String} {g:Nat},Ag ms s=some g→∃m,ms.find? (fun m=>m.name==s)=some m∧m.path.toList=[]∧m.func=some (g,false):=by
 intro ms;induction ms with
 |nil=>intro s g h;cases h
 |cons m r ih=>
  intro s g h;unfold Ag at h;split at h
  ·rename_i hb
   split at h
   ·rename_i hp
    split at h
    ·rename_i g' hf
     cases h
     exact⟨m,by simp[ajd,hb],hp,hf⟩
    ·cases h
   ·cases h
  ·rename_i hb
   obtain⟨m',h1,h2⟩:=ih h;exact⟨m',by simp[ajd,hb,h1],h2⟩
theorem NG (hτ:aY P τ) {t:TypeId} {te:TE} (ht:τ t=some te) (hp:F7 te.und=true) {name:String} {g:Nat} (hm:Ag te.meths name=some g) (v:Value) (w:World) (n:Nat):
 (method (n+1) t v name).run P w=.ok (g,v) w:=by
 obtain⟨i,hi,hms⟩:=hτ.meth t te ht;obtain⟨m,h1,h2,h3⟩:=J6 hm;have h4:i.methods.find? (fun m=>m.name==name)=some m:=by rw[←hms]at h1;rw[←Array.find?_toList];exact h1
 unfold method;simp only[Sem.run_bind,run_typeInfo w hi,Result.andThen,h4,h2,follow,Sem.run_pure,h3,receiverAt,run_underlying (hτ.und _ _ ht)];generalize te.und=d at hp⊢
 cases d<;>first|(simp[F7]at hp;done)|(simp only[Place.get,Sem.run_pure,Result.andThen];done)|(simp[Place.get,Result.andThen];done)
theorem ES (hτ:aY P τ) {md rf CP YP} {o:Oper} {ρ:Operand→PV} {H:Hp} {n:Nat} {t:TypeId} {x:Operand} (ho:o.op=.makeInterface t x) {K:KR}
 (h:opK τ md rf CP YP ρ H n o.dst o.op K):∃v sets accs news,K v sets accs news∧bE P r o ρ H v sets accs news:=by
 rw[ho]at h;simp only[opK,cB,aL,bH]at h;obtain⟨te,ht,hni,hK⟩:=h;refine⟨_,_,_,_,hK,aU (fun c e=>by rw[ho]at e;cases e) fun S w ι H' a M hr ha=>⟨.iface t (a.eval x),?_,.ifc _ _ _ _ (hr x (by simp[ho,Op.operands]))⟩⟩
 simp only[execOp,ho];refine dQ ?_;simp only[Instr.makeInterface,Sem.run_bind,run_underlying (hτ.und _ _ ht),Result.andThen];cases hu:te.und<;>first|(rw[hu]at hni;simp[QL]at hni;done)|rfl
theorem Gq (hτ:aY P τ) {md rf CP YP} {B:Imm→World→Prop} (hC:jU P B CP) {o:Oper} {ρ:Operand→PV} {H:Hp} {n:Nat} {f:Operand} {name:String} {args:Array Operand} {ats:Array TypeId} (ho:o.op=.call ⟨.invoke f name,args,ats⟩) {K:KR}
 (h:opK τ md rf CP YP ρ H n o.dst o.op K):∃v sets accs news,K v sets accs news∧mE P r B o ρ H v sets accs news:=by
 rw[ho]at h;simp only[opK]at h;have hd:∀c,o.op≠ .defer c:=fun c e=>by rw[ho]at e;cases e
 have hargs:∀{S:Imm} {w:World} {ι:Ix} {a:Act},(∀x∈o.op.operands.toList,Rep S w ι (ρ x) (a.eval x))→bF S w ι (kQ ρ args.toList) (args.map a.eval):=by
  intro S w ι a hr;exact lK args (fun x hx=>hr x (by simp[ho,Op.operands,Call.operands]at hx⊢;exact .inr hx))
 have hf:∀{S:Imm} {w:World} {ι:Ix} {a:Act},(∀x∈o.op.operands.toList,Rep S w ι (ρ x) (a.eval x))→Rep S w ι (ρ f) (a.eval f):=fun hr=>hr f (by simp[ho,Op.operands,Call.operands])
 split at h
 ·rename_i t p hρ
  rw[cB]at h;obtain⟨te,ht,h⟩:=h;rw[aL]at h;obtain⟨hp,h⟩:=h;split at h
  ·rename_i g hg
   rw[bg]at h;obtain⟨v,sets,accs,news,hK,hent,hs⟩:=hC _ _ _ _ _ h;refine⟨v,sets,accs,news,hK,fun S w ι H' a next Q hBw M hr ha hn hk=>?_⟩;have h1:=hargs hr;have h2:=hf hr;rw[hρ]at h2;generalize hv:a.eval f=fv at h2
   cases h2 with
   |ifc _ _ _ u hu=>
    have hres:(execOp a.eval o).run P w=.ok (.enter g (#[u]++args.map a.eval)) w:=by
     obtain⟨d,hd⟩:∃d,P.types.size+Made.depth=d+1:=⟨P.types.size+Made.depth-1,by unfold Made.depth;omega⟩
     simp only[execOp,ho,resolve,hv,Sem.run_bind,Sem.run_pure,Result.andThen,invoke];have hx:(args.map a.eval).extract 0 args.size=args.map a.eval:=by
      have:=Array.extract_size (xs:=args.map a.eval)
      rwa [Array.size_map]at this
     simp only[Array.getElem?_append,Array.size_append];simp[callMethod,run_program,hd,NG hτ ht hp hg,Result.andThen,hent,hx]
    refine⟨fun _ _=>trivial,?_⟩;rw[Oper.semAt_eq _ _ _ hd,hres,Oper.uponIn_enter];have h3:bF S w ι [p] #[u]:=⟨rfl,fun i hi=>by simp at hi;subst hi;exact hu⟩
    refine⟨fun h=>by simp[Fw,Fence.wide]at h,uo ((hs S w ι H' _ hBw M (gI h3 h1) ha hn).mono ?_)⟩
    rintro e w' ⟨val,S',ι',rfl,M',L',K',R',T'⟩
    exact hk val S' w' ι' M' L' K' R' T'
  ·exact h.elim
 ·exact h.elim
theorem QW (hτ:aY P τ) {md rf CP YP} {B:Imm→World→Prop} (hC:jU P B CP) (hY:kS P r B YP) {o:Oper} {ρ:Operand→PV} {H:Hp} {n:Nat} {K:KR}
 (h:opK τ md rf CP YP ρ H n o.dst o.op K):∃v sets accs news,K v sets accs news∧mE P r B o ρ H v sets accs news:=by
 have up:(∃v sets accs news,K v sets accs news∧bE P r o ρ H v sets accs news)→∃v sets accs news,K v sets accs news∧mE P r B o ρ H v sets accs news:=
  fun⟨v,sets,accs,news,h1,h2⟩=>⟨v,sets,accs,news,h1,h2.toB⟩
 cases ho:o.op with
 |move x=>exact up (Aj (.inl ho) h)
 |assign x=>exact up (Aj (.inr ho) h)
 |pick c x y=>exact up (Nt ho h)
 |alloc t=>exact up (JL hτ ho h)
 |box t x=>exact up (QN hτ ho h)
 |build t ps=>exact up (JR hτ ho h)
 |buildSlice t l ps=>exact up (y8 hτ ho h)
 |insert t m k u=>exact up (Gn hτ ho h)
 |mapUpdate t m k u=>exact up (Av hτ ho h)
 |load t x=>exact up (Nj hτ ho h)
 |store t x y=>
  cases hfz:Nh rf x with
  |false=>exact up (JM hτ ho hfz h)
  |true=>exact up (Gp hτ ho hfz h)
 |nilCheck x=>exact up (Cv ho h)
 |binOp op t x y u=>exact up (QS hτ ho h)
 |unOp op t x=>exact up (UD hτ ho h)
 |convert s d x=>exact up (JY hτ ho h)
 |makeInterface t x=>exact up (ES hτ ho h)
 |makeFunc f fs cs=>exact up (Cx ho h)
 |makeMap t x=>exact up (ER ho h)
 |makeSlice t l c=>exact up (Au hτ ho h)
 |slice t x lo hi mx=>exact up (JW hτ ho h)
 |fieldAddr t x f=>exact up (Al hτ ho h)
 |field t x f=>exact up (JU hτ ho h)
 |indexAddr t x i=>exact up (Am hτ ho h)
 |index t x i=>exact up (JV hτ ho h)
 |lookup t m k ok=>exact up (Gm hτ ho h)
 |extract x i=>exact up (EN ho h)
 |call c=>
  obtain⟨cal,args,ats⟩:=c;cases cal with
  |value f=>exact Aw hC hY ho h
  |invoke x m=>exact Gq hτ hC ho h
  |builtin b=>exact up (EP hτ ho rfl h)
 |_=>rw[ho]at h;exact h.elim
variable {P:Program} {r:Option Nat} {τ:TypeId→Option TE} {B:Imm→World→Prop}
structure Ent where
 run:Bool
 v:PV
 sets:List (Nat × AO)
 accs:List Nat
 news:List Nat
instance:Inhabited Ent:=⟨⟨true,.any,[],[],[]⟩⟩
def fF (env:Env) (dst:Option Nat) (v:PV):Env:=match dst with|none=>env|some d=>env.set d v
def keys:List (Nat × AO)→List Nat
 | []=>[]
 |(k,_)::r=>k::keys r
theorem vY (l:List PV) (i:Nat) (h:¬i<l.length):aD l i=.any:=by
 induction l generalizing i with
 |nil=>rfl
 |cons x xs ih=>cases i with
  |zero=>simp at h
  |succ i=>exact ih i (by simpa using h)
theorem Gs {a:Array Bool} {i j:Nat} {v d:Bool} (h:j≠i):(a.setIfInBounds i v).getD j d=a.getD j d:=by
 simp[ahW,aje,Ne.symm h]
theorem pQ {S:Imm} {w:World} {ι:Ix} {env:Env} {a:Act} (h:bF S w ι env a.tmps) (x:Operand) (hx:∀g,x≠ .global g):Rep S w ι (eo env x) (a.eval x):=by
 cases x with
 |tmp t=>
  simp only[eo,Act.eval];by_cases ht:t<env.length
  ·exact h.2 t ht
  ·rw[vY _ _ ht];exact .any _ _
 |const v=>exact Cu v
 |global g=>exact absurd rfl (hx g)
 |func f=>exact .fn _ _ _ _ _ _ rfl rfl (fun i hi=>by simp at hi) (fun i hi=>by simp at hi)
theorem acJ {S:Imm} {w:World} {ι:Ix} {env:Env} {a:Act} (hg:gB S w) (h:bF S w ι env a.tmps) (x:Operand):Rep S w ι (eo env x) (a.eval x):=by
 cases x with
 |global g=>
  simp only[eo,Act.eval];cases hc:xK g with
  |none=>exact .any _ _
  |some c=>
   have:=Rep.ip (S:=S) (w:=w) ι c 0 g 0 (fun j hj=>by rw[aic];exact((hg g c hc).2 j hj).1) (fun j hj=>by rw[aic];exact((hg g c hc).2 j hj).2)
   exact this
 |_=>exact pQ h _ (fun g e=>by cases e)
theorem ze {S:Imm} {w:World} {ι:Ix} {env:Env} {a:Act} (h:bF S w ι env a.tmps) (dst:Option Nat) {v:PV} {val:Value} (hv:Rep S w ι v val):bF S w ι (fF env dst v) (a.put dst val).tmps:=by
 cases dst with
 |none=>exact h
 |some d=>
  refine⟨by simp[fF,Act.put,h.1],fun i hi=>?_⟩
  simp only[fF,List.length_set]at hi;simp only[fF,Act.put,ng,ahW,aje];by_cases e:i=d
  ·subst e
   rw[if_pos ⟨rfl,hi⟩,if_pos rfl];simp only[←h.1,hi,if_true,ah5];exact hv
  ·rw[if_neg (fun hh=>e hh.1),if_neg (Ne.symm e),←ahW]
   exact h.2 i hi
theorem put_defers (a:Act) (dst:Option Nat) (v:Value):(a.put dst v).defers=a.defers:=by cases dst<;>rfl
def GOK (ops:Array Oper) (env:Env) (o:Oper) (b:Bool):Prop:=
 match o.guard with
 |none=>b=true
 |some (j,want)=>∃d t,(ops[j]?).bind (·.dst)=some d∧(aD env d=.bp t∨aD env d=.bool t∨(aD env d=.tup []∧t=!want))∧b=(t==want)
theorem GOK.wanted {ops:Array Oper} {env:Env} {o:Oper} {b:Bool} (h:GOK ops env o b) {S:Imm} {w:World} {ι:Ix} {a:Act} (hr:bF S w ι env a.tmps):Region.wanted o (yielded ops a.tmps)=b:=by
 unfold GOK at h;unfold Region.wanted;cases hg:o.guard with
 |none=>rw[hg]at h;exact h.symm
 |some jw=>
  obtain⟨j,want⟩:=jw;rw[hg]at h;obtain⟨d,t,h1,h2,h3⟩:=h;have hlt:d<env.length:=by
   by_cases hd:d<env.length
   ·exact hd
   ·rw[vY _ _ hd]at h2;rcases h2 with h2|h2|⟨h2,_⟩<;>cases h2
  have hd:=hr.2 d hlt;rw[ahW,ahT (by rw[←hr.1];exact hlt),ah5]at hd
  have he:a.tmps[d]? =some (a.tmps[d]'(by rw[←hr.1];exact hlt)):=ahT _
  rcases h2 with h2|h2|⟨h2,ht⟩
  ·have hv:a.tmps[d]? =some (.bool t):=by rw[he];rw[h2]at hd;generalize a.tmps[d]'(by rw[←hr.1];exact hlt)=x at hd;cases hd;rfl
   simp only[yielded,h1,ajf,hv];rw[h3];cases t<;>cases want<;>rfl
  ·have hv:a.tmps[d]? =some (.bool t):=by rw[he];rw[h2]at hd;generalize a.tmps[d]'(by rw[←hr.1];exact hlt)=x at hd;cases hd;rfl
   simp only[yielded,h1,ajf,hv];rw[h3];cases t<;>cases want<;>rfl
  ·have hv:∃vs,a.tmps[d]? =some (.tuple vs):=by rw[he];rw[h2]at hd;generalize a.tmps[d]'(by rw[←hr.1];exact hlt)=x at hd;cases hd;exact⟨_,rfl⟩
   obtain⟨vs,hv⟩:=hv;simp only[yielded,h1,ajf,hv];rw[h3,ht];cases want<;>rfl
def kL (P:Program) (r:Option Nat) (B:Imm→World→Prop) (ops:Array Oper) (env:Env) (H:Hp) (o:Oper) (e:Ent):Prop:=
 GOK ops env o e.run∧(e.run=true→mE P r B o (eo env) H e.v e.sets e.accs e.news)∧(∀k∈e.news,ay H k=none)∧
 (e.run=false→e.v=.tup []∧e.sets=[]∧e.accs=[]∧e.news=[])
def Chain (P:Program) (r:Option Nat) (B:Imm→World→Prop) (ops:Array Oper) (es:Nat→Ent):List Nat→Env→Hp→(Env→Hp→Prop)→Prop
 | [],env,H,K=>K env H
 |i::R,env,H,K=>∃o,ops[i]? =some o∧kL P r B ops env H o (es i)∧Chain P r B ops es R (fF env o.dst (es i).v) (aZ H (es i).sets) K
def looks (ops:Array Oper) (o:Oper):List Nat:=
 (o.op.operands.toList.filterMap fun|.tmp t=>some t|_=>none)++(match o.guard with|some (j,_)=>((ops[j]?).bind (·.dst)).toList|none=>[])
structure Apart (ops:Array Oper) (p o:Oper):Prop where
 po:∀d,p.dst=some d→d∉looks ops o
 op:∀d,o.dst=some d→d∉looks ops p
 dd:∀d,p.dst=some d→o.dst≠some d
structure vZ (e f:Ent):Prop where
 ef:∀k∈keys e.sets,k∉f.accs∧k∉keys f.sets
 fe:∀k∈keys f.sets,k∉e.accs∧k∉e.news
theorem jY {sets:List (Nat × AO)}:∀{H:Hp} {k:Nat},k∉keys sets→ay (aZ H sets) k=ay H k:=by
 induction sets with
 |nil=>intro H k h;rfl
 |cons x xs ih=>
  intro H k h;obtain⟨i,a⟩:=x;simp only[keys,ajg,not_or]at h;simp only[aZ];rw[ih h.2,bq,if_neg h.1]
theorem NH {sets:List (Nat × AO)}:∀{H:Hp} {k:Nat},ay (aZ H sets) k=none→ay H k=none:=by
 induction sets with
 |nil=>intro H k h;exact h
 |cons x xs ih=>
  intro H k h;obtain⟨i,a⟩:=x;have:=ih (H:=aQ H i a) h;rw[bq]at this;split at this
  ·cases this
  ·exact this
theorem QX {sets:List (Nat × AO)}:∀{H:Hp} {i:Nat} {a:AO},i∉keys sets→aZ (aQ H i a) sets=aQ (aZ H sets) i a:=by
 induction sets with
 |nil=>intro H i a h;rfl
 |cons x xs ih=>
  intro H i a h;obtain⟨j,c⟩:=x;simp only[keys,ajg,not_or]at h;simp only[aZ];rw[QE _ _ _ _ _ h.1,ih h.2]
theorem NI {A C:List (Nat × AO)}:∀{H:Hp},(∀k∈keys A,k∉keys C)→aZ (aZ H A) C=aZ (aZ H C) A:=by
 induction A with
 |nil=>intro H h;rfl
 |cons x xs ih=>
  intro H h;obtain⟨i,a⟩:=x;simp only[keys,ajg]at h;simp only[aZ];rw[ih (fun k hk=>h k (.inr hk)),QX (h i (.inl rfl))]
theorem UG {ops:Array Oper} {o:Oper} {t:Nat} (h:Operand.tmp t∈o.op.operands.toList):t∈looks ops o:=by
 unfold looks;exact ah1 _ (List.mem_filterMap.2 ⟨_,h,rfl⟩)
theorem El {env:Env} {dst:Option Nat} {v:PV} {t:Nat} (h:∀d,dst=some d→t≠d):aD (fF env dst v) t=aD env t:=by
 cases dst with
 |none=>rfl
 |some d=>rw[fF,ng,if_neg (fun hh=>h d rfl hh.1)]
theorem Lb {ops:Array Oper} {o:Oper} {env:Env} {dst:Option Nat} {v:PV} (h:∀d,dst=some d→d∉looks ops o) {x:Operand} (hx:x∈o.op.operands.toList):eo (fF env dst v) x=eo env x:=by
 cases x with
 |tmp t=>exact El fun d hd e=>h d hd (by subst e;exact UG hx)
 |const v=>rfl
 |global g=>rfl
 |func f=>rfl
theorem Gt {ops:Array Oper} {o:Oper} {env:Env} {dst:Option Nat} {v:PV} {b:Bool} (h:∀d,dst=some d→d∉looks ops o):GOK ops (fF env dst v) o b↔GOK ops env o b:=by
 unfold GOK;cases hg:o.guard with
 |none=>exact Iff.rfl
 |some jw=>
  obtain⟨j,want⟩:=jw;simp only;have:∀d',(ops[j]?).bind (·.dst)=some d'→aD (fF env dst v) d'=aD env d':=fun d' hd'=>El fun d hd e=>h d hd (by
   subst e;unfold looks;rw[hg];exact List.mem_append_right _ (by simp[hd']))
  constructor
  ·rintro⟨d,t,h1,h2,h3⟩;exact⟨d,t,h1,by rwa [this d h1]at h2,h3⟩
  ·rintro⟨d,t,h1,h2,h3⟩;exact⟨d,t,h1,by rwa [this d h1],h3⟩
theorem mE.congr {o:Oper} {ρ ρ':Operand→PV} {H H':Hp} {v:PV} {sets:List (Nat × AO)} {accs news:List Nat} (h:mE P r B o ρ H v sets accs news)
 (hρ:∀x∈o.op.operands.toList,∀S w ι val,Rep S w ι (ρ' x) val→Rep S w ι (ρ x) val) (hH:∀k∈accs,ay H' k=ay H k):mE P r B o ρ' H' v sets accs news:=
 fun S w ι H1 a next Q hB M hr ha hn hk=>h S w ι H1 a next Q hB M (fun x hx=>hρ x hx _ _ _ _ (hr x hx)) (fun k hk'=>(ha k hk').trans (hH k hk')) hn hk
theorem QY {env:Env} {d d':Option Nat} {v v':PV} (h:∀x,d=some x→d'≠some x):fF (fF env d v) d' v'=fF (fF env d' v') d v:=by
 cases d with
 |none=>rfl
 |some x=>cases d' with
  |none=>rfl
  |some y=>simp only[fF];exact List.set_comm _ _ (fun e=>h x rfl (by rw[e]))
theorem kL.back {ops:Array Oper} {p o:Oper} {e f:Ent} {env:Env} {H:Hp} (hs:Apart ops p o) (hd:vZ e f) (h:kL P r B ops (fF env p.dst e.v) (aZ H e.sets) o f):kL P r B ops env H o f:=by
 obtain⟨h1,h2,h3,h4⟩:=h;refine⟨(Gt hs.po).1 h1,fun hr=>(h2 hr).congr (fun x hx S w ι val hh=>by rw[Lb hs.po hx];exact hh) (fun k hk=>(jY (fun hk'=>(hd.ef k hk').1 hk)).symm),fun k hk=>NH (h3 k hk),h4⟩
theorem kL.forth {ops:Array Oper} {p o:Oper} {e f:Ent} {env:Env} {H:Hp} (hs:Apart ops p o) (hd:vZ e f) (h:kL P r B ops env H p e):kL P r B ops (fF env o.dst f.v) (aZ H f.sets) p e:=by
 obtain⟨h1,h2,h3,h4⟩:=h;refine⟨(Gt hs.op).2 h1,fun hr=>(h2 hr).congr (fun x hx S w ι val hh=>by rw[Lb hs.op hx]at hh;exact hh) (fun k hk=>jY (fun hk'=>(hd.fe k hk').1 hk)),fun k hk=>?_,h4⟩
 rw[jY (fun hk'=>(hd.fe k hk').2 hk)];exact h3 k hk
theorem Chain.pull {ops:Array Oper} {es:Nat→Ent} {K:Env→Hp→Prop} {i:Nat} {post:List Nat}:∀(pre:List Nat) {env:Env} {H:Hp},Chain P r B ops es (pre++i::post) env H K→
 (∀p∈pre,∀op oi,ops[p]? =some op→ops[i]? =some oi→Apart ops op oi∧vZ (es p) (es i))→
 ∃o,ops[i]? =some o∧kL P r B ops env H o (es i)∧Chain P r B ops es (pre++post) (fF env o.dst (es i).v) (aZ H (es i).sets) K:=by
 intro pre;induction pre with
 |nil=>intro env H h _;exact h
 |cons p pre ih=>
  intro env H h hi;obtain⟨op,ho,he,hc⟩:=h;obtain⟨oi,hoi,hei,hci⟩:=ih hc (fun q hq=>hi q (by simp[hq]))
  obtain⟨a,d⟩:=hi p (by simp) op oi ho hoi
  refine⟨oi,hoi,hei.back a d,op,ho,he.forth a d,?_⟩;rw[QY (fun x hx hx'=>a.dd x hx' hx),NI (fun k hk hk'=>(d.ef k hk').2 hk)];exact hci
structure At (B:Imm→World→Prop) (p:Nat) (S0:Imm) (w0:World) (ι0:Ix) (H0:Hp) (env:Env) (H:Hp) (a:Act) (w:World):Prop where
 ex:∃S ι,B S w∧Mem S w ι H∧bF S w ι env a.tmps∧xL w ι H a.defers∧(∀d∈a.defers,∀b,d.target=.collected b→w0.heap.size≤b)∧Tr p S0 w0 ι0 H0 S w ι H
structure BOK (B:Imm→World→Prop):Prop where
 mono:∀S w S' w',Keeps S w S' w'→Bel w w'→B S w→B S' w'
 glob:∀S w,B S w→gB S w
instance {B:Imm→World→Prop}:CoeFun (BOK B) (fun _=>∀S w S' w',Keeps S w S' w'→Bel w w'→B S w→B S' w'):=⟨BOK.mono⟩
theorem Gu (hB:BOK B) {ops:Array Oper} {o:Oper} {e:Ent} {env:Env} {H:Hp} (he:kL P r B ops env H o e) {p:Nat} {S0:Imm} {w0:World} {ι0:Ix} {H0:Hp} {a:Act} {w:World}
 (h:At B p S0 w0 ι0 H0 env H a w) {i:Nat} (hi:ops[i]? =some o) {Q:Exit→Act→World→Prop} {K:Act→World→Prop}
 (hk:∀a' w',At B p S0 w0 ι0 H0 (fF env o.dst e.v) (aZ H e.sets) a' w'→K a' w'):wpOpIn (Fw r) 0 P ops Q i K a w:=by
 obtain⟨S,ι,hb,M,R,hds,hdn,T⟩:=h.ex;obtain⟨h1,h2,h3,h4⟩:=he;unfold wpOpIn;simp only[hi];rw[h1.wanted R];cases hrun:e.run with
 |true=>
  simp only[if_true];refine h2 hrun S w ι H a K Q hb M (fun x hx=>acJ (hB.glob _ _ hb) R x) (fun _ _=>rfl) h3 (fun val S' w' ι' M' L' K' R' T'=>hk _ _ ⟨S',ι',hB _ _ _ _ K' (T' 0).below hb,M',?_,by rw[put_defers];exact hds.tr (T' 0),by rw[put_defers];exact hdn,T.trans (T' p)⟩)
  exact ze (R.mono K' L') _ R'
 |false=>
  obtain⟨g1,g2,g3,g4⟩:=h4 hrun;simp only[aiF,if_false];refine⟨fun _ _=>trivial,hk _ _ ⟨S,ι,hb,by rw[g2];exact M,?_,by rw[put_defers,g2];exact hds,by rw[put_defers];exact hdn,by rw[g2];exact T⟩⟩
  rw[g1];exact ze R _ (.tup _ _ _ rfl (fun i hi=>by simp at hi))
theorem NJ (hB:BOK B) {ops:Array Oper} {es:Nat→Ent} {K:Env→Hp→Prop} {p:Nat} {S0:Imm} {w0:World} {ι0:Ix} {H0:Hp} {Q:Exit→Act→World→Prop}
 (hQ:∀env H a w,K env H→At B p S0 w0 ι0 H0 env H a w→Q .normal a w):∀(R:List Nat) (env:Env) (H:Hp) (a:Act) (w:World),Chain P r B ops es R env H K→At B p S0 w0 ι0 H0 env H a w→
  wpOpsIn (Fw r) 0 P ops Q R a w:=by
 intro R;induction R with
 |nil=>intro env H a w h hA;exact hQ _ _ _ _ h hA
 |cons i R ih=>
  intro env H a w h hA;obtain⟨o,ho,he,hc⟩:=h;rw[wpOpsIn_cons];exact Gu hB he hA ho fun a' w' hA'=>ih _ _ a' w' hc hA'
inductive Bef (ops:Array Oper):Nat→Nat→Prop where
 |edge {i j:Nat} {o:Oper} {e:Edge} (h:ops[j]? =some o) (he:e∈o.after) (hb:Region.binds .any e=true) (hi:e.on=i):Bef ops i j
 |trans {i j k:Nat}:Bef ops i j→Bef ops j k→Bef ops i k
theorem QZ (hB:BOK B) {ops:Array Oper} {es:Nat→Ent} {K:Env→Hp→Prop} {p:Nat} {S0:Imm} {w0:World} {ι0:Ix} {H0:Hp} {Q:Exit→Act→World→Prop}
 (hQ:∀env H a w,K env H→At B p S0 w0 ι0 H0 env H a w→Q .normal a w)
 (hback:∀(j:Nat) (o:Oper) (e:Edge),ops[j]? =some o→e∈o.after→Region.binds .any e=true→e.on<j)
 (hind:∀i j op oj,i<j→ops[i]? =some op→ops[j]? =some oj→¬Bef ops i j→Apart ops op oj∧vZ (es i) (es j)):
 ∀(fuel:Nat) (listed:Array Bool) (R:List Nat) (env:Env) (H:Hp) (a:Act) (w:World),R.Pairwise (·< ·)→(∀i,i∈R↔listed.getD i true=false)→listed.size=ops.size→
  (∀i j,Bef ops i j→listed.getD j false=true→listed.getD i false=true)→R.length≤fuel→
  Chain P r B ops es R env H K→At B p S0 w0 ι0 H0 env H a w→wpAnyIn (Fw r) 0 P .any ops Q fuel listed a w:=by
 have hready:∀(listed:Array Bool) (j:Nat),j∈Region.ready .any ops listed→(∀i j,Bef ops i j→listed.getD j false=true→listed.getD i false=true)→∀i,Bef ops i j→listed.getD i false=true:=by
  intro listed j hj hcl i hb;induction hb with
  |edge h he hb hi=>
   obtain⟨_,o,ho,hall⟩:=mem_ready.1 hj;rw[h]at ho;cases ho
   rw[←hi];exact hall _ he hb
  |trans h1 h2 ih1 ih2=>exact hcl _ _ h1 (ih2 hj)
 intro fuel;induction fuel with
 |zero=>
  intro listed R env H a w hs hm hsz hcl hle hc hA;have hR:R=[]:=List.length_eq_zero_iff.1 (by omega)
  subst hR;refine⟨?_,hQ _ _ _ _ hc hA⟩;rw[List.eq_nil_iff_forall_not_mem];intro j hj;have:=(hm j).2 (mem_ready.1 hj).1;simp at this
 |succ fuel ih=>
  intro listed R env H a w hs hm hsz hcl hle hc hA;refine⟨fun hnil=>?_,fun i hi=>?_⟩
  ·
   cases R with
   |nil=>exact hQ _ _ _ _ hc hA
   |cons i R=>
    have hi:=(hm i).1 (by simp)
    have hlt:i<listed.size:=by
     rcases ahP i listed.size with h|h
     ·exact h
     ·rw[ahW,ahQ h]at hi;simp at hi
    have:i∈Region.ready .any ops listed:=by
     refine mem_ready.2 ⟨hi,ops[i]'(by omega),ahT (by omega),fun e he hb=>?_⟩
     have hb':=hback i _ e (ahT (by omega)) he hb
     have hnot:¬e.on∈i::R:=by
      intro hmem;rcases ajg.1 hmem with h|h
      ·omega
      ·have:=(ajh.1 hs).1 _ h;omega
     have h2:¬listed.getD e.on true=false:=fun h=>hnot ((hm e.on).2 h);have hlt':e.on<listed.size:=by omega
     simp[ahW,hlt']at h2⊢;exact h2
    rw[hnil]at this;cases this
  ·have hiR:=(hm i).2 (mem_ready.1 hi).1
   obtain⟨pre,post,rfl⟩:=List.append_of_mem hiR;have hlt:∀q∈pre,q<i:=fun q hq=>(aji.1 hs).2.2 q hq i (by simp)
   obtain⟨o,ho,he,hc'⟩:=hc.pull pre (fun q hq op oi hop hoi=>hind q i op oi (hlt q hq) hop hoi (fun hb=>by
    have h1:=hready listed i hi hcl q hb;have h2:=(hm q).1 (by simp[hq])
    rw[ahW]at h1 h2;cases hq':listed[q]? with
    |none=>rw[hq']at h2;simp at h2
    |some x=>rw[hq']at h1 h2;simp at h1 h2;rw[h1]at h2;cases h2))
   refine Gu hB he hA ho fun a' w' hA'=>ih (listed.setIfInBounds i true) (pre++post) _ _ a' w' ?_ ?_ (by simpa using hsz) ?_ (by simp at hle⊢;omega) hc' hA'
   ·exact List.Pairwise.sublist (List.Sublist.append_left (List.sublist_cons_self i post) pre) hs
   ·intro j
    have hnd:i∉pre++post:=by
     intro hmem;have hp:=hs;rw[aji]at hp;rcases List.mem_append.1 hmem with h|h
     ·have:=hp.2.2 i h i (by simp);omega
     ·have:=(ajh.1 hp.2.1).1 i h;omega
    by_cases e:j=i
    ·subst e
     have hlt':j<listed.size:=by
      have:=(hm j).1 (by simp)
      rcases ahP j listed.size with h|h
      ·exact h
      ·rw[ahW,ahQ h]at this;simp at this
     simp only[hnd,false_iff];simp[ahW,hlt']
    ·have:=hm j
     rw[getD_set_ne true (Ne.symm e)];rw[←this];simp[e]
   ·intro x y hb hy
    by_cases e:y=i
    ·subst e
     exact getD_set_true (hready listed y hi hcl x hb)
    ·rw[Gs e]at hy
     exact getD_set_true (hcl x y hb hy)
def rz (acc:List Nat):List Edge→Nat
 | []=>0
 |e::r=>match Region.binds .any e with
  |true=>(2 ^ e.on|||acc.getD e.on 0)|||rz acc r
  |false=>rz acc r
def masks:List Oper→List Nat→List Nat
 | [],acc=>acc
 |o::r,acc=>masks r (acc++[rz acc o.after.toList])
def gU (a b:List Nat):Bool:=
 match a with
 | []=>true
 |x::r=>match gT x b with|true=>false|false=>gU r b
def wm:Option Nat→List Nat|none=>[]|some d=>[d]
def Gv (ops:Array Oper) (p o:Oper):Bool:=
 gU (wm p.dst) (looks ops o)&&gU (wm o.dst) (looks ops p)&&gU (wm p.dst) (wm o.dst)
def afF (j:Nat) (es:List Edge):Bool:=es.all fun e=>!Region.binds .any e||ajj e.on j
def xP (ops:Array Oper):Bool:=
 (ahX ops.size).all fun j=>match ops[j]? with
  |none=>true
  |some oj=>afF j oj.after.toList&&(ahX j).all fun i=>match ops[i]? with
   |none=>true
   |some oi=>ajk ((masks ops.toList []).getD j 0) i||Gv ops oi oj
theorem qA {n:Nat} {l:List Nat}:gT n l=true↔n∈l:=by
 induction l with
 |nil=>simp[gT]
 |cons m l ih=>
  unfold gT;cases h:ah6 n m with
  |true=>simp[aib h]
  |false=>
   have:n≠m:=ajl h;simp[ih,this]
theorem Gw {a b:List Nat}:gU a b=true↔∀x∈a,x∉b:=by
 induction a with
 |nil=>simp[gU]
 |cons x r ih=>
  unfold gU;cases h:gT x b with
  |true=>simp[qA.1 h]
  |false=>
   have:x∉b:=fun hx=>by rw[qA.2 hx]at h;cases h
   simp[ih,this]
theorem Gx {ops:Array Oper} {p o:Oper} (h:Gv ops p o=true):Apart ops p o:=by
 unfold Gv at h;simp only[aia,Gw]at h;exact⟨fun d hd=>h.1.1 d (by simp[hd,wm]),fun d hd=>h.1.2 d (by simp[hd,wm]),fun d hd hd'=>h.2 d (by simp[hd,wm]) (by simp[hd',wm])⟩
theorem J7 {ops:Array Oper} {j:Nat} {o:Oper} (ho:ops[j]? =some o) {acc:List Nat} (hacc:∀k i,(acc.getD k 0).testBit i=true→Bef ops i k):
 ∀(es:List Edge),(∀e∈es,e∈o.after)→∀i,(rz acc es).testBit i=true→Bef ops i j:=by
 intro es;induction es with
 |nil=>intro _ i h;simp[rz]at h
 |cons e es ih=>
  intro hes i h;have ih:=ih (fun x hx=>hes x (by simp[hx])) i
  unfold rz at h;cases hb:Region.binds .any e with
  |false=>rw[hb]at h;exact ih h
  |true=>
   rw[hb]at h;simp only[Nat.testBit_or,ajm,Nat.testBit_two_pow,decide_eq_true_eq]at h;have he:=Bef.edge (i:=e.on) ho (hes e (by simp)) hb rfl
   rcases h with(h|h)|h
   ·subst h;exact he
   ·exact(hacc _ _ h).trans he
   ·exact ih h
theorem yJ {ops:Array Oper}:∀(r pre:List Oper) (acc:List Nat),ops.toList=pre++r→acc.length=pre.length→(∀k i,(acc.getD k 0).testBit i=true→Bef ops i k)→
 ∀k i,((masks r acc).getD k 0).testBit i=true→Bef ops i k:=by
 intro r;induction r with
 |nil=>intro pre acc _ _ h;exact h
 |cons o r ih=>
  intro pre acc hops hl h;refine ih (pre++[o]) (acc++[rz acc o.after.toList]) (by simp[hops]) (by simp[hl]) (fun k i hk=>?_)
  rw[ahZ]at hk;by_cases e:k<acc.length
  ·rw[ajn e,←ahZ]at hk
   exact h k i hk
  ·rw[aiX (by omega)]at hk
   by_cases e':k=acc.length
   ·subst e'
    simp at hk;have ho:ops[acc.length]? =some o:=by
     rw[←ajo,hops,hl,aiX (ahO _)];simp
    exact J7 ho h _ (fun e he=>by simpa using he) i hk
   ·rw[List.getElem?_eq_none (by simp;omega)]at hk;simp at hk
structure Lg where
 i:Nat
 ws:List Nat
 as:List Nat
 ns:List Nat
def Ay (i:Nat) (sets:List (Nat × AO)) (acc news:List Nat) (log:List Lg):List Lg:=
 match sets,acc,news with
 | [],[],[]=>log
 |_,_,_=>⟨i,keys sets,acc,news⟩::log
def qB (mj:Nat) (fw fa:List Nat):List Lg→Bool
 | []=>true
 |⟨i,ew,ea,en⟩::r=>match ajk mj i with
  |true=>qB mj fw fa r
  |false=>match gU ew fa&&gU ew fw&&gU fw ea&&gU fw en with
   |true=>qB mj fw fa r
   |false=>false
def mF (ms:List Nat):List Lg→Bool
 | []=>true
 |⟨i,fw,fa,_⟩::r=>match qB (ms.getD i 0) fw fa r with
  |true=>mF ms r
  |false=>false
def lM (es:Nat→Ent):List Nat→List Lg→List Lg
 | [],log=>log
 |i::R,log=>lM es R (Ay i (es i).sets (es i).accs (es i).news log)
def nI (e:Ent):Bool:=match e.sets,e.accs,e.news with| [],[],[]=>false|_,_,_=>true
theorem Q0 (i:Nat) (e:Ent) (log:List Lg):Ay i e.sets e.accs e.news log=if nI e then⟨i,keys e.sets,e.accs,e.news⟩::log else log:=by
 obtain⟨run,v,sets,accs,news⟩:=e;cases sets<;>cases accs<;>cases news<;>rfl
theorem Ze (es:Nat→Ent):∀(R:List Nat) (log:List Lg),lM es R log=((R.filter fun i=>nI (es i)).reverse.map fun i=>⟨i,keys (es i).sets,(es i).accs,(es i).news⟩)++log:=by
 intro R;induction R with
 |nil=>intro log;rfl
 |cons i R ih=>
  intro log;simp only[lM,ih,Q0];cases h:nI (es i)<;>simp[h]
theorem Az {mj:Nat} {f:Lg} {l:List Lg}:qB mj f.ws f.as l=true↔∀e∈l,mj.testBit e.i=true∨(gU e.ws f.as&&gU e.ws f.ws&&gU f.ws e.as&&gU f.ws e.ns)=true:=by
 induction l with
 |nil=>simp[qB]
 |cons e l ih=>
  unfold qB;cases h1:ajk mj e.i with
  |true=>simp[h1,ih]
  |false=>
   simp only[ajg,forall_eq_or_imp,h1,aiF,false_or];split
   ·rename_i h;simp only[h,true_and,ih]
   ·rename_i h;simp[h]
theorem NK {ms:List Nat} {l:List Lg}:mF ms l=true↔l.Pairwise fun f e=>(ms.getD f.i 0).testBit e.i=true∨(gU e.ws f.as&&gU e.ws f.ws&&gU f.ws e.as&&gU f.ws e.ns)=true:=by
 induction l with
 |nil=>simp[mF]
 |cons f l ih=>
  unfold mF;cases h:qB (ms.getD f.i 0) f.ws f.as l with
  |true=>simp only[ajh,ih];exact⟨fun h'=>⟨Az.1 h,h'⟩,fun h'=>h'.2⟩
  |false=>
   simp only[ajh];refine⟨fun h'=>absurd h' (by simp),fun h'=>?_⟩
   rw[Az.2 h'.1]at h;cases h
theorem Q5 {ops:Array Oper} {es:Nat→Ent} {n:Nat} (h:mF (masks ops.toList []) (lM es (ahX n) [])=true) {i j:Nat} (hij:i<j) (hj:j<n) (hb:¬Bef ops i j):vZ (es i) (es j):=by
 rw[Ze,List.append_nil,NK,List.pairwise_map,List.pairwise_reverse,List.pairwise_filter]at h;have hp:=(List.pairwise_iff_getElem.1 h) i j (by simpa using(by omega:i<n)) (by simpa using hj) hij
 simp only[List.getElem_range]at hp;have htriv:∀e:Ent,nI e=false→e.sets=[]∧e.accs=[]∧e.news=[]:=by
  intro e he;obtain⟨run,v,sets,accs,news⟩:=e;cases sets<;>cases accs<;>cases news<;>simp_all[nI]
 cases hi':nI (es i)with
 |false=>
  obtain⟨e1,e2,e3⟩:=htriv _ hi';exact⟨fun k hk=>by rw[e1]at hk;simp[keys]at hk,fun k hk=>by rw[e2,e3];simp⟩
 |true=>
  cases hj':nI (es j)with
  |false=>
   obtain⟨e1,e2,e3⟩:=htriv _ hj';exact⟨fun k hk=>by rw[e1,e2];simp[keys],fun k hk=>by rw[e1]at hk;simp[keys]at hk⟩
  |true=>
   rcases hp hi' hj' with hp|hp
   ·exact absurd (yJ ops.toList [] [] rfl rfl (fun k i hk=>by simp at hk) j i hp) hb
   ·simp only[aia,Gw]at hp
    exact⟨fun k hk=>⟨hp.1.1.1 k hk,hp.1.1.2 k hk⟩,fun k hk=>⟨hp.1.2 k hk,hp.2 k hk⟩⟩
theorem NM {ops:Array Oper} (h:xP ops=true) (j:Nat) (o:Oper) (e:Edge) (ho:ops[j]? =some o) (he:e∈o.after) (hb:Region.binds .any e=true):e.on<j:=by
 have hj:j<ops.size:=(ahI.1 ho).1;unfold xP at h;have:=(ajp.1 h) j (by simpa using hj)
 rw[ho]at this;simp only[aia]at this;have h2:=(ajp.1 this.1) e (by simpa using he)
 rw[hb]at h2;simpa [Nat.blt_eq]using h2
theorem J8 {ops:Array Oper} (h:xP ops=true) {i j:Nat} {p o:Oper} (hij:i<j) (hi:ops[i]? =some p) (ho:ops[j]? =some o) (hb:¬Bef ops i j):Apart ops p o:=by
 have hj:j<ops.size:=(ahI.1 ho).1;unfold xP at h;have:=(ajp.1 h) j (by simpa using hj)
 rw[ho]at this;simp only[aia]at this;have h2:=(ajp.1 this.2) i (by simpa using hij)
 rw[hi]at h2;simp only[ajm]at h2;rcases h2 with h2|h2
 ·exact absurd (yJ ops.toList [] [] rfl rfl (fun k i hk=>by simp at hk) j i h2) hb
 ·exact Gx h2
def wo (H:Hp):List Nat→Prop→Prop
 | [],k=>k
 |n::r,k=>dV H n (wo H r k)
theorem NP {H:Hp} {l:List Nat} {k:Prop}:wo H l k↔(∀n∈l,ay H n=none)∧k:=by
 induction l with
 |nil=>simp[wo]
 |cons n l ih=>simp only[wo,cO,ih,ajg,forall_eq_or_imp,and_assoc]
def idN:Op→Nat
 |.alloc _=>1
 |.box _ _=>1
 |.buildSlice _ _ _=>1
 |.makeMap _ _=>1
 |.makeSlice _ _ _=>1
 |.call c=>match c.callee with
  |.builtin .append=>1
  |.value _=>4
  |_=>0
 |_=>0
def AA (ops:List Oper) (j:Nat):Option Nat:=match ops,j with
 | [],_=>none
 |o::_,0=>o.dst
 |_::r,j+1=>AA r j
def AB (env:Env) (dst:Option Nat) (v:PV) (k:Env→Prop):Prop:=match dst with|none=>k env|some d=>rU env d v k
theorem uq (env:Env) (dst:Option Nat) (v:PV) (k:Env→Prop):AB env dst v k=k (fF env dst v):=by
 cases dst with
 |none=>rfl
 |some d=>exact mZ _ _ _ _
section
variable (τ:TypeId→Option TE) (md:Nat) (rf:List Nat) (CP:CPT) (YP:YPT)
def runK (n:Nat) (env:Env) (H:Hp) (o:Oper) (i:Nat) (log:List Lg) (K:Env→Hp→List Lg→Prop):Prop:=
 opK τ md rf CP YP (eo env) H n o.dst o.op fun v sets acc news=>wo H news (AB env o.dst v fun env'=>fD sets H fun H'=>K env' H' (Ay i sets acc news log))
def UH (all:List Oper) (o:Oper) (ih:Nat→Nat→Env→Hp→List Lg→(Env→Hp→Nat→List Lg→Prop)→Prop) (i n:Nat) (env:Env) (H:Hp) (log:List Lg) (K:Env→Hp→Nat→List Lg→Prop):Prop:=
 iL (n+idN o.op) fun n'=>iL (i+1) fun i'=>
 match o.guard with
 |none=>runK τ md rf CP YP n env H o i log fun env' H' log'=>ih i' n' env' H' log' K
 |some (j,want)=>match AA all j with
  |none=>False
  |some d=>match aD env d with
   |.bool t=>match Bool.xor t want with
    |false=>runK τ md rf CP YP n env H o i log fun env' H' log'=>ih i' n' env' H' log' K
    |true=>AB env o.dst (.tup []) fun env'=>ih i' n' env' H log K
   |.bp t=>(t=want→rU env d (.bool want) fun env1=>runK τ md rf CP YP n env1 H o i log fun env' H' log'=>ih i' n' env' H' log' K)∧
    (t=ajq want→rU env d (.bool (ajq want)) fun env1=>AB env1 o.dst (.tup []) fun env'=>ih i' n' env' H log K)
   |.tup vs=>match vs with
    | []=>AB env o.dst (.tup []) fun env'=>ih i' n' env' H log K
    |_=>False
   |_=>False
noncomputable def rX (all:List Oper) (l:List Oper):Nat→Nat→Env→Hp→List Lg→(Env→Hp→Nat→List Lg→Prop)→Prop:=
 List.rec (motive:=fun _=>Nat→Nat→Env→Hp→List Lg→(Env→Hp→Nat→List Lg→Prop)→Prop) (fun i n env H log K=>K env H n log) (fun o _ ih=>UH τ md rf CP YP all o ih) l
theorem Q6 (all:List Oper) (o:Oper) (r:List Oper):rX τ md rf CP YP all (o::r)=UH τ md rf CP YP all o (rX τ md rf CP YP all r):=rfl
end
def EqE (env env1:Env):Prop:=env.length=env1.length∧∀i,aD env i=aD env1 i∨∃b,aD env i=.bp b∧aD env1 i=.bool b
theorem EqE.refl (env:Env):EqE env env:=⟨rfl,fun _=>.inl rfl⟩
theorem EqE.rep {env env1:Env} (h:EqE env env1) {S:Imm} {w:World} {ι:Ix} {vs:Array Value} (hr:bF S w ι env vs):bF S w ι env1 vs:=by
 refine⟨h.1▸hr.1,fun i hi=>?_⟩;have:=hr.2 i (by rw[h.1];exact hi)
 rcases h.2 i with e|⟨b,e1,e2⟩
 ·rw[←e];exact this
 ·rw[e1]at this
  rw[e2];generalize vs.getD i undef=x at this
  cases this;exact .bool _ _
theorem EqE.eo {env env1:Env} (h:EqE env env1) (x:Operand) {S:Imm} {w:World} {ι:Ix} {v:Value} (hr:Rep S w ι (eo env x) v):Rep S w ι (eo env1 x) v:=by
 cases x with
 |tmp t=>
  simp only[Eng.eo]at hr⊢;rcases h.2 t with e|⟨b,e1,e2⟩
  ·rw[←e];exact hr
  ·rw[e1]at hr;rw[e2];cases hr;exact .bool _ _
 |const v=>exact hr
 |global g=>exact hr
 |func f=>exact hr
theorem EqE.put {env env1:Env} (h:EqE env env1) (dst:Option Nat) (v:PV):EqE (fF env dst v) (fF env1 dst v):=by
 cases dst with
 |none=>exact h
 |some d=>
  refine⟨by simp[fF,h.1],fun i=>?_⟩
  simp only[fF,ng,h.1];split
  ·exact .inl rfl
  ·exact h.2 i
theorem EqE.bool {env:Env} {d:Nat} {t:Bool} (h:aD env d=.bp t):EqE env (env.set d (.bool t)):=by
 refine⟨by simp,fun i=>?_⟩
 rw[ng];by_cases e:i=d∧d<env.length
 ·rw[if_pos e];exact .inr ⟨t,by rw[e.1];exact h,rfl⟩
 ·rw[if_neg e];exact .inl rfl
section
variable {P:Program} {r:Option Nat} {τ:TypeId→Option TE} {B:Imm→World→Prop}
theorem kL.eqE {ops:Array Oper} {env env1:Env} {H:Hp} {o:Oper} {e:Ent} (h:EqE env env1) (he:kL P r B ops env1 H o e):kL P r B ops env H o e:=by
 obtain⟨h1,h2,h3,h4⟩:=he;refine⟨?_,fun hr=>(h2 hr).congr (fun x hx S w ι val hh=>h.eo x hh) (fun _ _=>rfl),h3,h4⟩;unfold GOK at h1⊢;cases hg:o.guard with
 |none=>rw[hg]at h1;exact h1
 |some jw=>
  obtain⟨j,want⟩:=jw;rw[hg]at h1;obtain⟨d,t,g1,g2,g3⟩:=h1;refine⟨d,t,g1,?_,g3⟩;rcases h.2 d with e|⟨b,e1,e2⟩
  ·rw[e];exact g2
  ·rw[e2]at g2
   rcases g2 with g2|g2|⟨g2,_⟩
   ·cases g2
   ·cases g2;exact .inl e1
   ·cases g2
theorem Chain.eqE {ops:Array Oper} {es:Nat→Ent} {K:Env→Hp→Prop} (hK:∀env env1 H,EqE env env1→K env1 H→K env H):∀(R:List Nat) {env env1:Env} {H:Hp},EqE env env1→Chain P r B ops es R env1 H K→Chain P r B ops es R env H K:=by
 intro R;induction R with
 |nil=>intro env env1 H h hc;exact hK _ _ _ h hc
 |cons i R ih=>
  intro env env1 H h hc;obtain⟨o,ho,he,hc⟩:=hc;exact⟨o,ho,he.eqE h,ih (h.put _ _) hc⟩
theorem Chain.congrEs {ops:Array Oper} {es es':Nat→Ent} {K:Env→Hp→Prop}:∀(R:List Nat) {env:Env} {H:Hp},(∀i∈R,es i=es' i)→Chain P r B ops es R env H K→Chain P r B ops es' R env H K:=by
 intro R;induction R with
 |nil=>intro env H _ h;exact h
 |cons i R ih=>
  intro env H he h;obtain⟨o,ho,h1,h2⟩:=h;have e:=he i (by simp)
  exact⟨o,ho,e▸h1,e▸ih (fun j hj=>he j (by simp[hj])) h2⟩
theorem Chain.imp {ops:Array Oper} {es:Nat→Ent} {K K':Env→Hp→Prop} (hK:∀env H,K env H→K' env H):∀(R:List Nat) {env:Env} {H:Hp},Chain P r B ops es R env H K→Chain P r B ops es R env H K':=by
 intro R;induction R with
 |nil=>intro env H h;exact hK _ _ h
 |cons i R ih=>intro env H h;obtain⟨o,ho,h1,h2⟩:=h;exact⟨o,ho,h1,ih h2⟩
theorem Chain.fact {ops:Array Oper} {es:Nat→Ent} {K:Env→Hp→Prop} {A:Prop} (hK:∀env H,K env H→A):∀(R:List Nat) {env:Env} {H:Hp},Chain P r B ops es R env H K→A:=by
 intro R;induction R with
 |nil=>intro env H h;exact hK _ _ h
 |cons i R ih=>intro env H h;obtain⟨o,ho,h1,h2⟩:=h;exact ih h2
theorem NQ {es es':Nat→Ent}:∀(R:List Nat) (log:List Lg),(∀i∈R,es i=es' i)→lM es R log=lM es' R log:=by
 intro R;induction R with
 |nil=>intro log _;rfl
 |cons i R ih=>intro log h;simp only[lM];rw[h i (by simp),ih _ fun j hj=>h j (by simp[hj])]
theorem Q7:∀(l:List Oper) (j:Nat),AA l j=(l[j]?).bind (·.dst):=by
 intro l;induction l with
 |nil=>intro j;rfl
 |cons o l ih=>intro j;cases j with
  |zero=>rfl
  |succ j=>simpa [AA]using ih j
def acK:List Oper→Nat
 | []=>0
 |o::r=>idN o.op+acK r
theorem AJ (hτ:aY P τ) {md rf CP YP} (hC:jU P B CP) (hY:kS P r B YP) {ops:Array Oper} {K:Env→Hp→Nat→List Lg→Prop} {K':List Lg→Env→Hp→Prop}
 (hK:∀env H n log,K env H n log→K' log env H) (hK':∀log env env1 H,EqE env env1→K' log env1 H→K' log env H):
 ∀(l:List Oper) (i n:Nat) (env:Env) (H:Hp) (log:List Lg),ops.toList.drop i=l→rX τ md rf CP YP ops.toList l i n env H log K→
  ∃es:Nat→Ent,Chain P r B ops es (ajr i l.length) env H (K' (lM es (ajr i l.length) log)):=by
 intro l;induction l with
 |nil=>intro i n env H log _ h;exact⟨fun _=>default,hK _ _ _ _ h⟩
 |cons o l ih=>
  intro i n env H log hl h;have ho:ops[i]? =some o:=by
   have:(ops.toList.drop i)[0]? =some o:=by rw[hl];rfl
   rw[List.getElem?_drop]at this;simpa using this
  have hl':ops.toList.drop (i+1)=l:=by
   have:(ops.toList.drop i).drop 1=l:=by rw[hl];rfl
   rw[List.drop_drop]at this;exact this
  rw[Q6]at h;simp only[UH,iM]at h;have glue:∀{env:Env} {H:Hp} (e:Ent) (es:Nat→Ent),kL P r B ops env H o e→Chain P r B ops es (ajr (i+1) l.length) (fF env o.dst e.v) (aZ H e.sets) (K' (lM es (ajr (i+1) l.length) (Ay i e.sets e.accs e.news log)))→
   ∃es:Nat→Ent,Chain P r B ops es (ajr i (o::l).length) env H (K' (lM es (ajr i (o::l).length) log)):=by
   intro env H e es he hc;have hne:∀j∈ajr (i+1) l.length,es j=(if j=i then e else es j):=by
    intro j hj;rw[List.mem_range'_1]at hj;rw[if_neg (by omega)]
   refine⟨fun j=>if j=i then e else es j,?_⟩;rw[List.length_cons,List.range'_succ];refine⟨o,ho,by simpa using he,?_⟩
   simp only[if_true,lM];rw[←NQ _ _ hne];exact Chain.congrEs _ hne hc
  have run:∀{env:Env} {H:Hp},GOK ops env o true→runK τ md rf CP YP n env H o i log (fun env' H' log'=>rX τ md rf CP YP ops.toList l (i+1) (n+idN o.op) env' H' log' K)→
   ∃es:Nat→Ent,Chain P r B ops es (ajr i (o::l).length) env H (K' (lM es (ajr i (o::l).length) log)):=by
   intro env H hg h;obtain⟨v,sets,accs,news,h,hs⟩:=QW (B:=B) hτ hC hY h;simp only[NP,uq,fI]at h;obtain⟨hn,h⟩:=h;obtain⟨es,hc⟩:=ih _ _ _ _ _ hl' h;exact glue ⟨true,v,sets,accs,news⟩ es ⟨hg,fun _=>hs,hn,fun hh=>by cases hh⟩ hc
  have skip:∀{env:Env} {H:Hp},GOK ops env o false→rX τ md rf CP YP ops.toList l (i+1) (n+idN o.op) (fF env o.dst (.tup [])) H log K→
   ∃es:Nat→Ent,Chain P r B ops es (ajr i (o::l).length) env H (K' (lM es (ajr i (o::l).length) log)):=by
   intro env H hg h;obtain⟨es,hc⟩:=ih _ _ _ _ _ hl' h;refine glue ⟨false,.tup [],[],[],[]⟩ es ?_ hc;refine⟨hg,fun hh=>?_,fun k hk=>?_,fun _=>⟨rfl,rfl,rfl,rfl⟩⟩
   ·exact absurd hh (by simp)
   ·exact absurd hk (by simp)
  have lift:∀{env env1:Env} {H:Hp},EqE env env1→(∃es:Nat→Ent,Chain P r B ops es (ajr i (o::l).length) env1 H (K' (lM es (ajr i (o::l).length) log)))→
   ∃es:Nat→Ent,Chain P r B ops es (ajr i (o::l).length) env H (K' (lM es (ajr i (o::l).length) log)):=
   fun he ⟨es,hc⟩=>⟨es,Chain.eqE (hK' _) _ he hc⟩
  split at h
  ·rename_i hg
   exact run (by unfold GOK;rw[hg]) h
  ·rename_i j want hg
   split at h
   ·exact h.elim
   ·rename_i d hd
    rw[Q7,ajo]at hd;have gk:∀{env:Env} {t b:Bool},(aD env d=.bp t∨aD env d=.bool t)→b=(t==want)→GOK ops env o b:=by
     intro env t b h1 h2;unfold GOK;rw[hg];exact⟨d,t,hd,h1.imp id .inl,h2⟩
    split at h
    ·rename_i t ht
     split at h
     ·rename_i hx
      exact run (gk (.inr ht) (by cases t<;>cases want<;>simp_all)) h
     ·rename_i hx
      rw[uq]at h;exact skip (gk (.inr ht) (by cases t<;>cases want<;>simp_all)) h
    ·rename_i t ht
     obtain⟨ha,hb⟩:=h;rw[mZ]at hb;simp only[mZ]at ha;by_cases e:t=want
     ·subst e
      have hq:=EqE.bool ht;refine lift hq (run (gk (t:=t) ?_ (by simp)) (ha rfl))
      have:=hq.2 d;rw[ht]at this;rcases this with this|⟨b,e1,e2⟩
      ·exact .inl this.symm
      ·cases e1;exact .inr e2
     ·have e':t=ajq want:=by cases t<;>cases want<;>simp_all
      have hq:=EqE.bool ht;rw[e']at hq;have hb:=hb e';rw[uq]at hb;refine lift hq (skip (gk (t:=ajq want) ?_ (by cases want<;>rfl)) hb)
      have:=hq.2 d;rw[ht]at this;rcases this with this|⟨b,e1,e2⟩
      ·rw[e']at this;exact .inl this.symm
      ·cases e1;rw[e']at e2;exact .inr e2
    ·rename_i vs ht
     split at h
     ·rw[uq]at h
      refine skip ?_ h;unfold GOK;rw[hg];exact⟨d,!want,hd,.inr (.inr ⟨ht,rfl⟩),by cases want<;>rfl⟩
     ·exact h.elim
    ·exact h.elim
end
def AW (P:Program) (r:Option Nat) (B:Imm→World→Prop) (p:Nat) (c:Code) (Q:Exit→Env→Hp→Prop) (env:Env) (H:Hp):Prop:=
 ∀(S0:Imm) (w0:World) (ι0:Ix) (H0:Hp) (a:Act) (w:World),At B p S0 w0 ι0 H0 env H a w→
  c.wpIn (Fw r) 0 P (fun e a' w'=>∃env' H',Q e env' H'∧At B p S0 w0 ι0 H0 env' H' a' w') a w
section
variable {P:Program} {r:Option Nat} {τ:TypeId→Option TE} {B:Imm→World→Prop} {p:Nat}
theorem At.drawn {S0:Imm} {w0:World} {ι0:Ix} {H0 H:Hp} {env:Env} {a:Act} {w:World} (h:At B p S0 w0 ι0 H0 env H a w) (hB:BOK B):At B p S0 w0 ι0 H0 env H a {w with drawn:=w.drawn+1}:=by
 obtain⟨S,ι,hb,M,R,D,D',T⟩:=h.ex;have hk:Keeps S w S {w with drawn:=w.drawn+1}:=⟨fun b j h=>⟨h,rfl⟩,fun b j h=>h⟩;have hbel:Bel w {w with drawn:=w.drawn+1}:=⟨rfl,rfl,rfl,ahO _,fun _ _=>rfl⟩;refine⟨S,ι,hB _ _ _ _ hk hbel hb,⟨fun k o ho=>(M.obj k o ho).mono hk (.refl _) hbel (fun _ _=>rfl) (fun _=>rfl) rfl (fun _ _ _ h=>h),M.liveO,M.liveT,M.dist,M.imm⟩,R.mono hk (.refl _),⟨D.all,D.nodup⟩,D',
  T.trans ⟨hbel,fun _ _ _=>rfl,hk,fun _ _ _ h=>.inl h,fun _ h=>.inl h,fun _ _ _ h=>h,fun _ _ b n h=>⟨b,n,h,.inl ⟨rfl,ahO _⟩⟩⟩⟩
theorem AW.eqE {c:Code} {Q:Exit→Env→Hp→Prop} {env env1:Env} {H:Hp} (h:EqE env env1) (ha:AW P r B p c Q env1 H):AW P r B p c Q env H:=by
 intro S0 w0 ι0 H0 a w hA;obtain⟨S,ι,hb,M,R,D,D',T⟩:=hA.ex;exact ha S0 w0 ι0 H0 a w ⟨S,ι,hb,M,h.rep R,D,D',T⟩
theorem AW.mono {c:Code} {Q Q':Exit→Env→Hp→Prop} {env:Env} {H:Hp} (h:AW P r B p c Q env H) (hq:∀e env H,Q e env H→Q' e env H):AW P r B p c Q' env H:=by
 intro S0 w0 ι0 H0 a w hA;refine wpIn_mono (h S0 w0 ι0 H0 a w hA) ?_
 rintro e a w ⟨env',H',q,hA⟩
 exact⟨env',H',hq _ _ _ q,hA⟩
def AK (P:Program) (B:Imm→World→Prop) (p:Nat) (Q:Env→Hp→Prop) (env:Env) (H:Hp):Prop:=
 ∀(S0:Imm) (w0:World) (ι0:Ix) (H0:Hp) (a:Act) (w:World),At B p S0 w0 ι0 H0 env H a w→∃env' H',Q env' H'∧At B p S0 w0 ι0 H0 env' H' a w
theorem AK.of {Q:Env→Hp→Prop} {env:Env} {H:Hp} (h:Q env H):AK P B p Q env H:=fun S0 w0 ι0 H0 a w hA=>⟨env,H,h,hA⟩
theorem AK.eqE {Q:Env→Hp→Prop} {env env1:Env} {H:Hp} (h:EqE env env1) (ha:AK P B p Q env1 H):AK P B p Q env H:=by
 intro S0 w0 ι0 H0 a w hA;obtain⟨S,ι,hb,M,R,D,D',T⟩:=hA.ex;exact ha S0 w0 ι0 H0 a w ⟨S,ι,hb,M,h.rep R,D,D',T⟩
theorem Cy (hB:BOK B) (hτ:aY P τ) {md rf CP YP} (hC:jU P B CP) (hY:kS P r B YP) {id:Nat} {ops:Array Oper} {K:Env→Hp→Nat→List Lg→Prop} {Q:Exit→Env→Hp→Prop} {n:Nat} {env:Env} {H:Hp}
 (hK:∀env H n log,K env H n log→Q .normal env H) (h:rX τ md rf CP YP ops.toList ops.toList 0 n env H [] K):AW P r B p (.region id ops false) Q env H:=by
 intro S0 w0 ι0 H0 a w hA;obtain⟨es,hc⟩:=AJ (K':=fun _ env H=>AK P B p (Q .normal) env H) hτ hC hY (fun env H n log h=>AK.of (hK _ _ _ _ h)) (fun log env env1 H he h=>AK.eqE he h) ops.toList 0 n env H [] rfl h;refine wpIn_region ?_;rw[ajs,←ais];exact NJ hB (fun env H a w hk hA=>by obtain⟨env',H',q,hA'⟩:=hk S0 w0 ι0 H0 a w hA;exact⟨env',H',q,hA'⟩) _ _ _ a w hc hA
theorem ET (hB:BOK B) (hm:P.follows .mixedOrders=true) (hτ:aY P τ) {md rf CP YP} (hC:jU P B CP) (hY:kS P r B YP) {id:Nat} {ops:Array Oper} {K:Env→Hp→Nat→List Lg→Prop} {Q:Exit→Env→Hp→Prop} {n:Nat} {env:Env} {H:Hp}
 (hok:xP ops=true) (hK:∀env H n log,K env H n log→Q .normal env H) (h:rX τ md rf CP YP ops.toList ops.toList 0 n env H [] fun env H n log=>ifK (mF (masks ops.toList []) log) (K env H n log)):AW P r B p (.region id ops true) Q env H:=by
 intro S0 w0 ι0 H0 a w hA;obtain⟨es,hc⟩:=AJ (K':=fun log env H=>mF (masks ops.toList []) log=true∧AK P B p (Q .normal) env H) hτ hC hY (fun env H n log h=>by rw[aL]at h;exact⟨h.1,AK.of (hK _ _ _ _ h.2)⟩) (fun log env env1 H he h=>⟨h.1,AK.eqE he h.2⟩) ops.toList 0 n env H [] rfl h
 have hd:=Chain.fact (fun _ _ h=>h.1) _ hc;have hc':=Chain.imp (K':=AK P B p (Q .normal)) (fun _ _ h=>h.2) _ hc;rw[←ajs,ais]at hd hc';refine wpIn_region_any hm ?_;refine QZ hB (K:=AK P B p (Q .normal)) (fun env H a w hk hA=>by obtain⟨env',H',q,hA'⟩:=hk S0 w0 ι0 H0 a w hA;exact⟨env',H',q,hA'⟩) (fun j o e ho he hb=>NM hok j o e ho he hb)
  (fun i j op oj hij hi hj hb=>⟨J8 hok hij hi hj hb,Q5 hd hij ((ahI.1 hj).1) hb⟩) _ _ (ahX ops.size) env H a _ ?_ ?_ (by simp) ?_ (by simp) hc' (hA.drawn hB)
 ·exact List.pairwise_lt_range
 ·intro i
  rw[List.mem_range,ahW,ajt];by_cases e:i<ops.size
  ·simp[e]
  ·simp[e]
 ·intro i j _ hj
  rw[ahW,ajt]at hj;by_cases e:j<ops.size
  ·simp[e]at hj
  ·simp[e]at hj
theorem acL {x y:Code} {Q:Exit→Env→Hp→Prop} {env:Env} {H:Hp} (h:AW P r B p x (fun e env H=>match e with|.normal=>AW P r B p y Q env H|e=>Q e env H) env H):AW P r B p (.seq x y) Q env H:=by
 intro S0 w0 ι0 H0 a w hA;refine wpIn_seq (wpIn_mono (h S0 w0 ι0 H0 a w hA) ?_)
 rintro e a w ⟨env',H',q,hA⟩
 cases e with
 |normal=>exact q S0 w0 ι0 H0 a w hA
 |_=>exact⟨env',H',q,hA⟩
theorem xQ {c:Operand} {x y:Code} {t:Bool} {Q:Exit→Env→Hp→Prop} {env:Env} {H:Hp} (hc:eo env c=.bool t∨eo env c=.bp t) (h:AW P r B p (if t then x else y) Q env H):AW P r B p (.cond c x y) Q env H:=by
 intro S0 w0 ι0 H0 a w hA;obtain⟨S,ι,hb,M,R,D,D',T⟩:=hA.ex;refine wpIn_cond (t:=t) ?_ (h S0 w0 ι0 H0 a w hA);have:=pQ R c (fun g e=>by subst e;simp only[eo]at hc;cases hg:xK g<;>rw[hg]at hc<;>rcases hc with hc|hc<;>cases hc)
 rcases hc with hc|hc<;>rw[hc]at this<;>generalize a.eval c=v at this<;>cases this<;>rfl
theorem UJ {id:Nat} {c:Code} {Q:Exit→Env→Hp→Prop} {env:Env} {H:Hp} (h:AW P r B p c (fun e env H=>match e with|.exit i=>(match ah6 i id with|true=>Q .normal env H|false=>Q (.exit i) env H)|e=>Q e env H) env H):AW P r B p (.block id c) Q env H:=by
 intro S0 w0 ι0 H0 a w hA;refine wpIn_block (wpIn_mono (h S0 w0 ι0 H0 a w hA) ?_)
 rintro e a w ⟨env',H',q,hA⟩
 cases e with
 |exit i=>
  simp only[Exit.inBlock]at q⊢;cases hb:ah6 i id with
  |true=>rw[hb]at q;rw[if_pos (aib hb)];exact⟨env',H',q,hA⟩
  |false=>rw[hb]at q;rw[if_neg (ajl hb)];exact⟨env',H',q,hA⟩
 |_=>exact⟨env',H',q,hA⟩
theorem jI {P:Program} {b:Frame} {a:Act} {k:List Item} {cs:List Frame} {w:World} {c:Code}:step P (lone (b.atR a (.code (.scope c)::k)) cs w)=.next (lone (b.atR a (.code c:: .inScope c::k)) cs w):=
 step_lone_go (by simp[stepG,stepG.exec,Frame.atR])
theorem EU {P:Program} {b:Frame} {a:Act} {k:List Item} {cs:List Frame} {w:World} {c:Code}:step P (lone (b.atR a (.inScope c::k)) cs w)=.next (lone (b.atR a k) cs w):=
 step_lone_go (by simp[stepG,stepG.exec,Frame.atR])
theorem NR {F:Fence} {n:Nat} {P:Program} {c:Code} {Q:Exit→Act→World→Prop} {a:Act} {w:World} (h:c.wpIn F n P (fun e a w=>(∀l,e≠ .goto l)∧Q e a w) a w):(Code.scope c).wpIn F n P Q a w:=by
 intro b k cs hro hb hr;have h0:(lone (b.atR a (.code (.scope c)::k)) cs w).fenced P F:=fenced_calm hb hr rfl;obtain⟨e,a₁,w₁,hq,harr⟩:=h b (.inScope c::k) cs hro hb hr;cases e with
 |normal=>exact⟨.normal,a₁,w₁,hq.2,.head h0 jI (StepsIn.trans harr (.one (fenced_calm hb hr rfl) EU))⟩
 |exit id'=>
  have hx:exitTo id' (.inScope c::k)=exitTo id' k:=by simp[exitTo]
  exact⟨.exit id',a₁,w₁,hq.2,fun k' hk=>.head h0 jI (harr.1 k' (by rw[hx];exact hk)),
   fun hr' hk=>let⟨k₁,h1,h2⟩:=harr.2 hr' (by rw[hx];exact hk);⟨k₁,h1,.head h0 jI h2⟩⟩
 |goto l=>exact(hq.1 l rfl).elim
 |ret=>exact⟨_,a₁,w₁,hq.2,.of_steps (.one h0 jI) harr⟩
 |panic ch=>exact⟨_,a₁,w₁,hq.2,.of_steps (.one h0 jI) harr⟩
 |outgrown=>exact⟨_,a₁,w₁,hq.2,.of_steps (.one h0 jI) harr⟩
theorem UK {c:Code} {Q:Exit→Env→Hp→Prop} {env:Env} {H:Hp} (h:AW P r B p c (fun e env H=>match e with|.goto _=>False|e=>Q e env H) env H):AW P r B p (.scope c) Q env H:=by
 intro S0 w0 ι0 H0 a w hA;refine NR (wpIn_mono (h S0 w0 ι0 H0 a w hA) ?_)
 rintro e a w ⟨env',H',q,hA⟩
 cases e with
 |goto l=>exact q.elim
 |_=>exact⟨fun l e=>(by cases e),env',H',q,hA⟩
theorem UL {l:Nat} {Q:Exit→Env→Hp→Prop} {env:Env} {H:Hp} (h:Q .normal env H):AW P r B p (.label l) Q env H:=fun S0 w0 ι0 H0 a w hA=>wpIn_label ⟨env,H,h,hA⟩
theorem Zf {Q:Exit→Env→Hp→Prop} {env:Env} {H:Hp} (h:Q .normal env H):AW P r B p .skip Q env H:=fun S0 w0 ι0 H0 a w hA=>wpIn_skip ⟨env,H,h,hA⟩
theorem Zg {id:Nat} {Q:Exit→Env→Hp→Prop} {env:Env} {H:Hp} (h:Q (.exit id) env H):AW P r B p (.exit id) Q env H:=fun S0 w0 ι0 H0 a w hA=>wpIn_exit ⟨env,H,h,hA⟩
theorem acM {Q:Exit→Env→Hp→Prop} {env:Env} {H:Hp} (h:Q .ret env H):AW P r B p .ret Q env H:=fun S0 w0 ι0 H0 a w hA=>wpIn_ret ⟨env,H,h,hA⟩
def Sub (B:Imm→World→Prop) (p:Nat) (env:Env) (H:Hp) (env1:Env) (H1:Hp):Prop:=
 ∀(S0:Imm) (w0:World) (ι0:Ix) (H0:Hp) (a:Act) (w:World),At B p S0 w0 ι0 H0 env H a w→At B p S0 w0 ι0 H0 env1 H1 a w
theorem EW {F:Fence} {n:Nat} {c:Code} {Q:Exit→Act→World→Prop}:∀(m m':Nat),m≤m'→∀(a:Act) (w:World),Code.roundsIn F n P c Q m a w→Code.roundsIn F n P c Q m' a w:=by
 intro m;induction m with
 |zero=>intro m' _ a w h;exact h.elim
 |succ m ih=>
  intro m' hm a w h;obtain⟨k,rfl⟩:∃k,m'=k+1:=⟨m'-1,by omega⟩
  rw[roundsIn_succ]at h⊢;refine wpIn_mono h fun e a w he=>?_;cases e with
  |normal=>exact ih k (by omega) a w he
  |_=>exact he
theorem Cz {X:Type} (st:X→Env × Hp) (μ:X→Nat) {c:Code} {Q:Exit→Env→Hp→Prop} {env:Env} {H:Hp} (x0:X) (h0:Sub B p env H (st x0).1 (st x0).2)
 (hb:∀x,AW P r B p c (fun e env H=>match e with|.normal=>∃x',μ x'<μ x∧Sub B p env H (st x').1 (st x').2|e=>Q e env H) (st x).1 (st x).2):AW P r B p (.loop c) Q env H:=by
 intro S0 w0 ι0 H0 a w hA;have key:∀m x,μ x=m→∀a w,At B p S0 w0 ι0 H0 (st x).1 (st x).2 a w→Code.roundsIn (Fw r) 0 P c (fun e a' w'=>∃env' H',Q e env' H'∧At B p S0 w0 ι0 H0 env' H' a' w') (m+1) a w:=by
  intro m;induction m using Nat.strongRecOn with
  |_ m ih=>
   intro x hx a w hA;rw[roundsIn_succ];refine wpIn_mono (hb x S0 w0 ι0 H0 a w hA) ?_
   rintro e a' w' ⟨env',H',q,hA'⟩
   cases e with
   |normal=>
    obtain⟨x',hlt,hs⟩:=q;exact EW (μ x'+1) m (by omega) _ _ (ih (μ x') (by omega) x' rfl a' w' (hs _ _ _ _ _ _ hA'))
   |_=>exact⟨env',H',q,hA'⟩
 exact wpIn_loop_rounds _ (key _ x0 rfl a w (h0 _ _ _ _ _ _ hA))
end
def pR (l:List Nat) (K:List Nat→Prop):Prop:=
 match l with
 | []=>K []
 |x::xs=>pR xs fun ys=>K (x::ys)
theorem pE (l:List Nat):∀K,pR l K=K l:=by
 induction l with
 |nil=>intro K;rfl
 |cons x xs ih=>intro K;simp only[pR,ih]
def wu:List Oper→List Nat→(List Nat→Prop)→Prop
 | [],acc,K=>K acc
 |o::r,acc,K=>iL (rz acc o.after.toList) fun m=>pR (acc++[m]) fun acc=>wu r acc K
theorem Q8 (l:List Oper):∀acc K,wu l acc K=K (masks l acc):=by
 induction l with
 |nil=>intro acc K;rfl
 |cons o r ih=>intro acc K;simp only[wu,masks,iM,pE,ih]
structure Lp (md:Nat) (rf:List Nat) (CP:CPT) (YP:YPT) (n:Nat) (q:Prop):Prop where
 get:q
def jl:Code→Nat
 |.region _ ops _=>acK ops.toList
 |.seq a b=>jl a+jl b
 |.cond _ a b=>jl a+jl b
 |.block _ c=>jl c
 |.loop c=>jl c
 |.rangeFunc _ _ a b=>jl a+jl b
 |.scope c=>jl c
 |_=>0
def dL:Code→Bool
 |.region _ ops d=>match d with|true=>xP ops|false=>true
 |.seq a b=>dL a&&dL b
 |.cond _ a b=>dL a&&dL b
 |.block _ c=>dL c
 |.loop c=>dL c
 |.rangeFunc _ _ a b=>dL a&&dL b
 |.scope c=>dL c
 |_=>true
def NS (x:PV) (c:Operand) (env:Env) (A B:Env→Prop):Prop:=
 match x with
 |.bool t=>match t with
  |true=>A env
  |false=>B env
 |.bp t=>(t=true→match c with|.tmp d=>rU env d (.bool true) A|_=>A env)∧
  (t=false→match c with|.tmp d=>rU env d (.bool false) B|_=>B env)
 |_=>False
section
variable (P:Program) (r:Option Nat) (B:Imm→World→Prop) (p:Nat) (τ:TypeId→Option TE) (md:Nat) (rf:List Nat) (CP:CPT) (YP:YPT)
noncomputable def ev (c:Code):Nat→Env→Hp→(Exit→Env→Hp→Nat→Prop)→Prop:=
 Code.rec (motive:=fun _=>Nat→Env→Hp→(Exit→Env→Hp→Nat→Prop)→Prop)
  (fun n env H K=>K .normal env H n)
  (fun id ops d n env H K=>match d with
   |true=>wu ops.toList [] fun ms=>rX τ md rf CP YP ops.toList ops.toList 0 n env H [] fun env H n log=>ifK (mF ms log) (K .normal env H n)
   |false=>rX τ md rf CP YP ops.toList ops.toList 0 n env H [] fun env H n log=>K .normal env H n)
  (fun a b iha ihb n env H K=>iha n env H fun e env H n=>match e with|.normal=>ihb n env H K|e=>K e env H n)
  (fun c a b iha ihb n env H K=>NS (eo env c) c env (fun env=>iha n env H K) (fun env=>ihb n env H K))
  (fun id c ih n env H K=>ih n env H fun e env H n=>match e with
   |.exit i=>(match ah6 i id with|true=>K .normal env H n|false=>K (.exit i) env H n)
   |e=>K e env H n)
  (fun c _ n env H K=>iL (n+jl c) fun n'=>Lp md rf CP YP n (AW P r B p (.loop c) (fun e env H=>K e env H n') env H))
  (fun g ps x y _ _ n env H K=>iL (n+jl x+jl y+4) fun n'=>Lp md rf CP YP n (AW P r B p (.rangeFunc g ps x y) (fun e env H=>K e env H n') env H))
  (fun id n env H K=>K (.exit id) env H n)
  (fun _ ih n env H K=>ih n env H fun e env H n=>match e with|.goto _=>False|e=>K e env H n)
  (fun _ n env H K=>K .normal env H n)
  (fun _ _ _ _ _=>False)
  (fun n env H K=>K .ret env H n)
  (fun _ _ _ _ _=>False) c
end
theorem iB {P:Program} {r:Option Nat} {τ:TypeId→Option TE} {B:Imm→World→Prop} {p:Nat} (hB:BOK B) (hm:P.follows .mixedOrders=true) (hτ:aY P τ) {md rf CP YP} (hC:jU P B CP) (hY:kS P r B YP):
 ∀(c:Code) (hok:dL c=true) (n:Nat) (env:Env) (H:Hp) (K:Exit→Env→Hp→Nat→Prop),ev P r B p τ md rf CP YP c n env H K→AW P r B p c (fun e env H=>∃n,K e env H n) env H:=by
 intro c;induction c with
 |skip=>intro _ n env H K h;exact Zf ⟨n,h⟩
 |exit id=>intro _ n env H K h;exact Zg ⟨n,h⟩
 |ret=>intro _ n env H K h;exact acM ⟨n,h⟩
 |region id ops d=>
  intro hok n env H K h;cases d with
  |true=>
   have h:wu ops.toList [] fun ms=>rX τ md rf CP YP ops.toList ops.toList 0 n env H [] fun env H n log=>ifK (mF ms log) (K .normal env H n):=h;rw[Q8]at h;exact ET hB hm hτ hC hY hok (K:=fun env H n log=>K .normal env H n) (fun env H n log h=>⟨n,h⟩) h
  |false=>exact Cy hB hτ hC hY (K:=fun env H n log=>K .normal env H n) (fun env H n log h=>⟨n,h⟩) h
 |seq a b iha ihb=>
  intro hok n env H K h;simp only[dL,aia]at hok;refine acL ((iha hok.1 n env H _ h).mono ?_)
  rintro e env H ⟨n,h⟩
  cases e with
  |normal=>exact ihb hok.2 n env H K h
  |_=>exact⟨n,h⟩
 |cond c a b iha ihb=>
  intro hok n env H K h;simp only[dL,aia]at hok;have h:NS (eo env c) c env (fun env=>ev P r B p τ md rf CP YP a n env H K) (fun env=>ev P r B p τ md rf CP YP b n env H K):=h;unfold NS at h;split at h
  ·rename_i t hc
   split at h
   ·exact xQ (t:=true) (.inl hc) (iha hok.1 n env H K h)
   ·exact xQ (t:=false) (.inl hc) (ihb hok.2 n env H K h)
  ·rename_i t hc
   cases t with
   |true=>
    have h1:=h.1 rfl;refine xQ (t:=true) (.inr hc) ?_;simp only[if_true];split at h1
    ·rename_i d
     rw[mZ]at h1;exact(iha hok.1 n _ H K h1).eqE (EqE.bool hc)
    ·exact iha hok.1 n _ H K h1
   |false=>
    have h1:=h.2 rfl;refine xQ (t:=false) (.inr hc) ?_;simp only[aiF,if_false];split at h1
    ·rename_i d
     rw[mZ]at h1;exact(ihb hok.2 n _ H K h1).eqE (EqE.bool hc)
    ·exact ihb hok.2 n _ H K h1
  ·exact h.elim
 |block id c ih=>
  intro hok n env H K h;refine UJ ((ih hok n env H _ h).mono ?_)
  rintro e env H ⟨n,h⟩
  cases e with
  |exit i=>
   simp only at h⊢;cases hb:ah6 i id<;>rw[hb]at h<;>exact⟨n,h⟩
  |_=>exact⟨n,h⟩
 |loop c ih=>
  intro hok n env H K h;have h:iL (n+jl c) fun n'=>Lp md rf CP YP n (AW P r B p (.loop c) (fun e env H=>K e env H n') env H):=h;rw[iM]at h;exact h.get.mono fun e env H h=>⟨_,h⟩
 |rangeFunc g ps x y _ _=>
  intro hok n env H K h;have h:iL (n+jl x+jl y+4) fun n'=>Lp md rf CP YP n (AW P r B p (.rangeFunc g ps x y) (fun e env H=>K e env H n') env H):=h;rw[iM]at h;exact h.get.mono fun e env H h=>⟨_,h⟩
 |scope c ih=>
  intro hok n env H K h;refine UK ((ih hok n env H _ h).mono ?_)
  rintro e env H ⟨n,h⟩
  cases e with
  |goto l=>exact h.elim
  |_=>exact⟨n,h⟩
 |label l=>intro _ n env H K h;exact UL ⟨n,h⟩
 |_=>intro _ n env H K h;exact h.elim
def uw:PV→Option PV
 |.agg cs=>match mg cs with|some ds=>some (.agg ds)|none=>none
 |.any=>some .any
 |p=>fu p
def jE:List PV→Option (List PV)
 | []=>some []
 |x::xs=>match uw x with
  |some y=>match jE xs with
   |some ys=>some (y::ys)
   |none=>none
  |none=>none
theorem rY {p q:PV} (h:uw p=some q) {S:Imm} {w:World} {ι:Ix} {v:Value} (hr:Rep S w ι p v):Rep S w noI q v:=by
 unfold uw at h;split at h
 ·rename_i cs
  split at h
  ·rename_i ds hds
   cases h
   obtain⟨h1,h2⟩:=kZ hds;cases hr with
   |agg _ _ vs hl hh=>exact .agg _ _ _ (h1.trans hl) (fun i hi=>h2 i (by omega) (hh i (by omega)))
  ·cases h
 ·cases h;exact .any _ _
 ·exact gu h hr
theorem iP:∀{ps qs:List PV},jE ps=some qs→qs.length=ps.length∧∀i,i<ps.length→∀{S:Imm} {w:World} {ι:Ix} {v:Value},Rep S w ι (aD ps i) v→Rep S w noI (aD qs i) v:=by
 intro ps;induction ps with
 |nil=>intro qs h;simp[jE]at h;subst h;exact⟨rfl,fun i hi=>by simp at hi⟩
 |cons p ps ih=>
  intro qs h;unfold jE at h;split at h
  ·rename_i y hy
   split at h
   ·rename_i ys hys
    cases h
    obtain⟨h1,h2⟩:=ih hys;refine⟨by simp[h1],fun i hi=>?_⟩
    cases i with
    |zero=>intro S w ι v hr;exact rY hy hr
    |succ i=>exact h2 i (by simpa using hi)
   ·cases h
  ·cases h
def NT (v:PV) (H:Hp) (K:PV→Hp→Prop):Prop:=
 match v with
 |.rsl k off n=>bU H k fun o=>match o with
  |.cells c fz=>qp c fun d=>nC d fun ce=>iK d fun cn=>match ah6 off 0 with
   |true=>n≤cn∧(match fz with
    |true=>K (.isl (d.sub 0 n) .none) H
    |false=>oZ H k (.cells d true) fun H=>K (.isl (d.sub 0 n) .none) H)
   |false=>False
  |_=>False
 |v=>match uw v with
  |some v=>bM v fun v=>K v H
  |none=>False
def NU:List PV→Hp→(List PV→Hp→Prop)→Prop
 | [],H,K=>K [] H
 |v::vs,H,K=>NT v H fun u H=>NU vs H fun us H=>K (u::us) H
def NV (v:PV) (H:Hp) (K:PV→Hp→Prop):Prop:=
 match v with
 |.agg vs=>NU vs H fun us H=>K (.agg us) H
 |v=>NT v H K
def wz:List PV→Hp→(List PV→Hp→Prop)→Prop
 | [],H,K=>K [] H
 |v::vs,H,K=>NV v H fun u H=>wz vs H fun us H=>K (u::us) H
section
variable {P:Program} {τ:TypeId→Option TE} {B:Imm→World→Prop} {p:Nat}
def Frz (P:Program) (H H':Hp) (R R':Imm→World→Ix→Prop):Prop:=
 ∀{S:Imm} {w:World} {ι:Ix},Mem S w ι H→R S w ι→∃S',Mem S' w ι H'∧Keeps S w S' w∧(∀p,Tr p S w ι H S' w ι H')∧R' S' w ι
theorem AL {v:PV} {H:Hp} {K:PV→Hp→Prop} (h:NT v H K):∃u H',K u H'∧∀val,Frz P H H' (fun S w ι=>Rep S w ι v val) (fun S w ι=>Rep S w noI u val):=by
 unfold NT at h;split at h
 ·rename_i k off n
  rw[aX]at h;obtain⟨ob,hob,h⟩:=h;split at h
  ·rename_i c fz
   have h':=jX h;clear h;obtain⟨d,h,d1,d2,d3⟩:=h';simp only[gM,dZ]at h;split at h
   ·rename_i hoff
    have hoff:=aib hoff;subst hoff;obtain⟨hn,h⟩:=h;have fin:∀{S:Imm} {w:World} {ι:Ix} {c:CL} {val:Value},n≤c.cnt→(∀b,ι.o k=some b→∀j,j<c.ncell→S b j∧Rep S w noI (c.get j) (rdv w b j))→Rep S w ι (.rsl k 0 n) val→Rep S w noI (.isl (c.sub 0 n) .none) val:=by
     intro S w ι c val hn hs hr;cases hr with
     |rsl _ _ _ _ b cap hk hc _=>
      have:=nH (S:=S) (w:=w) (c:=c) (b:=b) (off:=0) (fun j hj=>by rw[aic];exact(hs b hk j hj).1) (fun j hj=>by rw[aic];exact(hs b hk j hj).2) (x:=0) (y:=n) (by omega) hn (cap:=cap) (by omega) noI
      simpa using this
     |rslz _ _ _ b o hk=>
      exact iY _ (by rw[iO _ (by omega)]) (.inr ⟨b,o,rfl⟩) noI
    split at h
    ·refine⟨_,_,h,fun val S w ι M hr=>⟨S,M,.refl _ _,fun p=>.refl _ _ _ _ _,?_⟩⟩
     exact fin hn (fun b hb j hj=>⟨(M.frozen hob hb j (by omega)).1,d3 j (by omega) (M.frozen hob hb j (by omega)).2⟩) hr
    ·rw[yV]at h
     refine⟨_,_,h,fun val S w ι M hr=>?_⟩;obtain⟨S',M',K',T,F⟩:=M.freeze (c':=d) hob d2 (fun j hj=>by intro S w ι v hr;exact d3 j hj hr)
     exact⟨S',M',K',T,fin hn (fun b hb=>F b hb) (hr.mono K' _ (.refl _))⟩
   ·exact h.elim
  ·exact h.elim
 ·split at h
  ·rename_i u hu
   rw[bH]at h;exact⟨u,H,h,fun val S w ι M hr=>⟨S,M,.refl _ _,fun p=>.refl _ _ _ _ _,rY hu hr⟩⟩
  ·exact h.elim
theorem J9:∀(vs:List PV) {H:Hp} {K:List PV→Hp→Prop},NU vs H K→∃us H',K us H'∧us.length=vs.length∧
 ∀(val:Nat→Value),Frz P H H' (fun S w ι=>∀i,i<vs.length→Rep S w ι (aD vs i) (val i)) (fun S w ι=>∀i,i<us.length→Rep S w noI (aD us i) (val i)):=by
 intro vs;induction vs with
 |nil=>intro H K h;exact⟨_,_,h,rfl,fun val S w ι M hr=>⟨S,M,.refl _ _,fun p=>.refl _ _ _ _ _,fun i hi=>by simp at hi⟩⟩
 |cons v vs ih=>
  intro H K h;obtain⟨u,H1,h,h1⟩:=AL (P:=P) h;obtain⟨us,H2,h,hl,h2⟩:=ih h;refine⟨_,_,h,by simp[hl],fun val S w ι M hr=>?_⟩
  obtain⟨S1,M1,K1,T1,R1⟩:=h1 (val 0) M (hr 0 (by simp))
  obtain⟨S2,M2,K2,T2,R2⟩:=h2 (fun i=>val (i+1)) M1 (fun i hi=>by have:=(hr (i+1) (by simpa using hi)).mono K1 _ (.refl _);simpa [aD]using this)
  refine⟨S2,M2,K1.trans K2,fun p=>(T1 p).trans (T2 p),fun i hi=>?_⟩;cases i with
  |zero=>exact R1.mono K2 _ (.refl _)
  |succ i=>simpa [aD]using R2 i (by simpa using hi)
theorem Kc {v:PV} {H:Hp} {K:PV→Hp→Prop} (h:NV v H K):∃u H',K u H'∧∀val,Frz P H H' (fun S w ι=>Rep S w ι v val) (fun S w ι=>Rep S w noI u val):=by
 unfold NV at h;split at h
 ·rename_i vs
  obtain⟨us,H',h,hl,hs⟩:=J9 (P:=P) _ h;refine⟨_,_,h,fun val S w ι M hr=>?_⟩;cases hr with
  |agg _ _ ws hw hh=>
   obtain⟨S',M',K',T',R'⟩:=hs (fun i=>ws.getD i undef) M hh;exact⟨S',M',K',T',.agg _ _ _ (hl.trans hw) R'⟩
 ·exact AL h
theorem Gy:∀(vs:List PV) {H:Hp} {K:List PV→Hp→Prop},wz vs H K→∃us H',K us H'∧us.length=vs.length∧
 ∀(val:Nat→Value),Frz P H H' (fun S w ι=>∀i,i<vs.length→Rep S w ι (aD vs i) (val i)) (fun S w ι=>∀i,i<us.length→Rep S w noI (aD us i) (val i)):=by
 intro vs;induction vs with
 |nil=>intro H K h;exact⟨_,_,h,rfl,fun val S w ι M hr=>⟨S,M,.refl _ _,fun p=>.refl _ _ _ _ _,fun i hi=>by simp at hi⟩⟩
 |cons v vs ih=>
  intro H K h;obtain⟨u,H1,h,h1⟩:=Kc (P:=P) h;obtain⟨us,H2,h,hl,h2⟩:=ih h;refine⟨_,_,h,by simp[hl],fun val S w ι M hr=>?_⟩
  obtain⟨S1,M1,K1,T1,R1⟩:=h1 (val 0) M (hr 0 (by simp))
  obtain⟨S2,M2,K2,T2,R2⟩:=h2 (fun i=>val (i+1)) M1 (fun i hi=>by have:=(hr (i+1) (by simpa using hi)).mono K1 _ (.refl _);simpa [aD]using this)
  refine⟨S2,M2,K1.trans K2,fun p=>(T1 p).trans (T2 p),fun i hi=>?_⟩;cases i with
  |zero=>exact R1.mono K2 _ (.refl _)
  |succ i=>simpa [aD]using R2 i (by simpa using hi)
end
def lN (τ:TypeId→Option TE):List ResultVar→Env→Hp→(List PV→Prop)→Prop
 | [],env,H,K=>K []
 |r::rs,env,H,K=>match r with
  |.tmp t=>bM (aD env t) fun v=>lN τ rs env H fun vs=>K (v::vs)
  |.cell a ty=>teK τ ty fun te=>match aD env a with
   |.rp k off=>bU H k fun o=>match o with
    |.cells c _=>rdK te c off fun v=>lN τ rs env H fun vs=>K (v::vs)
    |_=>False
   |.ip c off=>rdK te c off fun v=>lN τ rs env H fun vs=>K (v::vs)
   |_=>False
def bI (vs:List PV):PV:=match vs with| [v]=>v|vs=>.tup vs
section
variable {P:Program} {τ:TypeId→Option TE}
theorem uy (hτ:aY P τ) {env:Env} {H:Hp}:∀(rs:List ResultVar) {K:List PV→Prop},lN τ rs env H K→∃vs,K vs∧∀{S:Imm} {w:World} {ι:Ix} {tmps:Array Value},Mem S w ι H→bF S w ι env tmps→
 ∃vals:List Value,(rs.mapM fun(x:ResultVar)=>(match x with|.tmp t=>pure (tmps.getD t undef)|.cell a t=>do loadVar t (←asAddr (tmps.getD a undef)):Sem Value)).run P w=.ok vals w∧vals.length=vs.length∧
  ∀i,i<vs.length→Rep S w ι (aD vs i) (vals.getD i undef):=by
 intro rs;induction rs with
 |nil=>intro K h;exact⟨_,h,fun M R=>⟨[],rfl,rfl,fun i hi=>by simp at hi⟩⟩
 |cons x rs ih=>
  intro K h;have cons:∀{v:PV} {K:List PV→Prop},(lN τ rs env H fun vs=>K (v::vs))→
   (∀{S:Imm} {w:World} {ι:Ix} {tmps:Array Value},Mem S w ι H→bF S w ι env tmps→∃val,((match x with|.tmp t=>pure (tmps.getD t undef)|.cell a t=>do loadVar t (←asAddr (tmps.getD a undef)):Sem Value)).run P w=.ok val w∧Rep S w ι v val)→
   ∃vs,K vs∧∀{S:Imm} {w:World} {ι:Ix} {tmps:Array Value},Mem S w ι H→bF S w ι env tmps→
    ∃vals:List Value,((x::rs).mapM fun(x:ResultVar)=>(match x with|.tmp t=>pure (tmps.getD t undef)|.cell a t=>do loadVar t (←asAddr (tmps.getD a undef)):Sem Value)).run P w=.ok vals w∧vals.length=vs.length∧
     ∀i,i<vs.length→Rep S w ι (aD vs i) (vals.getD i undef):=by
   intro v K h hx;obtain⟨vs,hK,hs⟩:=ih h;refine⟨_,hK,fun M R=>?_⟩;rename_i S w ι tmps;obtain⟨val,r1,r2⟩:=hx M R;obtain⟨vals,q1,q2,q3⟩:=hs M R;refine⟨val::vals,?_,by simp[q2],fun i hi=>?_⟩
   ·rw[List.mapM_cons,Sem.run_bind,r1]
    simp only[Result.andThen,Sem.run_bind,q1,Sem.run_pure]
   ·cases i with
    |zero=>simpa [aD]using r2
    |succ i=>simpa [aD]using q3 i (by simpa using hi)
  unfold lN at h;split at h
  ·rename_i t
   rw[bH]at h;refine cons h fun M R=>⟨_,rfl,?_⟩;rename_i S w ι tmps;exact pQ (a:={tmps:=tmps,defers:=[]}) R (.tmp t) (fun g e=>by cases e)
  ·rename_i a ty
   rw[cB]at h;obtain⟨te,ht,h⟩:=h;split at h
   ·rename_i k off hk
    rw[aX]at h;obtain⟨o,ho,h⟩:=h;split at h
    ·obtain⟨v,h,hv⟩:=oo hτ ht h
     refine cons h fun M R=>?_;rename_i S w ι tmps;have h1:=pQ (a:={tmps:=tmps,defers:=[]}) R (.tmp a) (fun g e=>by cases e)
     simp only[eo,Act.eval,hk]at h1;generalize he:tmps.getD a undef=x at h1
     cases h1 with
     |rp _ _ _ b hb=>
      obtain⟨val,r1,r2⟩:=hv (M.lies ho hb);refine⟨val,?_,r2⟩;rw[aic]at r1;simp only[asAddr,he,Sem.run_bind,Sem.run_pure,Result.andThen];exact r1
    ·exact h.elim
   ·rename_i c off hk
    obtain⟨v,h,hv⟩:=oo hτ ht h;refine cons h fun M R=>?_;rename_i S w ι tmps;have h1:=pQ (a:={tmps:=tmps,defers:=[]}) R (.tmp a) (fun g e=>by cases e)
    simp only[eo,Act.eval,hk]at h1;generalize he:tmps.getD a undef=x at h1
    cases h1 with
    |ip _ _ _ b o hs hh=>
     obtain⟨val,r1,r2⟩:=hv (qy.of_imm (ι:=ι) M.imm hs hh);refine⟨val,?_,r2⟩;simp only[asAddr,he,Sem.run_bind,Sem.run_pure,Result.andThen];exact r1
   ·exact h.elim
end
variable {P:Program} {τ:TypeId→Option TE} {B:Imm→World→Prop} {p:Nat}
theorem run_takeDeferred {w:World} {b:Nat} (h:w.heap[b]? =some (.deferred (some []))):(Instr.takeDeferred b).run P w=.ok [] {w with heap:=w.heap.setIfInBounds b (.deferred none)}:=by
 simp[Instr.takeDeferred,getObj,setObj,Sem.run_bind,Sem.run,h,Result.andThen,Sem.bind]
theorem At.leave {S0:Imm} {w0:World} {ι0:Ix} {H0 H:Hp} {env:Env} {tmps:Array Value} {fn:Func} {R:Ending→World→Prop} (hB:BOK B):∀(ds:List Deferred) (w:World),
 At B p S0 w0 ι0 H0 env H {tmps:=tmps,defers:=ds} w→(∀w',At B p S0 w0 ι0 H0 env H {tmps:=tmps,defers:=[]} w'→LeavesIn (Fw none) 0 P fn tmps R [] .returning w')→
  LeavesInM (Fw none) 0 P fn tmps R ds .returning w:=by
 intro ds;induction ds with
 |nil=>intro w hA h;exact h w hA
 |cons d ds ih=>
  intro w hA h;obtain⟨S,ι,hb,M,RA,D,D',T⟩:=hA.ex;obtain⟨b,h1,h2,h3⟩:=D.all d (by simp)
  have hge:=D' d (by simp) b h1
  have hlt:=lt_of_heap h2;have hset:=MapKept.heap_set (o':=.deferred none) h2
  let w':World:={w with heap:=w.heap.setIfInBounds b (.deferred none)}
  have hnS:∀j,¬S b j:=fun j hs=>by have:=M.imm b j hs;rw[iA h2 rfl]at this;simp at this
  have hk:Keeps S w S w':=by
   refine⟨fun b' j hs=>⟨hs,?_⟩,fun b' j hs=>?_⟩
   ·by_cases e:b'=b
    ·subst e;exact absurd hs (hnS j)
    ·exact dh (hset.2 b' e) j
   ·by_cases e:b'=b
    ·subst e;rw[iA h2 rfl]at hs;simp at hs
    ·rw[dh (hset.2 b' e) j];exact hs
  have hbel:Bel w w':=.block b rfl rfl rfl (by simp[w']) hset.2 (by rw[h2];exact gH rfl) (by rw[hset.1];exact gH rfl) (fun _=>by unfold bsz;rw[h2];show(match(w.heap.setIfInBounds b (Obj.deferred none))[b]? with|some (.cells c _ _)=>some c.size|_=>none)=none;rw[hset.1])
  have hne:∀k o b',ay H k=some o→o.has ι k b'→b'≠b:=by
   intro k o b' ho hb' e;subst e;exact h3 ⟨k,o,ho,qz hb',hb'⟩
  refine⟨by simp,.inl ⟨b,w',h1,run_takeDeferred h2,ih w' ⟨S,ι,hB _ _ _ _ hk hbel hb,?_,RA.mono hk (.refl _),?_,fun d' hd'=>D' d' (by simp[hd']),?_⟩ h⟩⟩
  ·exact⟨fun k o ho=>(M.obj k o ho).mono hk (.refl _) hbel (fun b' hb'=>hset.2 b' (hne k o b' ho hb')) (fun _=>rfl) rfl (fun _ _ _ h=>h),M.liveO,M.liveT,M.dist,fun b' j hs=>by rw[(hk.imm b' j hs).2];exact M.imm b' j hs⟩
  ·refine⟨fun d' hd'=>?_,(ajh.1 D.nodup).2⟩
   obtain⟨b',g1,g2,g3⟩:=D.all d' (by simp[hd'])
   have:=(ajh.1 D.nodup).1 d' hd' b b' h1 g1;exact⟨b',g1,(hset.2 b' (Ne.symm this)).trans g2,g3⟩
  ·exact⟨T.below.trans hbel,fun b' hb' ho=>(hset.2 b' (by omega)).trans (T.same b' hb' ho),T.keeps.trans hk,T.immN,T.own,T.protO,T.protT⟩
structure NW (S:Imm) (w:World) (v:PV) (val:Value) (S':Imm) (w':World):Prop where
 imm:∀b j,S' b j→(rd w' b j).isSome
 keeps:Keeps S w S' w'
 rep:Rep S' w' noI v val
 below:Bel w w'
 same:∀b,b<w.heap.size→w'.heap[b]? =w.heap[b]?
 immN:∀b j,b<w.heap.size→S' b j→S b j
def Enters (P:Program) (g:FuncId):Prop:=∀vs w,(callFunc g vs).run P w=.ok (.enter g vs) w
def wB (P:Program) (B:Imm→World→Prop) (g:FuncId) (args:List PV) (v:PV):Prop:=
 ∀(S:Imm) (w:World) (vs:Array Value),B S w→(∀b j,S b j→(rd w b j).isSome)→bF S w noI args vs→
  CallsIn (Fw none) 0 P g vs w fun e w'=>∃val S',e=.returned val∧NW S w v val S' w'
def aF (P:Program) (g:FuncId) (args:List PV) (v:PV):Prop:=Enters P g∧wB P gB g args v
theorem enters {g:FuncId} {fn:Func} (hf:P.funcs[g]? =some fn) (hn:(fn.name== "runtime.NumGoroutine")=false) (hb:fn.body.isNone=false):Enters P g:=by
 intro vs w;have h1:¬fn.name= "runtime.NumGoroutine" :=fun e=>by rw[e]at hn;simp at hn
 have h2:¬fn.body=none:=fun e=>by rw[e]at hb;simp at hb
 simp[callFunc,hf,h1,h2,Result.andThen]
theorem Em {S:Imm} {w:World} {us:List PV} {vals:List Value} (hlen:us.length=vals.length) (h:∀i,i<us.length→Rep S w noI (aD us i) (vals.getD i undef)):
 Rep S w noI (bI us) (if h:vals.toArray.size=1 then vals.toArray[0]else .tuple vals.toArray):=by
 match us,vals,hlen,h with
 | [],[],_,_=>exact .tup _ _ _ rfl (fun i hi=>by simp at hi)
 | [u],[x],_,h=>simpa [bI,aD]using h 0 (by simp)
 |u::u'::us,x::x'::xs,hlen,h=>
  have:¬(x::x'::xs).toArray.size=1:=by simp
  rw[dif_neg this];refine .tup _ _ _ (by simpa using hlen) (fun i hi=>?_)
  have:=h i hi;rw[ahW];simpa using this
theorem zf {S:Imm} {w:World} {ι:Ix} {args:List PV} {vs:Array Value} (h:bF S w ι args vs) (n:Nat):bF S w ι (args++lJ n) (vs++aju n undef):=by
 refine gI h ⟨by simp[y7],fun i hi=>?_⟩
 rw[Gg];exact .any _ _
structure Sup (p q:PV):Prop where
 get:∀{S:Imm} {w:World} {ι:Ix} {v:Value},Rep S w ι p v→Rep S w ι q v
theorem Sup.of {p q:PV} (h:p=q):Sup p q:=⟨fun hr=>h▸hr⟩
structure Fin (q:Prop):Prop where
 get:q
theorem fM {q:Prop} (h:q):Fin q:=⟨h⟩
theorem aI {a b:Prop} (h:a) (g:b):a∧b:=⟨h,g⟩
theorem vw:(∀{α:Type} (a b:α),(if True then a else b)=a)∧(∀{α:Type} (a b:α),(if False then a else b)=b)∧(∀{p:Prop} [Decidable p],(decide p=true)=p)∧(∀{p:Prop} [Decidable p],decide p=false↔¬p)∧(∀b:Bool,(¬b=true)=(b=false))∧(∀b:Bool,(¬b=false)=(b=true))∧(∀b:Bool,((!b)=true)=(b=false))∧(∀b:Bool,((!b)=false)=(b=true))∧((!true)=false)∧((!false)=true):=
 ⟨fun _ _=>rfl,fun _ _=>rfl, @decide_eq_true_eq, @decide_eq_false_iff_not,Bool.not_eq_true,Bool.not_eq_false,Bool.not_eq_true',Bool.not_eq_false',Bool.not_true,Bool.not_false⟩
def acN (τ:TypeId→Option TE) (fn:Func) (v:PV) (e:Exit) (env:Env) (H:Hp):Prop:=
 match e with
 |.normal=>lN τ fn.results.toList env H fun vs=>wz vs H fun us _=>Fin (Sup (bI us) v)
 |.ret=>lN τ fn.results.toList env H fun vs=>wz vs H fun us _=>Fin (Sup (bI us) v)
 |_=>False
theorem Ke (hB:BOK B) (hτ:aY P τ) {g:FuncId} {fn:Func} {c:Code} {args:List PV} {v:PV} (hf:P.funcs[g]? =some fn) (hb:fn.body=some c)
 (h:AW P none B 0 c (acN τ fn v) (args++lJ (fn.ntmps-args.length)) []):wB P B g args v:=by
 intro S w vs hBw himm hr;have M:Mem S w noI []:=⟨fun k o h=>by simp[ay]at h,fun k b h=>by simp[noI]at h,fun k x h=>by simp[noI]at h,fun k k' o o' b h=>by simp[ay]at h,himm⟩
 have hA:At B 0 S w noI [] (args++lJ (fn.ntmps-args.length)) [] {tmps:=vs++aju (fn.ntmps-vs.size) undef,defers:=[]} w:=
  ⟨S,noI,hBw,M,by rw[hr.1];exact zf hr _,.nil _ _ _,fun d hd=>by simp at hd,.refl _ _ _ _ _⟩
 refine callsIn_of_wp_marks hf hb trivial (wpIn_mono (h S w noI [] _ w hA) ?_)
 rintro e ⟨tmps,ds⟩ w1 ⟨env',H',q,hA1⟩
 have fin:(lN τ fn.results.toList env' H' fun vs=>wz vs H' fun us _=>Fin (Sup (bI us) v))→LeavesInM (Fw none) 0 P fn tmps (fun e w'=>∃val S',e=.returned val∧NW S w v val S' w') ds .returning w1:=by
  intro q;refine At.leave hB ds w1 hA1 fun w2 hA2=>?_;obtain⟨S2,ι2,hb2,M2,R2,_,_,T2⟩:=hA2.ex;obtain⟨vs1,q,hs⟩:=uy (P:=P) hτ _ q;obtain⟨us,H3,q,hl,hz⟩:=Gy (P:=P) _ q;obtain⟨vals,r1,r2,r3⟩:=hs M2 R2;obtain⟨S3,M3,K3,T3,R3⟩:=hz (fun i=>vals.getD i undef) M2 r3;have hT:=T2.trans (T3 0);have hno:∀b,¬owned noI [] b:=by rintro b ⟨k,o,h1,_⟩;simp[ay]at h1
  have hrun:(results fn tmps).run P w2=.ok (if h:vals.toArray.size=1 then vals.toArray[0]else .tuple vals.toArray) w2:=by
   unfold results;rw[Sem.run_bind,ajv,←bind_pure_comp,Sem.run_bind];have:(ajw (fun(x:ResultVar)=>(match x with|.tmp t=>pure (tmps.getD t undef)|.cell a t=>do loadVar t (←asAddr (tmps.getD a undef)):Sem Value)) fn.results.toList).run P w2=.ok vals w2:=r1
   erw [this]
   simp only[Result.andThen,Function.comp,Sem.run_pure]
  refine⟨_,hrun,_,S3,rfl,M3.imm,hT.keeps,?_,hT.below,fun b hb=>hT.same b hb (hno b),fun b j hb hs=>(hT.immN b j hb hs).resolve_right (hno b)⟩;exact q.get.get (Em (by omega) R3)
 cases e with
 |normal=>exact fin q
 |ret=>exact fin q
 |_=>exact q.elim
def NY:PV→PV
 |.isl c _=>.isl c .none
 |.bool b=>.bp b
 |.nils=>.isl (.ints .i64 []) .none
 |p=>p
def AP:List PV→List PV
 | []=>[]
 |x::xs=>NY x::AP xs
def UM:PV→PV
 |.agg cs=>.agg (AP cs)
 |p=>NY p
def dI:List PV→List PV
 | []=>[]
 |x::xs=>UM x::dI xs
theorem Gz {S:Imm} {w:World} {ι:Ix} {p:PV} {v:Value} (h:Rep S w ι p v):Rep S w ι (NY p) v:=by
 unfold NY;split
 ·exact h.drop
 ·cases h;exact .bp _ _
 ·cases h;exact .islnil _ _ _ rfl
 ·exact h
theorem wC:∀(ps:List PV),(AP ps).length=ps.length∧∀i {S:Imm} {w:World} {ι:Ix} {v:Value},Rep S w ι (aD ps i) v→Rep S w ι (aD (AP ps) i) v:=by
 intro ps;induction ps with
 |nil=>exact⟨rfl,fun i _ _ _ _ h=>h⟩
 |cons p ps ih=>exact⟨by simp[AP,ih.1],fun i _ _ _ _ h=>by cases i with|zero=>exact Gz h|succ i=>exact ih.2 i h⟩
theorem UN {S:Imm} {w:World} {ι:Ix} {p:PV} {v:Value} (h:Rep S w ι p v):Rep S w ι (UM p) v:=by
 unfold UM;split
 ·cases h with|agg _ _ vs hl hh=>exact .agg _ _ _ ((wC _).1.trans hl) (fun i hi=>(wC _).2 i (hh i (by rw[(wC _).1]at hi;exact hi)))
 ·exact Gz h
theorem bB:∀(ps:List PV),(dI ps).length=ps.length∧∀i {S:Imm} {w:World} {ι:Ix} {v:Value},Rep S w ι (aD ps i) v→Rep S w ι (aD (dI ps) i) v:=by
 intro ps;induction ps with
 |nil=>exact⟨rfl,fun i _ _ _ _ h=>h⟩
 |cons p ps ih=>exact⟨by simp[dI,ih.1],fun i _ _ _ _ h=>by cases i with|zero=>exact UN h|succ i=>exact ih.2 i h⟩
def rA (args:List PV) (K:List PV→Prop):Prop:=match jE args with|some xs=>bN (dI xs) K|none=>False
theorem wD {g:FuncId} {args as:List PV} {H:Hp} {v:PV} (ha:jE args=some as) (h:aF P g (dI as) v):iZ P g args H v [] [] []:=by
 obtain⟨hent,h⟩:=h;refine⟨hent,fun S w ι H' vs hg M hr _ _=>?_⟩;obtain⟨h1,h2⟩:=iP ha;refine(h S w vs hg M.imm ⟨(bB as).1.trans (h1.trans hr.1),fun i hi=>(bB as).2 i (h2 i (by rw[(bB as).1]at hi;omega) (hr.2 i (by rw[(bB as).1]at hi;omega)))⟩).mono ?_
 rintro e w' ⟨val,S',rfl,o⟩
 have hno:∀k ob b,ay H' k=some ob→ob.has ι k b→b<w.heap.size:=fun k ob b ho hb=>(M.obj k ob ho).lt hb;refine⟨val,S',ι,rfl,⟨fun k ob ho=>(M.obj k ob ho).mono o.keeps (.refl _) o.below (fun b hb=>o.same b (hno k ob b ho hb)) (fun _=>rfl) rfl (fun b j hb hs=>o.immN b j (hno k ob b ho hb) hs),M.liveO,M.liveT,M.dist,o.imm⟩,
  .refl _,o.keeps,o.rep.up ι,fun p=>⟨o.below,fun b hb _=>o.same b hb,o.keeps,fun b j hb hs=>.inl (o.immN b j hb hs),fun b h=>.inl h,fun _ _ _ h=>h,fun _ _ b n h=>⟨b,n,h,.inl ⟨rfl,ahO _⟩⟩⟩⟩
end Go.Eng
namespace Go.Eng
inductive TT where
 |leaf (k:Nat) (te:TE)
 |node (m:Nat) (l r:TT)
def TT.get:TT→Nat→Option TE
 |.leaf k te,t=>match ah6 t k with|true=>some te|false=>none
 |.node m l r,t=>match ajj t m with|true=>l.get t|false=>r.get t
def TT.All (f:Nat→TE→Prop):TT→Prop
 |.leaf k te=>f k te
 |.node _ l r=>l.All f∧r.All f
theorem TT.get_all {f:Nat→TE→Prop}:∀(T:TT),T.All f→∀t te,T.get t=some te→f t te:=by
 intro T;induction T with
 |leaf k te'=>
  intro h t te hg;simp only[TT.get]at hg;cases hb:ah6 t k with
  |true=>rw[hb]at hg;cases hg;rw[aib hb];exact h
  |false=>rw[hb]at hg;cases hg
 |node m l r ihl ihr=>
  intro h t te hg;simp only[TT.get]at hg;cases hb:ajj t m with
  |true=>rw[hb]at hg;exact ihl h.1 t te hg
  |false=>rw[hb]at hg;exact ihr h.2 t te hg
def aO (t u:TypeInfo):TE:=⟨u.desc,t.zero.getD undef,t.size,t.bytes,none,t.methods.toList⟩
def lH (t u:TypeInfo) (ks:List CK):TE:=⟨u.desc,t.zero.getD undef,t.size,t.bytes,some ks,t.methods.toList⟩
def aG (P:Program) (k:Nat) (te:TE):Prop:=
 P.underlying k=some te.und∧(∃i,P.info? k=some i∧i.zero=some te.zero∧i.size=te.size∧i.bytes=te.bytes)∧te.zero.cells.size=te.size∧(∀ks,te.cmp=some ks→Fp P k ks)∧∃i,P.info? k=some i∧i.methods.toList=te.meths
theorem lg {P:Program} {t:TypeId} {i:TypeInfo} (h:∀w,(typeInfo t).run P w=.ok i w):P.info? t=some i:=by
 cases hi:P.info? t with
 |none=>have:=h default;simp[typeInfo,hi]at this
 |some j=>have:=h default;simp[typeInfo,hi]at this;rw[this]
theorem aH {P:Program} {k:Nat} {t u:TypeInfo} {d:TypeDesc} {z:Value} (h1:P.underlying k=some d) (h2:∀w,(typeInfo k).run P w=.ok t w) (h3:u.desc=d) (h4:t.zero=some z) (h5:z.cells.size=t.size):aG P k (aO t u):=
 ⟨by rw[h1,←h3];rfl,⟨t,lg h2,by simp[aO,h4],rfl,rfl⟩,by simp[aO,h4,h5],fun ks h=>(by cases h),t,lg h2,rfl⟩
theorem EqT.mono {P:Program} {t:TypeId} {ks:List CK} {n m:Nat} (h:EqT P t ks n) (hm:n≤m):EqT P t ks m:=fun w d xs ys off hd=>h w d xs ys off (by omega)
theorem vL.nil {P:Program} {n off:Nat}:vL P n [] off []:=rfl
theorem vL.cons {P:Program} {n off:Nat} {f:Field} {fs:List Field} {kf rest:List CK} (h1:f.name≠ "_") (h2:f.offset=off) (h3:EqT P f.type kf n) (h4:vL P n fs (off+kf.length) rest):vL P n (f::fs) off (kf++rest):=
 ⟨h1,h2,kf,rest,rfl,h3,h4⟩
theorem GA {P:Program} {t:TypeId} {i:TypeInfo} (h:∀w,(typeInfo t).run P w=.ok i w):P.cellsOf t=i.size:=by simp[Program.cellsOf,lg h]
theorem kM {P:Program} {k:Nat} {t u:TypeInfo} {d:TypeDesc} {z:Value} {ks:List CK} (hc:Fp P k ks) (h1:P.underlying k=some d) (h2:∀w,(typeInfo k).run P w=.ok t w) (h3:u.desc=d) (h4:t.zero=some z) (h5:z.cells.size=t.size):aG P k (lH t u ks):=
 ⟨by rw[h1,←h3];rfl,⟨t,lg h2,by simp[lH,h4],rfl,rfl⟩,by simp[lH,h4,h5],fun ks' h=>(by cases h;exact hc),t,lg h2,rfl⟩
theorem UO {P:Program} {T:TT} (h:T.All (aG P)):aY P T.get:=
 ⟨fun t te ht=>(TT.get_all T h t te ht).1,fun t te ht=>(TT.get_all T h t te ht).2.1,fun t te ht=>(TT.get_all T h t te ht).2.2.1,fun t te ks ht=>(TT.get_all T h t te ht).2.2.2.1 ks,fun t te ht=>(TT.get_all T h t te ht).2.2.2.2⟩
theorem iq {P:Program} {g:FuncId} {xs:List PV} {u v:PV} (h:aF P g xs u) (hs:Sup u v):aF P g xs v:=
 ⟨h.1,fun S w vs hb himm hA=>(h.2 S w vs hb himm hA).mono fun _ _ ⟨val,S',h1,h2⟩=>⟨val,S',h1,⟨h2.imm,h2.keeps,hs.get h2.rep,h2.below,h2.same,h2.immN⟩⟩⟩
def noC:CPT:=fun _ _ _ _ _=>False
def noY:YPT:=fun _ _ _ _ _ _ _=>False
theorem aC {P:Program}:aW P noC:=fun _ _ _ _ _ h=>h.elim
theorem aP {P:Program} {r:Option Nat} {B:Imm→World→Prop}:kS P r B noY:=fun _ _ _ _ _ _ _ h=>h.elim
theorem aK:BOK kR:=⟨fun _ _ _ _ k b h=>nk k b h,fun _ _ h=>h⟩
def NZ (P:Program) (B:Imm→World→Prop) (τ:TypeId→Option TE) (md:Nat) (rf:List Nat) (CP:CPT) (YP:YPT) (fn:Func) (args:List PV) (v:PV):Prop:=
 ev P none B 0 τ md rf CP YP (fn.body.getD .skip) 0 (args++lJ (fn.ntmps-args.length)) [] fun e env H _=>acN τ fn v e env H
theorem wE {P:Program} {τ:TypeId→Option TE} {B:Imm→World→Prop} (hB:BOK B) (hm:P.follows .mixedOrders=true) (hτ:aY P τ) {md rf CP YP} (hC:jU P B CP) (hY:kS P none B YP) {g:FuncId} {fn:Func} {args:List PV} {v:PV}
 (hf:P.funcs[g]? =some fn) (hb:fn.body.isSome=true) (hok:dL (fn.body.getD .skip)=true) (h:NZ P B τ md rf CP YP fn args v):wB P B g args v:=by
 obtain⟨c,hc⟩:=ahY.1 hb;unfold NZ at h;rw[hc]at h hok;exact Ke hB hτ hf hc ((iB hB hm hτ hC hY c hok _ _ _ _ h).mono fun e env H ⟨n,h⟩=>h)
theorem av {P:Program} {τ:TypeId→Option TE} (hm:P.follows .mixedOrders=true) (hτ:aY P τ) {md rf CP} (hC:aW P CP) {g:FuncId} {fn:Func} {args:List PV} {v:PV}
 (hf:P.funcs[g]? =some fn) (hn:(fn.name== "runtime.NumGoroutine")=false) (hb:fn.body.isSome=true) (hok:dL (fn.body.getD .skip)=true) (h:NZ P kR τ md rf CP noY fn args v):aF P g args v:=
 ⟨enters hf hn (by cases h:fn.body<;>simp_all),wE aK hm hτ hC aP hf hb hok h⟩
end Go.Eng
namespace Go.Eng
open Go.RowKit
set_option linter.unusedSimpArgs false
set_option linter.unusedVariables false
abbrev Sg:=List (Nat × Nat)
def sgF:Sg→Nat→Option Nat
 | [],_=>none
 |(a,b)::r,k=>match ah6 a k with|true=>some b|false=>sgF r k
def sgB:Sg→Nat→Option Nat
 | [],_=>none
 |(a,b)::r,k=>match ah6 b k with|true=>some a|false=>sgB r k
def CB (σ:Sg):PV→Option PV
 |.rsl k o n=>match sgF σ k with|some k'=>some (.rsl k' o n)|none=>none
 |.rp k o=>match sgF σ k with|some k'=>some (.rp k' o)|none=>none
 |.rpe k m i j=>match sgF σ k with|some k'=>some (.rpe k' m i j)|none=>none
 |.rm k=>match sgF σ k with|some k'=>some (.rm k')|none=>none
 |.row k b n=>match sgF σ k with|some k'=>some (.row k' b n)|none=>none
 |.rowp k b m i j=>match sgF σ k with|some k'=>some (.rowp k' b m i j)|none=>none
 |.isl c t=>match t with
  |.own k=>match sgF σ k with|some k'=>some (.isl c (.own k'))|none=>some (.isl c .none)
  |.none=>some (.isl c .none)
  |.full=>some (.isl c .full)
 |.any=>some .any
 |p=>fu p
def rC (σ:Sg):List PV→Option (List PV)
 | []=>some []
 |x::xs=>match CB σ x with
  |some y=>match rC σ xs with
   |some ys=>some (y::ys)
   |none=>none
  |none=>none
def qC (σ:Sg):PV→Option PV
 |.agg cs=>match rC σ cs with|some ds=>some (.agg ds)|none=>none
 |.tup cs=>match rC σ cs with|some ds=>some (.tup ds)|none=>none
 |.fn f us vs=>match rC σ us with
  |some us=>match rC σ vs with
   |some vs=>some (.fn f us vs)
   |none=>none
  |none=>none
 |p=>CB σ p
structure VC (q:Prop):Prop where
 get:q
theorem vM {q:Prop} (h:q):VC q:=⟨h⟩
def eqT (t u:Tok):Prop:=match u with
 |.none=>True
 |.full=>match t with|.full=>True|_=>False
 |.own k=>match t with|.own k'=>ifK (ah6 k k') True|_=>False
def zh (p q:PV) (K:Prop):Prop:=
 match q with
 |.any=>K
 |.int k a=>match p with
  |.int k' b=>ifK (decide (k'=k)) (VC (b=a)∧K)
  |_=>False
 |.bp a=>match p with
  |.bp b=>VC (b=a)∧K
  |.bool b=>VC (b=a)∧K
  |_=>False
 |.str a=>match p with
  |.str b=>VC (b=a)∧K
  |_=>False
 |.isl c t=>match p with
  |.isl d u=>VC (d=c)∧eqT u t∧K
  |.nils=>VC (c.cnt=0)∧K
  |_=>False
 |.rsl k o n=>match p with
  |.rsl k' o' n'=>ifK (ah6 k k') (VC (o'=o∧n'=n)∧K)
  |_=>False
 |q=>VC (p=q)∧K
def Fu:List PV→List PV→Prop→Prop
 | [],[],K=>K
 |p::ps,q::qs,K=>zh p q (Fu ps qs K)
 |_,_,_=>False
def wF (σ:Sg) (p q:PV) (K:Prop):Prop:=
 match q with
 |.any=>K
 |.agg ds=>match qC σ p with
  |some (.agg cs)=>Fu cs ds K
  |_=>False
 |.isl c t=>match t with
  |.none=>match p with
   |.isl d _=>VC (d=c)∧K
   |.nils=>VC (c.cnt=0)∧K
   |_=>False
  |t=>match qC σ p with
   |some p'=>zh p' (.isl c t) K
   |none=>False
 |q=>match qC σ p with
  |some p'=>zh p' q K
  |none=>False
def Fv (σ:Sg):List PV→List PV→Prop→Prop
 | [],[],K=>K
 |p::ps,q::qs,K=>wF σ p q (Fv σ ps qs K)
 |_,_,_=>False
theorem CF {σ:Sg} {k k':Nat} (h:sgF σ k=some k') (hinj:∀x∈σ,sgB σ x.2=some x.1):sgB σ k'=some k:=by
 have:(k,k')∈σ:=by
  clear hinj;induction σ with
  |nil=>cases h
  |cons x r ih=>
   obtain⟨a,b⟩:=x;simp only[sgF]at h;cases hb:ah6 a k with
   |true=>rw[hb]at h;cases h;rw[aib hb];simp
   |false=>rw[hb]at h;exact ajx _ (ih h)
 exact hinj _ this
def Ix.ren (ι:Ix) (σ:Sg):Ix:=⟨fun k=>(sgB σ k).bind ι.o,fun k=>(sgB σ k).bind ι.t,fun k b=>∃k0,sgB σ k=some k0∧ι.x k0 b⟩
structure uz (σ:Sg) (ι ι1:Ix):Prop where
 o:∀k k' b,sgF σ k=some k'→ι.o k=some b→ι1.o k'=some b
 t:∀k k' x,sgF σ k=some k'→ι.t k=some x→ι1.t k'=some x
theorem rD {σ:Sg} (hinj:∀x∈σ,sgB σ x.2=some x.1) (ι:Ix):uz σ ι (ι.ren σ):=
 ⟨fun k k' b h hb=>by simp[Ix.ren,CF h hinj,hb],fun k k' b h hb=>by simp[Ix.ren,CF h hinj,hb]⟩
section
variable {S:Imm} {w:World} {ι ι1:Ix} {σ:Sg} (hinj:uz σ ι ι1)
include hinj
theorem Lc {p q:PV} (h:CB σ p=some q) {v:Value} (hr:Rep S w ι p v):Rep S w ι1 q v:=by
 have key:∀{k k' b:Nat},sgF σ k=some k'→ι.o k=some b→ι1.o k'=some b:=fun h hb=>hinj.o _ _ _ h hb;have keyt:∀{k k':Nat} {x},sgF σ k=some k'→ι.t k=some x→ι1.t k'=some x:=fun h hb=>hinj.t _ _ _ h hb;unfold CB at h;split at h
 ·split at h
  ·rename_i hs;cases h
   cases hr with
   |rsl _ _ _ _ b cap hk hc hr=>exact .rsl _ _ _ _ _ _ (key hs hk) hc hr
   |rslz _ _ _ b o hk=>exact .rslz _ _ _ _ _ (key hs hk)
  ·cases h
 ·split at h
  ·rename_i hs;cases h
   cases hr with|rp _ _ _ b hk=>exact .rp _ _ _ _ (key hs hk)
  ·cases h
 ·split at h
  ·rename_i hs;cases h
   cases hr with|rpe _ _ _ _ _ b hk=>exact .rpe _ _ _ _ _ _ (key hs hk)
  ·cases h
 ·split at h
  ·rename_i hs;cases h
   cases hr with|rm _ _ b hk=>exact .rm _ _ _ (key hs hk)
  ·cases h
 ·split at h
  ·rename_i hs;cases h
   cases hr with|row _ _ _ _ cap hc=>exact .row _ _ _ _ _ hc
  ·cases h
 ·split at h
  ·rename_i hs;cases h
   cases hr;exact .rowp _ _ _ _ _ _
  ·cases h
 ·rename_i c t
  split at h
  ·rename_i k
   split at h
   ·rename_i hs;cases h
    cases hr with
    |islnil _ _ _ hc=>exact .islnil _ _ _ hc
    |isl _ _ _ b off cap hc hs' hh hf ho=>
     refine .isl _ _ _ _ _ _ hc hs' hh (fun e=>by cases e) (fun k1 e=>?_)
     cases e
     rcases ho k rfl with h0|⟨b1,n,g1,g2⟩
     ·exact .inl h0
     ·exact .inr ⟨b1,n,keyt hs g1,g2⟩
   ·cases h;exact(hr.drop.toNoI).up _
  ·cases h;exact(hr.toNoI).up _
  ·cases h;exact(gu (p:=.isl c .full) rfl hr).up _
 ·cases h;exact .any _ _
 ·exact(gu h hr).up _
theorem uD:∀{ps qs:List PV},rC σ ps=some qs→qs.length=ps.length∧∀i,i<ps.length→∀{v:Value},Rep S w ι (aD ps i) v→Rep S w ι1 (aD qs i) v:=by
 intro ps;induction ps with
 |nil=>intro qs h;simp[rC]at h;subst h;exact⟨rfl,fun i hi=>by simp at hi⟩
 |cons p ps ih=>
  intro qs h;unfold rC at h;split at h
  ·rename_i y hy
   split at h
   ·rename_i ys hys
    cases h
    obtain⟨h1,h2⟩:=ih hys;refine⟨by simp[h1],fun i hi=>?_⟩
    cases i with
    |zero=>intro v hr;exact Lc hinj hy hr
    |succ i=>exact h2 i (by simpa using hi)
   ·cases h
  ·cases h
theorem xR {p q:PV} (h:qC σ p=some q) {v:Value} (hr:Rep S w ι p v):Rep S w ι1 q v:=by
 unfold qC at h;split at h
 ·split at h
  ·rename_i ds hds
   cases h
   obtain⟨h1,h2⟩:=uD hinj hds (S:=S) (w:=w);cases hr with|agg _ _ vs hl hh=>exact .agg _ _ _ (h1.trans hl) (fun i hi=>h2 i (by omega) (hh i (by omega)))
  ·cases h
 ·split at h
  ·rename_i ds hds
   cases h
   obtain⟨h1,h2⟩:=uD hinj hds (S:=S) (w:=w);cases hr with|tup _ _ vs hl hh=>exact .tup _ _ _ (h1.trans hl) (fun i hi=>h2 i (by omega) (hh i (by omega)))
  ·cases h
 ·split at h
  ·rename_i us hus
   split at h
   ·rename_i vs hvs
    cases h
    obtain⟨h1,h2⟩:=uD hinj hus (S:=S) (w:=w);obtain⟨g1,g2⟩:=uD hinj hvs (S:=S) (w:=w);cases hr with|fn _ _ _ _ us' vs' hk hl hu hv=>exact .fn _ _ _ _ _ _ (h1.trans hk) (g1.trans hl) (fun i hi=>h2 i (by omega) (hu i (by omega))) (fun i hi=>g2 i (by omega) (hv i (by omega)))
   ·cases h
  ·cases h
 ·exact Lc hinj h hr
end
theorem uE {σ:Sg} (hinj:∀x∈σ,sgB σ x.2=some x.1) {S:Imm} {w:World} {ι:Ix} {p q:PV} (h:qC σ p=some q) {v:Value} (hr:Rep S w ι p v):Rep S w (ι.ren σ) q v:=xR (rD hinj ι) h hr
theorem pG {p q:PV} {K:Prop} (h:zh p q K):K∧∀{S:Imm} {w:World} {ι:Ix} {v:Value},Rep S w ι p v→Rep S w ι q v:=by
 unfold zh at h;split at h
 ·exact⟨h,fun _=>.any _ _⟩
 ·split at h
  ·rw[aL]at h
   obtain⟨h1,⟨h2⟩,h3⟩:=h;have h1:=of_decide_eq_true h1;subst h1;subst h2;exact⟨h3,fun hr=>hr⟩
  ·exact h.elim
 ·split at h
  ·obtain⟨⟨h1⟩,h2⟩:=h;subst h1;exact⟨h2,fun hr=>hr⟩
  ·obtain⟨⟨h1⟩,h2⟩:=h;subst h1;exact⟨h2,fun hr=>by cases hr;constructor⟩
  ·exact h.elim
 ·split at h
  ·obtain⟨⟨h1⟩,h2⟩:=h;subst h1;exact⟨h2,fun hr=>hr⟩
  ·exact h.elim
 ·rename_i c t
  split at h
  ·rename_i d u
   obtain⟨⟨h1⟩,h2,h3⟩:=h;subst h1;refine⟨h3,fun hr=>?_⟩;unfold eqT at h2;split at h2
   ·exact hr.drop
   ·split at h2
    ·exact hr
    ·exact h2.elim
   ·split at h2
    ·rw[aL]at h2;have:=aib h2.1;subst this;exact hr
    ·exact h2.elim
  ·obtain⟨⟨h1⟩,h2⟩:=h
   exact⟨h2,fun hr=>by cases hr;exact .islnil _ _ _ h1⟩
  ·exact h.elim
 ·split at h
  ·rw[aL]at h
   obtain⟨h1,⟨h2,h3⟩,h4⟩:=h;have h1:=aib h1;subst h1;subst h2;subst h3;exact⟨h4,fun hr=>hr⟩
  ·exact h.elim
 ·obtain⟨⟨h1⟩,h2⟩:=h;subst h1;exact⟨h2,fun hr=>hr⟩
theorem yK:∀{ps qs:List PV} {K:Prop},Fu ps qs K→K∧ps.length=qs.length∧∀i {S:Imm} {w:World} {ι:Ix} {v:Value},Rep S w ι (aD ps i) v→Rep S w ι (aD qs i) v:=by
 intro ps;induction ps with
 |nil=>intro qs K h;cases qs with
  |nil=>exact⟨h,rfl,fun i _ _ _ _ hr=>hr⟩
  |cons=>exact h.elim
 |cons p ps ih=>intro qs K h;cases qs with
  |nil=>exact h.elim
  |cons q qs=>
   obtain⟨h,h1⟩:=pG h;obtain⟨h,h2,h3⟩:=ih h;refine⟨h,by simp[h2],fun i _ _ _ _ hr=>?_⟩
   cases i with
   |zero=>exact h1 hr
   |succ i=>exact h3 i hr
theorem uF {σ:Sg} (hinj:∀x∈σ,sgB σ x.2=some x.1) {p q:PV} {K:Prop} (h:wF σ p q K):K∧∀{S:Imm} {w:World} {ι:Ix} {v:Value},Rep S w ι p v→Rep S w (ι.ren σ) q v:=by
 unfold wF at h;split at h
 ·exact⟨h,fun _=>.any _ _⟩
 ·split at h
  ·rename_i cs hcs
   obtain⟨h,h1,h2⟩:=yK h;refine⟨h,fun hr=>?_⟩;have:=uE hinj hcs hr;cases this with|agg _ _ vs hl hh=>exact .agg _ _ _ (h1.symm.trans hl) (fun i hi=>h2 i (hh i (by omega)))
  ·exact h.elim
 ·rename_i c t
  split at h
  ·split at h
   ·rename_i d u
    obtain⟨⟨e⟩,h⟩:=h;subst e;exact⟨h,fun hr=>by
     have:=hr.drop;cases this with
     |islnil _ _ _ hc=>exact .islnil _ _ _ hc
     |isl _ _ _ b off cap hc hs hh hf ho=>exact .isl _ _ _ _ _ _ hc hs hh hf (fun k e=>by cases e)⟩
   ·obtain⟨⟨e⟩,h⟩:=h
    exact⟨h,fun hr=>by cases hr;exact .islnil _ _ _ e⟩
   ·exact h.elim
  ·split at h
   ·rename_i p' hp
    obtain⟨h,h1⟩:=pG h;exact⟨h,fun hr=>h1 (uE hinj hp hr)⟩
   ·exact h.elim
 ·split at h
  ·rename_i p' hp
   obtain⟨h,h1⟩:=pG h;exact⟨h,fun hr=>h1 (uE hinj hp hr)⟩
  ·exact h.elim
theorem yL {σ:Sg} (hinj:∀x∈σ,sgB σ x.2=some x.1):∀{ps qs:List PV} {K:Prop},Fv σ ps qs K→K∧ps.length=qs.length∧∀i {S:Imm} {w:World} {ι:Ix} {v:Value},Rep S w ι (aD ps i) v→Rep S w (ι.ren σ) (aD qs i) v:=by
 intro ps;induction ps with
 |nil=>intro qs K h;cases qs with
  |nil=>exact⟨h,rfl,fun i _ _ _ _ hr=>.any _ _⟩
  |cons=>exact h.elim
 |cons p ps ih=>intro qs K h;cases qs with
  |nil=>exact h.elim
  |cons q qs=>
   obtain⟨h,h1⟩:=uF hinj h;obtain⟨h,h2,h3⟩:=ih h;refine⟨h,by simp[h2],fun i _ _ _ _ hr=>?_⟩
   cases i with
   |zero=>exact h1 hr
   |succ i=>exact h3 i hr
def N7 (p q:PV):Prop:=
 match q with
 |.agg qs=>(match p with|.agg ps=>Fu ps qs True|_=>False)
 |q=>zh p q True
def UQ:List PV→List PV→Prop
 | [],[]=>True
 |p::ps,q::qs=>N7 p q∧UQ ps qs
 |_,_=>False
def eqR (p q:PV):Prop:=
 match q with
 |.tup qs=>(match p with|.tup ps=>UQ ps qs|_=>False)
 |q=>N7 p q
theorem AQ {p q:PV} (h:N7 p q) {S:Imm} {w:World} {ι:Ix} {v:Value} (hr:Rep S w ι p v):Rep S w ι q v:=by
 unfold N7 at h;split at h
 ·split at h
  ·obtain⟨_,h1,h2⟩:=yK h
   cases hr with|agg _ _ vs hl hh=>exact .agg _ _ _ (h1.symm.trans hl) (fun i hi=>h2 i (hh i (by omega)))
  ·exact h.elim
 ·exact(pG h).2 hr
theorem N8:∀{ps qs:List PV},UQ ps qs→ps.length=qs.length∧∀i {S:Imm} {w:World} {ι:Ix} {v:Value},Rep S w ι (aD ps i) v→Rep S w ι (aD qs i) v:=by
 intro ps;induction ps with
 |nil=>intro qs h;cases qs with
  |nil=>exact⟨rfl,fun i _ _ _ _ hr=>hr⟩
  |cons=>exact h.elim
 |cons p ps ih=>intro qs h;cases qs with
  |nil=>exact h.elim
  |cons q qs=>
   obtain⟨h1,h2⟩:=ih h.2;refine⟨by simp[h1],fun i _ _ _ _ hr=>?_⟩
   cases i with
   |zero=>exact AQ h.1 hr
   |succ i=>exact h2 i hr
theorem Sup.via {p q:PV} (h:eqR p q):Sup p q:=⟨fun hr=>by
 unfold eqR at h;split at h
 ·split at h
  ·obtain⟨h1,h2⟩:=N8 h
   cases hr with|tup _ _ vs hl hh=>exact .tup _ _ _ (h1.symm.trans hl) (fun i hi=>h2 i (hh i (by omega)))
  ·exact h.elim
 ·exact AQ h hr⟩
def UR (σ:Sg) (c c1:CL) (K:Prop):Prop:=
 match c1 with
 |.pv qs=>match c with
  |.pv ps=>Fv σ ps qs K
  |_=>False
 |.ints k ys=>match c with
  |.ints k' xs=>ifK (decide (k'=k)) (VC (xs=ys)∧K)
  |_=>False
 |.bools ys=>match c with
  |.bools xs=>VC (xs=ys)∧K
  |_=>False
 |.strs ys=>match c with
  |.strs xs=>VC (xs=ys)∧K
  |_=>False
 |.rows k ys=>match c with
  |.rows k' xs=>ifK (decide (k'=k)) (VC (xs=ys)∧K)
  |_=>False
 |.recs m ys=>match c with
  |.recs m' xs=>ifK (ah6 m' m) (VC (xs=ys∧pO xs)∧K)
  |_=>False
 |_=>False
def CG (σ:Sg):List (PV × PV)→List (PV × PV)→Prop→Prop
 | [],[],K=>K
 |(p,u)::ps,(q,v)::qs,K=>wF σ p q (wF σ u v (CG σ ps qs K))
 |_,_,_=>False
def GD (a b:RC) (D:Nat→Prop) (f:Nat→Nat) (K:Prop):Prop:=
 match b with
 |.ints k c=>match a with
  |.ints k' c'=>ifK (decide (k'=k)) (VC (∀i,D i→c' (f i)=c i)∧K)
  |_=>False
 |.recs m c=>match a with
  |.recs m' c'=>ifK (ah6 m' m) (VC (∀i,D i→c' (f i)=c i)∧K)
  |_=>False
theorem uG {a b:RC} {D:Nat→Prop} {f:Nat→Nat} {K:Prop} (h:GD a b D f K):K∧a.kin b∧∀i,D i→a.at (f i)=b.at i:=by
 unfold GD at h;split at h
 ·split at h
  ·rw[aL]at h
   obtain⟨h1,⟨h2⟩,h3⟩:=h;have h1:=of_decide_eq_true h1;subst h1;exact⟨h3,rfl,fun i hi=>by simp only[RC.at];rw[h2 i hi]⟩
  ·exact h.elim
 ·split at h
  ·rw[aL]at h
   obtain⟨h1,⟨h2⟩,h3⟩:=h;have h1:=aib h1;subst h1;exact⟨h3,rfl,fun i hi=>by simp only[RC.at];rw[h2 i hi]⟩
  ·exact h.elim
theorem iJ.cong {S:Imm} {w:World} {ι ι1:Ix} {k k1:Nat} {all l:List Nat} {rc:RC} (h:iJ S w ι k all l rc) (ho:ι1.o k1=ι.o k) (hx:ι1.x k1=ι.x k):iJ S w ι1 k1 all l rc:=by
 obtain⟨b,arr,e,h1,h2,h3,h4,h5,h6,h7,h8⟩:=h;exact⟨b,arr,e,ho.trans h1,h2,h3,h4,h5,fun b'=>by rw[hx];exact h6 b',h7,h8⟩
theorem iJ.with {S:Imm} {w:World} {ι:Ix} {k:Nat} {all l:List Nat} {rc rc':RC} (h:iJ S w ι k all l rc) (hr:∀b,b∈all→rc.at b=rc'.at b):iJ S w ι k all l rc':=by
 obtain⟨b,arr,e,h1,h2,h3,h4,h5,h6,h7,h8⟩:=h;refine⟨b,arr,e,h1,h2,h3,h4,h5,h6,fun r hm=>by rw[←hr r hm];exact h7 r hm,fun i hi=>?_⟩
 obtain⟨g1,cap,g2,g3⟩:=h8 i hi;rw[←hr _ g1];exact⟨g1,cap,g2,g3⟩
def UU (σ:Sg) (o o1:AO) (K:Prop):Prop:=
 match o1 with
 |.cells c1 fz1=>match o with
  |.cells c fz=>match fz1 with
   |true=>match fz with
    |true=>VC (c=c1)∧K
    |false=>False
   |false=>match fz with
    |true=>False
    |false=>UR σ c c1 K
  |_=>False
 |.tok m n=>match o with
  |.tok m' n'=>ifK (ah6 m' m) (VC (n'=n)∧K)
  |_=>False
 |.map es=>match o with
  |.map ds=>CG σ ds es K
  |_=>False
 |.dfr=>match o with
  |.dfr=>K
  |_=>False
 |.ext G pre=>match o with
  |.ext G' pre'=>VC (G'=G∧pre'=pre)∧K
  |_=>False
 |.mat all l rc=>match o with
  |.mat all' l' rc'=>VC (all'=all∧l'=l)∧GD rc' rc (fun b=>b∈all) (fun b=>b) K
  |_=>False
 |.pmat n rc=>match o with
  |.pmat n' rc'=>VC (n'=n)∧GD rc' rc (fun i=>i<n) (fun i=>i) K
  |.mat all l rc'=>VC (l.length=n∧l.Nodup∧∀b,b∈all→b∈l)∧GD rc' rc (fun i=>i<n) (fun i=>l.getD i 0) K
  |_=>False
 |.bld t e s=>match o with
  |.bld t' e' s'=>ifK (ah6 t' t&&ah6 e' e) (VC (s'=s)∧K)
  |_=>False
 |_=>False
def xS (σ:Sg) (H:Hp):Nat→Hp→Prop→Prop
 |_,[],K=>K
 |k1,o::r,K=>match o with
  |none=>iL (k1+1) fun k2=>xS σ H k2 r K
  |some o1=>match sgB σ k1 with
   |some k=>bU H k fun o=>UU σ o o1 (iL (k1+1) fun k2=>xS σ H k2 r K)
   |none=>match o1 with
    |.tok _ 0=>iL (k1+1) fun k2=>xS σ H k2 r K
    |_=>False
def pU {α:Type}:Option α→Bool|some _=>true|none=>false
def eqO:Option Nat→Nat→Bool|some a,b=>ah6 a b|none,_=>false
def Fx (σ:Sg) (H H1:Hp):Sg→Bool
 | []=>true
 |(a,b)::r=>match eqO (sgB σ b) a&&eqO (sgF σ a) b&&(!pU (ay H a)||pU (ay H1 b))with|true=>Fx σ H H1 r|false=>false
def Oa (σ:Sg) (H:Hp):Nat→Bool
 |0=>true
 |k+1=>match !pU (ay H k)||eqO (sgB σ k) k with|true=>Oa σ H k|false=>false
def mH (σ:Sg) (p:Nat) (env:Env) (H:Hp) (env1:Env) (H1:Hp) (K:Prop):Prop:=
 ifK (Fx σ H H1 σ&&Oa σ H p) (Fv σ env env1 (xS σ H 0 H1 K))
theorem CJ {o:Option Nat} {a:Nat}:eqO o a=true↔o=some a:=by
 cases o with
 |none=>simp[eqO]
 |some b=>simp[eqO,Nat.beq_eq]
theorem Kg {σ:Sg} {H H1:Hp}:∀{r:Sg},Fx σ H H1 r=true→∀x∈r,sgB σ x.2=some x.1∧sgF σ x.1=some x.2∧((ay H x.1).isSome→(ay H1 x.2).isSome):=by
 intro r;induction r with
 |nil=>intro _ x hx;simp at hx
 |cons y r ih=>
  intro h x hx;obtain⟨a,b⟩:=y;simp only[Fx]at h;split at h
  ·rename_i hb
   rcases ajg.1 hx with e|hx
   ·subst e
    simp only[aia,CJ,ajm]at hb;refine⟨hb.1.1,hb.1.2,fun hs=>?_⟩;rcases hb.2 with h1|h1
    ·cases e:ay H a with
     |none=>rw[e]at hs;simp at hs
     |some o=>rw[e]at h1;simp[pU]at h1
    ·cases e:ay H1 b with
     |none=>rw[e]at h1;simp[pU]at h1
     |some o=>rfl
   ·exact ih h x hx
  ·cases h
theorem AU {σ:Sg} {H:Hp}:∀{p:Nat},Oa σ H p=true→∀k,k<p→ay H k≠none→sgB σ k=some k:=by
 intro p;induction p with
 |zero=>intro _ k hk;omega
 |succ p ih=>
  intro h k hk hne;simp only[Oa]at h;split at h
  ·rename_i hb
   by_cases e:k=p
   ·subst e
    cases hg:ay H k with
    |none=>exact absurd hg hne
    |some o=>rw[hg]at hb;simpa [pU,CJ]using hb
   ·exact ih h k (by omega) hne
  ·cases h
theorem nJ {σ:Sg} {k k1:Nat} (h:sgB σ k1=some k):(k,k1)∈σ:=by
 induction σ with
 |nil=>cases h
 |cons x r ih=>
  obtain⟨a,b⟩:=x;simp only[sgB]at h;cases hb:ah6 b k1 with
  |true=>rw[hb]at h;cases h;rw[aib hb];simp
  |false=>rw[hb]at h;exact ajx _ (ih h)
section
variable {σ:Sg} (hinj:∀x∈σ,sgB σ x.2=some x.1)
include hinj
theorem Ob {c c1:CL} {K:Prop} (h:UR σ c c1 K):K∧c1.ncell=c.ncell∧∀j,j<c.ncell→∀{S:Imm} {w:World} {ι:Ix} {v:Value},Rep S w ι (c.get j) v→Rep S w (ι.ren σ) (c1.get j) v:=by
 unfold UR at h;split at h
 ·split at h
  ·obtain⟨h,h1,h2⟩:=yL hinj h
   exact⟨h,h1.symm,fun j _ S w ι v hr=>h2 j hr⟩
  ·exact h.elim
 ·split at h
  ·rw[aL]at h
   obtain⟨h1,⟨h2⟩,h3⟩:=h;have h1:=of_decide_eq_true h1;subst h1;subst h2;exact⟨h3,rfl,fun j _ S w ι v hr=>by cases hr;exact .int _ _ _⟩
  ·exact h.elim
 ·split at h
  ·obtain⟨⟨h2⟩,h3⟩:=h;subst h2
   exact⟨h3,rfl,fun j _ S w ι v hr=>by cases hr;exact .bp _ _⟩
  ·exact h.elim
 ·split at h
  ·obtain⟨⟨h2⟩,h3⟩:=h;subst h2
   exact⟨h3,rfl,fun j _ S w ι v hr=>by cases hr;exact .str _ _⟩
  ·exact h.elim
 ·split at h
  ·rw[aL]at h
   obtain⟨h1,⟨h2⟩,h3⟩:=h;have h1:=of_decide_eq_true h1;subst h1;subst h2;exact⟨h3,rfl,fun j _ S w ι v hr=>hr.toNoI.up _⟩
  ·exact h.elim
 ·split at h
  ·rename_i m' xs
   rw[aL]at h;obtain⟨h1,⟨h2,h4⟩,h3⟩:=h;have h1:=aib h1;subst h1;subst h2;have ht:qp (.recs m' xs) (fun d=>d=.recs m' xs):=⟨h4,rfl⟩;obtain⟨d,rfl,d1,d2,d3⟩:=jX ht;exact⟨h3,rfl,fun j hj S w ι v hr=>(d3 j hj hr).up _⟩
  ·exact h.elim
 ·exact h.elim
theorem Oc:∀{ds es:List (PV × PV)} {K:Prop},CG σ ds es K→K∧ds.length=es.length∧∀i (h:i<ds.length) (h':i<es.length) {S:Imm} {w:World} {ι:Ix} {u v:Value},
 Rep S w ι ds[i].1 u→Rep S w ι ds[i].2 v→Rep S w (ι.ren σ) es[i].1 u∧Rep S w (ι.ren σ) es[i].2 v:=by
 intro ds;induction ds with
 |nil=>intro es K h;cases es with
  |nil=>exact⟨h,rfl,fun i hi=>by simp at hi⟩
  |cons=>exact h.elim
 |cons d ds ih=>intro es K h;cases es with
  |nil=>exact h.elim
  |cons e es=>
   obtain⟨p,u⟩:=d;obtain⟨q,v⟩:=e;obtain⟨h,h1⟩:=uF hinj h;obtain⟨h,h2⟩:=uF hinj h;obtain⟨h,h3,h4⟩:=ih h;refine⟨h,by simp[h3],fun i hi hi' S w ι a b ha hb=>?_⟩
   cases i with
   |zero=>exact⟨h1 ha,h2 hb⟩
   |succ i=>exact h4 i (by simpa using hi) (by simpa using hi') ha hb
theorem Od {o o1:AO} {K:Prop} (h:UU σ o o1 K):K∧o1.isTok=o.isTok∧o1.isExt=o.isExt∧o1.excl=o.excl∧∀{S:Imm} {w:World} {ι:Ix} {k k1:Nat},sgB σ k1=some k→gP S w ι k o→gP S w (ι.ren σ) k1 o1:=by
 have ko:∀{ι:Ix} {k k1 b:Nat},sgB σ k1=some k→ι.o k=some b→(ι.ren σ).o k1=some b:=fun h hb=>by simp[Ix.ren,h,hb]
 have kt:∀{ι:Ix} {k k1:Nat},sgB σ k1=some k→(ι.ren σ).t k1=ι.t k:=fun h=>by simp[Ix.ren,h]
 unfold UU at h;split at h
 ·split at h
  ·rename_i c1 fz1 c fz
   split at h
   ·split at h
    ·obtain⟨⟨h1⟩,h⟩:=h
     subst h1;exact⟨h,rfl,rfl,rfl,fun hk ⟨b,g1,g2⟩=>⟨b,ko hk g1,g2⟩⟩
    ·exact h.elim
   ·split at h
    ·exact h.elim
    ·obtain⟨h,h1,h2⟩:=Ob hinj h
     refine⟨h,rfl,rfl,rfl,fun hk ⟨b,arr,e,g1,g2,g3,g4,g5⟩=>⟨b,arr,e,ko hk g1,g2,by omega,fun j hj=>?_,g5⟩⟩
     have:=g4 j (by omega)
     exact h2 j (by omega) this
  ·exact h.elim
 ·split at h
  ·rw[aL]at h
   obtain⟨h1,⟨h2⟩,h⟩:=h;have h1:=aib h1;subst h1;subst h2;refine⟨h,rfl,rfl,rfl,fun hk ⟨g1,g2⟩=>⟨fun hz=>by rw[kt hk];exact g1 hz,fun hz=>?_⟩⟩
   obtain⟨b,arr,e,q1,q2,q3⟩:=g2 hz;exact⟨b,arr,e,by rw[kt hk];exact q1,q2,q3⟩
  ·exact h.elim
 ·split at h
  ·obtain⟨h,h1,h2⟩:=Oc hinj h
   refine⟨h,rfl,rfl,rfl,fun hk ⟨b,ents,clock,g1,g2,g3,g4⟩=>⟨b,ents,clock,ko hk g1,g2,by omega,fun i hi hi'=>?_⟩⟩
   obtain⟨q1,q2⟩:=g4 i (by omega) hi'
   exact h2 i (by omega) hi q1 q2
  ·exact h.elim
 ·split at h
  ·exact⟨h,rfl,rfl,rfl,fun hk ⟨b,g1,g2⟩=>⟨b,ko hk g1,g2⟩⟩
  ·exact h.elim
 ·split at h
  ·obtain⟨⟨h1,h2⟩,h⟩:=h
   subst h1;subst h2;refine⟨h,rfl,rfl,rfl,fun{S w ι k k1} hk ⟨g1,g2,g3⟩=>?_⟩;have hx:(ι.ren σ).x k1=ι.x k:=by funext b;simp[Ix.ren,hk]
   exact⟨by rw[hx];exact g1,g2,by rw[hx];exact g3⟩
  ·exact h.elim
 ·split at h
  ·obtain⟨⟨h1,h2⟩,h⟩:=h
   subst h1;subst h2;obtain⟨h,h3,h4⟩:=uG h;refine⟨h,rfl,rfl,rfl,fun{S w ι k k1} hk hr=>?_⟩;have hx:(ι.ren σ).x k1=ι.x k:=by funext b;simp[Ix.ren,hk]
   have hr:iJ S w ι k _ _ _:=hr;exact(hr.cong (by simp[Ix.ren,hk]) hx).with h4
  ·exact h.elim
 ·split at h
  ·obtain⟨⟨h1⟩,h⟩:=h
   subst h1;obtain⟨h,h3,h4⟩:=uG h;refine⟨h,rfl,rfl,rfl,fun{S w ι k k1} hk hr=>?_⟩;have hx:(ι.ren σ).x k1=ι.x k:=by funext b;simp[Ix.ren,hk]
   obtain⟨all,l,rc',g1,g2,g3,g4,g6,g5⟩:=hr;exact⟨all,l,rc',g1.cong (by simp[Ix.ren,hk]) hx,RC.kin_trans g2 h3,g3,g4,g6,fun i hi=>(g5 i hi).trans (h4 i hi)⟩
  ·rename_i all l rc'
   obtain⟨⟨h1,h2,h6⟩,h⟩:=h;obtain⟨h,h3,h4⟩:=uG h;refine⟨h,rfl,rfl,rfl,fun{S w ι k k1} hk hr=>?_⟩;have hx:(ι.ren σ).x k1=ι.x k:=by funext b;simp[Ix.ren,hk]
   have hr:iJ S w ι k _ _ _:=hr;exact⟨all,l,rc',hr.cong (by simp[Ix.ren,hk]) hx,h3,h1,h2,h6,h4⟩
  ·exact h.elim
 ·split at h
  ·rw[aL,aia]at h
   obtain⟨⟨h1,h2⟩,⟨h3⟩,h⟩:=h;have h1:=aib h1;have h2:=aib h2;subst h1;subst h2;subst h3;refine⟨h,rfl,rfl,rfl,fun{S w ι k k1} hk hr=>?_⟩;have hx:(ι.ren σ).x k1=ι.x k:=by funext b;simp[Ix.ren,hk]
   have hr:nu S w ι k _ _ _:=hr;exact hr.cong (by simp[Ix.ren,hk]) hx
  ·exact h.elim
 ·exact h.elim
theorem Kh {H:Hp}:∀{l:Hp} {k1:Nat} {K:Prop},xS σ H k1 l K→K∧∀i o1,ay l i=some o1→
 (∃k o,sgB σ (k1+i)=some k∧ay H k=some o∧o1.isTok=o.isTok∧o1.isExt=o.isExt∧o1.excl=o.excl∧∀{S:Imm} {w:World} {ι:Ix},gP S w ι k o→gP S w (ι.ren σ) (k1+i) o1)∨
 (sgB σ (k1+i)=none∧∃m,o1=.tok m 0):=by
 intro l;induction l with
 |nil=>intro k1 K h;exact⟨h,fun i o1 ho=>by simp[ay]at ho⟩
 |cons o l ih=>
  intro k1 K h;unfold xS at h;have shift:∀i,k1+1+i=k1+(i+1):=fun i=>by omega
  split at h
  ·rw[iM]at h
   obtain⟨h,h1⟩:=ih h;refine⟨h,fun i o1 ho=>?_⟩;cases i with
   |zero=>simp[ay]at ho
   |succ i=>rw[←shift];exact h1 i o1 ho
  ·rename_i o1
   split at h
   ·rename_i k hk
    rw[aX]at h;obtain⟨ob,hob,h⟩:=h;obtain⟨h,a1,a2,a3,a4⟩:=Od hinj h;rw[iM]at h;obtain⟨h,h1⟩:=ih h;refine⟨h,fun i o2 ho=>?_⟩;cases i with
    |zero=>
     simp only[ay,Option.some.injEq]at ho;subst ho;exact .inl ⟨k,ob,hk,hob,a1,a2,a3,fun hh=>a4 hk hh⟩
    |succ i=>rw[←shift];exact h1 i o2 ho
   ·rename_i hk
    split at h
    ·rename_i m
     rw[iM]at h;obtain⟨h,h1⟩:=ih h;refine⟨h,fun i o2 ho=>?_⟩;cases i with
     |zero=>simp only[ay,Option.some.injEq]at ho;exact .inr ⟨hk,m,ho.symm⟩
     |succ i=>rw[←shift];exact h1 i o2 ho
    ·exact h.elim
end
theorem gy {B:Imm→World→Prop} {σ:Sg} {p:Nat} {env env1:Env} {H H1:Hp} {K:Prop} (h:mH σ p env H env1 H1 K):K∧Sub B p env H env1 H1:=by
 unfold mH at h;rw[aL,aia]at h;obtain⟨⟨h1,h2⟩,h⟩:=h;have hs:=Kg h1;have hinj:∀x∈σ,sgB σ x.2=some x.1:=fun x hx=>(hs x hx).1;obtain⟨h,h3,h4⟩:=yL hinj h;obtain⟨h,h5⟩:=Kh hinj h;simp only[aic]at h5;refine⟨h,fun S0 w0 ι0 H0 a w hA=>?_⟩;obtain⟨S,ι,hb,M,R,D,D',T⟩:=hA.ex;have hfun:∀{k k1 k2:Nat},sgB σ k1=some k→sgB σ k2=some k→k1=k2:=fun e1 e2=>by
  have a1:=(hs _ (nJ e1)).2.1;have a2:=(hs _ (nJ e2)).2.1;simp only at a1 a2;rw[a1]at a2;exact Option.some.inj a2
 have hhas:∀{k k1:Nat} {o o1:AO} {b:Nat},sgB σ k1=some k→o1.isTok=o.isTok→o1.isExt=o.isExt→o1.excl=o.excl→(o1.has (ι.ren σ) k1 b↔o.has ι k b):=by
  intro k k1 o o1 b hk ht he hx;exact ow (by simp[Ix.ren,hk]) (by simp[Ix.ren,hk]) (by funext b;simp[Ix.ren,hk]) ht he hx b
 have hvirg:∀{k1 b m:Nat},sgB σ k1=none→¬(AO.tok m 0).has (ι.ren σ) k1 b:=by
  intro k1 b m hk hh;obtain⟨n,hh⟩:=hh;simp[Ix.ren,hk]at hh
 have hown:∀b,owned (ι.ren σ) H1 b→owned ι H b:=by
  rintro b ⟨k1,o1,g1,g2,g3⟩
  rcases h5 k1 o1 g1 with⟨k,o,q1,q2,q3,q4,q5,q6⟩|⟨q1,m,rfl⟩
  ·exact⟨k,o,q2,q5▸g2,(hhas q1 q3 q4 q5).1 g3⟩
  ·exact absurd g3 (hvirg q1)
 refine⟨S,ι.ren σ,hb,⟨?_,?_,?_,?_,M.imm⟩,⟨h3▸R.1,fun i hi=>h4 i (R.2 i (by omega))⟩,⟨fun d hd=>?_,D.nodup⟩,D',?_⟩
 ·intro k1 o1 g1
  rcases h5 k1 o1 g1 with⟨k,o,q1,q2,q3,q4,q5,q6⟩|⟨q1,m,rfl⟩
  ·exact q6 (M.obj k o q2)
  ·exact⟨fun _=>by simp[Ix.ren,q1],fun h=>by omega⟩
 ·intro k1 b g1
  cases e:sgB σ k1 with
  |none=>simp[Ix.ren,e]at g1
  |some k=>
   simp only[Ix.ren,e,ajf]at g1;obtain⟨o,q1,q2⟩:=M.liveO k b g1;have hsome:=(hs _ (nJ e)).2.2 (by simp[q1])
   obtain⟨o1,ho1⟩:=ahY.1 hsome;rcases h5 k1 o1 ho1 with⟨k',o',r1,r2,r3,_⟩|⟨r1,_⟩
   ·rw[e]at r1;cases r1;rw[q1]at r2;cases r2;exact⟨o1,ho1,r3.trans q2⟩
   ·rw[e]at r1;cases r1
 ·intro k1 b g1
  cases e:sgB σ k1 with
  |none=>simp[Ix.ren,e]at g1
  |some k=>
   simp only[Ix.ren,e,ajf]at g1;obtain⟨o,q1,q2⟩:=M.liveT k b g1;have hsome:=(hs _ (nJ e)).2.2 (by simp[q1])
   obtain⟨o1,ho1⟩:=ahY.1 hsome;rcases h5 k1 o1 ho1 with⟨k',o',r1,r2,r3,_⟩|⟨r1,_⟩
   ·rw[e]at r1;cases r1;rw[q1]at r2;cases r2;exact⟨o1,ho1,r3.trans q2⟩
   ·rw[e]at r1;cases r1
 ·intro k1 k2 o1 o2 b g1 g2 b1 b2
  rcases h5 k1 o1 g1 with⟨ka,oa,q1,q2,q3,q4,q5,q6⟩|⟨q1,m,rfl⟩
  ·rcases h5 k2 o2 g2 with⟨kb,ob,r1,r2,r3,r4,r5,r6⟩|⟨r1,m,rfl⟩
   ·have:=M.dist ka kb oa ob b q2 r2 ((hhas q1 q3 q4 q5).1 b1) ((hhas r1 r3 r4 r5).1 b2)
    subst this;exact hfun q1 r1
   ·exact absurd b2 (hvirg r1)
  ·exact absurd b1 (hvirg q1)
 ·obtain⟨b,q1,q2,q3⟩:=D.all d hd
  exact⟨b,q1,q2,fun hh=>q3 (hown b hh)⟩
 ·refine⟨T.below,T.same,T.keeps,T.immN,fun b hh=>T.own b (hown b hh),fun k hk b hi=>?_,fun k hk b n hi=>?_⟩
  ·have:=T.protO k hk b hi
   obtain⟨o,ho,_⟩:=M.liveO k b this;simp[Ix.ren,AU h2 k hk (by rw[ho];simp),this]
  ·obtain⟨b',n',r1,r2⟩:=T.protT k hk b n hi
   obtain⟨o,ho,_⟩:=M.liveT k _ r1;exact⟨b',n',by simp[Ix.ren,AU h2 k hk (by rw[ho];simp),r1],r2⟩
def CO:List Oper→List Nat
 | []=>[]
 |o::r=>match o.dst with|some d=>d::CO r|none=>CO r
def dstsOf:Code→List Nat
 |.region _ ops _=>CO ops.toList
 |.seq a b=>dstsOf a++dstsOf b
 |.cond _ a b=>dstsOf a++dstsOf b
 |.block _ c=>dstsOf c
 |.loop c=>dstsOf c
 |.scope c=>dstsOf c
 |.rangeFunc _ ps a b=>ps.toList++dstsOf a++dstsOf b
 |_=>[]
def UW:Nat→Env→List Nat→Env
 |_,[],_=>[]
 |i,v::r,ds=>(match gT i ds with|true=>.any|false=>v)::UW (i+1) r ds
def UY:Env→List (Nat × PV)→Env
 |env,[]=>env
 |env,(i,v)::r=>UY (env.set i v) r
def stE (c:Code) (env:Env) (us:List (Nat × PV)):Env:=UY (UW 0 env (dstsOf c)) us
def jZ (extra:Sg) (H:Hp):Nat→Hp→Sg
 |_,[]=>[]
 |k,o::r=>match o with
  |none=>jZ extra H (k+1) r
  |some _=>match sgB extra k with
   |some a=>(a,k)::jZ extra H (k+1) r
   |none=>match ay H k with
    |some _=>match sgF extra k with
     |none=>(k,k)::jZ extra H (k+1) r
     |some _=>jZ extra H (k+1) r
    |none=>jZ extra H (k+1) r
def fK (σ:Sg) (K:Sg→Prop):Prop:=
 match σ with
 | []=>K []
 |(a,b)::r=>iL a fun a=>iL b fun b=>fK r fun r=>K ((a,b)::r)
theorem fq (σ:Sg) (K:Sg→Prop):fK σ K=K σ:=by
 induction σ generalizing K with
 |nil=>rfl
 |cons x r ih=>obtain⟨a,b⟩:=x;simp only[fK,iM,ih]
structure Nx (q:Prop):Prop where
 get:q
theorem nM {q:Prop} (h:q):Nx q:=⟨h⟩
structure Ok:Prop where
section
variable {P:Program} {r:Option Nat} {τ:TypeId→Option TE} {B:Imm→World→Prop} {p:Nat}
structure Walk (P:Program) (r:Option Nat) (B:Imm→World→Prop) (τ:TypeId→Option TE) (CP:CPT) (YP:YPT):Prop where
 hB:BOK B
 hm:P.follows .mixedOrders=true
 hτ:aY P τ
 hC:jU P B CP
 hY:kS P r B YP
theorem aM {X:Type} (I:X→Prop) (us:X→List (Nat × PV)) (hs:X→List (Nat × AO)) (μ:X→Nat) (x0:X) {md rf CP YP} (W:Walk P r B τ CP YP)
 {c:Code} {n:Nat} {Q:Exit→Env→Hp→Prop} {env:Env} {H:Hp} (hok:dL c=true) (hI:I x0)
 (h0:fD (hs x0) H fun H1=>bN (stE c env (us x0)) fun env1=>fK (jZ [] H 0 H1) fun σ=>mH σ p env H env1 H1 Ok)
 (hb:∀x,I x→fD (hs x) H fun H1=>bN (stE c env (us x)) fun env1=>ev P r B p τ md rf CP YP c n env1 H1 fun e env' H' _=>match e with
  |.normal=>Nx (∃(x':X) (extra:Sg),(I x'∧μ x'<μ x)∧fD (hs x') H fun H1=>bN (stE c env (us x')) fun env1=>fK (jZ extra H' 0 H1) fun σ=>mH σ p env' H' env1 H1 Ok)
  |e=>Q e env' H'):Lp md rf CP YP n (AW P r B p (.loop c) Q env H):=by
 refine⟨Cz (X:={x:X // I x}) (fun x=>(stE c env (us x.1),aZ H (hs x.1))) (fun x=>μ x.1) ⟨x0,hI⟩ ?_ fun x=>?_⟩
 ·simp only[fI,bg,fq]at h0
  exact(gy h0).2
 ·have h:=hb x.1 x.2
  simp only[fI,bg,fq]at h;refine(iB W.hB W.hm W.hτ W.hC W.hY c hok _ _ _ _ h).mono ?_
  rintro e env' H' ⟨_,h⟩
  cases e with
  |normal=>
   obtain⟨x',extra,⟨h0,h1⟩,h2⟩:=h.get;exact⟨⟨x',h0⟩,h1,(gy h2).2⟩
  |_=>exact h
end
abbrev CT:=List PV→Nat→Hp→KR→Prop
def COK (P:Program) (g:FuncId) (C:CT):Prop:=∀args n H K,C args n H K→∃v sets accs news,K v sets accs news∧iZ P g args H v sets accs news
def aA (g:FuncId) (C:CT) (CP:CPT):CPT:=fun f args n H K=>match ah6 f g with|true=>C args n H K|false=>CP f args n H K
theorem aj {P:Program} {g:FuncId} {C:CT} {CP:CPT} (h:COK P g C) (hC:aW P CP):aW P (aA g C CP):=by
 intro f args n H K hk;unfold aA at hk;cases hb:ah6 f g with
 |true=>rw[hb]at hk;rw[aib hb];exact h _ _ _ _ hk
 |false=>rw[hb]at hk;exact hC _ _ _ _ _ hk
abbrev PSp:=List PV→(PV→Prop)→Prop
def POK (P:Program) (g:FuncId) (C:PSp):Prop:=∀as K,C as K→∃v,K v∧aF P g as v
def aB (C:PSp):CT:=fun args n H K=>rA args fun as=>C as fun v=>K v [] [] []
theorem ak {P:Program} {g:FuncId} {C:PSp} (h:POK P g C):COK P g (aB C):=by
 intro args n H K hk;unfold aB rA at hk;split at hk
 ·rename_i as ha
  rw[bg]at hk;obtain⟨v,hK,hs⟩:=h _ _ hk;exact⟨v,[],[],[],hK,wD ha hs⟩
 ·exact hk.elim
end Go.Eng
namespace Go.Eng
structure Rn (md:Nat) (rf:List Nat) (CP:CPT) (YP:YPT) (n:Nat) (q:Prop):Prop where
 get:q
section
variable {P:Program} {r:Option Nat} {τ:TypeId→Option TE} {B:Imm→World→Prop} {p:Nat}
end
end Go.Eng
namespace Go.Eng
open Go.RowKit
set_option linter.unusedSimpArgs false
set_option linter.unusedVariables false
def mI (σ:Sg):List PV→Option (List PV)
 | []=>some []
 |x::xs=>match qC σ x with
  |some y=>match mI σ xs with
   |some ys=>some (y::ys)
   |none=>none
  |none=>none
theorem zi {S:Imm} {w:World} {σ:Sg} {ι ι1:Ix} (R:uz σ ι ι1):∀{ps qs:List PV},mI σ ps=some qs→qs.length=ps.length∧∀i,i<ps.length→∀{v:Value},Rep S w ι (aD ps i) v→Rep S w ι1 (aD qs i) v:=by
 intro ps;induction ps with
 |nil=>intro qs h;simp[mI]at h;subst h;exact⟨rfl,fun i hi=>by simp at hi⟩
 |cons p ps ih=>
  intro qs h;unfold mI at h;split at h
  ·rename_i y hy
   split at h
   ·rename_i ys hys
    cases h
    obtain⟨h1,h2⟩:=ih hys;refine⟨by simp[h1],fun i hi=>?_⟩
    cases i with
    |zero=>intro v hr;exact xR R hy hr
    |succ i=>exact h2 i (by simpa using hi)
   ·cases h
  ·cases h
def mJ (σ:Sg):List (PV × PV)→Option (List (PV × PV))
 | []=>some []
 |(p,u)::xs=>match qC σ p with
  |some q=>match qC σ u with
   |some v=>match mJ σ xs with
    |some ys=>some ((q,v)::ys)
    |none=>none
   |none=>none
  |none=>none
theorem UZ {S:Imm} {w:World} {σ:Sg} {ι ι1:Ix} (R:uz σ ι ι1):∀{ps qs:List (PV × PV)},mJ σ ps=some qs→qs.length=ps.length∧
 ∀i (h:i<ps.length) (h':i<qs.length),(∀{v:Value},Rep S w ι ps[i].1 v→Rep S w ι1 qs[i].1 v)∧(∀{v:Value},Rep S w ι ps[i].2 v→Rep S w ι1 qs[i].2 v):=by
 intro ps;induction ps with
 |nil=>intro qs h;simp[mJ]at h;subst h;exact⟨rfl,fun i hi=>by simp at hi⟩
 |cons p ps ih=>
  intro qs h;obtain⟨p,u⟩:=p;unfold mJ at h;split at h
  ·rename_i q hq
   split at h
   ·rename_i y hy
    split at h
    ·rename_i ys hys
     cases h
     obtain⟨h1,h2⟩:=ih hys;refine⟨by simp[h1],fun i hi hi'=>?_⟩
     cases i with
     |zero=>exact⟨fun hr=>xR R hq hr,fun hr=>xR R hy hr⟩
     |succ i=>exact h2 i (by simpa using hi) (by simpa using hi')
    ·cases h
   ·cases h
  ·cases h
def j5 (σ:Sg):AO→Option AO
 |.cells c fz=>match fz with
  |true=>some (.cells c true)
  |false=>match c with
   |.pv ds=>match mI σ ds with|some es=>some (.cells (.pv es) false)|none=>none
   |.ints k xs=>some (.cells (.ints k xs) false)
   |.bools xs=>some (.cells (.bools xs) false)
   |.strs xs=>some (.cells (.strs xs) false)
   |.rows k xs=>some (.cells (.rows k xs) false)
   |_=>none
 |.tok m n=>some (.tok m n)
 |.ext G pre=>some (.ext G pre)
 |.mat all l rc=>some (.mat all l rc)
 |.pmat n rc=>some (.pmat n rc)
 |.bld t e s=>some (.bld t e s)
 |.map es=>match mJ σ es with|some ds=>some (.map ds)|none=>none
 |_=>none
theorem uH {σ:Sg} {ι ι1:Ix} (R:uz σ ι ι1) {o o1:AO} (h:j5 σ o=some o1) {S:Imm} {w:World} {k k1:Nat} (ho:ι1.o k1=ι.o k) (ht:ι1.t k1=ι.t k) (hx:ι1.x k1=ι.x k) (hr:gP S w ι k o):
 gP S w ι1 k1 o1∧o1.isTok=o.isTok∧o1.isExt=o.isExt∧o1.excl=o.excl:=by
 unfold j5 at h;split at h
 ·rename_i c fz
  split at h
  ·cases h
   obtain⟨b,g1,g2⟩:=hr;exact⟨⟨b,ho.trans g1,g2⟩,rfl,rfl,rfl⟩
  ·obtain⟨b,arr,e,g1,g2,g3,g4,g5⟩:=hr
   have mk:∀c1:CL,c1.ncell=c.ncell→(∀j,j<c.ncell→∀v,Rep S w ι (c.get j) v→Rep S w ι1 (c1.get j) v)→gP S w ι1 k1 (.cells c1 false):=
    fun c1 hn hc=>⟨b,arr,e,ho.trans g1,g2,by omega,fun j hj=>hc j (by omega) _ (g4 j (by omega)),g5⟩
   split at h
   ·split at h
    ·rename_i ds es hes
     cases h
     obtain⟨q1,q2⟩:=zi R hes (S:=S) (w:=w);exact⟨mk _ q1 (fun j hj v hv=>q2 j hj hv),rfl,rfl,rfl⟩
    ·cases h
   ·cases h;exact⟨mk _ rfl (fun j hj v hv=>by cases hv;exact .int _ _ _),rfl,rfl,rfl⟩
   ·cases h;exact⟨mk _ rfl (fun j hj v hv=>by cases hv;exact .bp _ _),rfl,rfl,rfl⟩
   ·cases h;exact⟨mk _ rfl (fun j hj v hv=>by cases hv;exact .str _ _),rfl,rfl,rfl⟩
   ·cases h;exact⟨mk _ rfl (fun j hj v hv=>hv.toNoI.up _),rfl,rfl,rfl⟩
   ·cases h
 ·cases h
  obtain⟨g1,g2⟩:=hr;refine⟨⟨fun hz=>ht.trans (g1 hz),fun hz=>?_⟩,rfl,rfl,rfl⟩;obtain⟨b,arr,e,q1,q2,q3⟩:=g2 hz;exact⟨b,arr,e,ht.trans q1,q2,q3⟩
 ·cases h
  obtain⟨g1,g2,g3⟩:=hr;exact⟨⟨fun b hb=>g1 b (by rw[←hx];exact hb),g2,by rw[hx];exact g3⟩,rfl,rfl,rfl⟩
 ·cases h
  have hr:iJ S w ι k _ _ _:=hr;exact⟨hr.cong ho hx,rfl,rfl,rfl⟩
 ·cases h
  obtain⟨all,l,rc',g1,g2⟩:=hr;exact⟨⟨all,l,rc',g1.cong ho hx,g2⟩,rfl,rfl,rfl⟩
 ·cases h
  have hr:nu S w ι k _ _ _:=hr;exact⟨hr.cong ho hx,rfl,rfl,rfl⟩
 ·split at h
  ·rename_i ds hds
   cases h
   obtain⟨b,ents,clock,g1,g2,g3,g4⟩:=hr;obtain⟨q1,q2⟩:=UZ (S:=S) (w:=w) R hds;exact⟨⟨b,ents,clock,ho.trans g1,g2,g3.trans q1.symm,fun i hl hl'=>⟨(q2 i (by omega) hl).1 (g4 i (by omega) hl').1,(q2 i (by omega) hl).2 (g4 i (by omega) hl').2⟩⟩,rfl,rfl,rfl⟩
  ·cases h
 ·cases h
structure qD (σ:Sg):Prop where
 b:∀x∈σ,sgB σ x.2=some x.1
 f:∀x∈σ,sgF σ x.1=some x.2
theorem qD.inj {σ:Sg} (h:qD σ) {k k1 k2:Nat} (e1:sgB σ k1=some k) (e2:sgB σ k2=some k):k1=k2:=by
 have a1:=h.f _ (nJ e1);have a2:=h.f _ (nJ e2);simp only at a1 a2;rw[a1]at a2;exact Option.some.inj a2
theorem qD.fb {σ:Sg} (h:qD σ) {k k':Nat} (e:sgF σ k=some k'):sgB σ k'=some k:=CF e h.b
theorem qD.bf {σ:Sg} (h:qD σ) {k k':Nat} (e:sgB σ k'=some k):sgF σ k=some k':=h.f _ (nJ e)
theorem Mem.lend {S:Imm} {w:World} {ι:Ix} {H H1:Hp} (M:Mem S w ι H) {σ:Sg} (hσ:qD σ) (hA:∀k1 o1,ay H1 k1=some o1→∃k o,sgB σ k1=some k∧ay H k=some o∧j5 σ o=some o1)
 (hB:∀k k1,sgB σ k1=some k→(ay H k).isSome→(ay H1 k1).isSome):Mem S w (ι.ren σ) H1∧∀b,owned (ι.ren σ) H1 b→owned ι H b:=by
 have R:=rD hσ.b ι;have eo:∀{k k1},sgB σ k1=some k→(ι.ren σ).o k1=ι.o k:=fun h=>by simp[Ix.ren,h]
 have et:∀{k k1},sgB σ k1=some k→(ι.ren σ).t k1=ι.t k:=fun h=>by simp[Ix.ren,h]
 have ex:∀{k k1},sgB σ k1=some k→(ι.ren σ).x k1=ι.x k:=fun h=>by funext b;simp[Ix.ren,h]
 have all:∀k1 o1,ay H1 k1=some o1→∃k o,sgB σ k1=some k∧ay H k=some o∧gP S w (ι.ren σ) k1 o1∧o1.isTok=o.isTok∧o1.excl=o.excl∧∀b,o1.has (ι.ren σ) k1 b↔o.has ι k b:=by
  intro k1 o1 h1;obtain⟨k,o,q1,q2,q3⟩:=hA k1 o1 h1;obtain⟨r1,r2,r3,r5⟩:=uH R q3 (eo q1) (et q1) (ex q1) (M.obj k o q2);refine⟨k,o,q1,q2,r1,r2,r5,fun b=>?_⟩;exact ow (eo q1) (et q1) (ex q1) r2 r3 r5 b
 refine⟨⟨fun k1 o1 h1=>?_,fun k1 b h=>?_,fun k1 b h=>?_,fun k1 k2 o1 o2 b h1 h2 b1 b2=>?_,M.imm⟩,?_⟩
 ·obtain⟨k,o,_,_,r,_⟩:=all k1 o1 h1;exact r
 ·cases e:sgB σ k1 with
  |none=>simp[Ix.ren,e]at h
  |some k=>
   rw[eo e]at h;obtain⟨o,g1,g2⟩:=M.liveO k b h;obtain⟨o1,ho1⟩:=ahY.1 (hB k k1 e (by simp[g1]))
   obtain⟨k',o',q1,q2,_,q3,_⟩:=all k1 o1 ho1;rw[e]at q1;cases q1;rw[g1]at q2;cases q2
   exact⟨o1,ho1,q3.trans g2⟩
 ·cases e:sgB σ k1 with
  |none=>simp[Ix.ren,e]at h
  |some k=>
   rw[et e]at h;obtain⟨o,g1,g2⟩:=M.liveT k b h;obtain⟨o1,ho1⟩:=ahY.1 (hB k k1 e (by simp[g1]))
   obtain⟨k',o',q1,q2,_,q3,_⟩:=all k1 o1 ho1;rw[e]at q1;cases q1;rw[g1]at q2;cases q2
   exact⟨o1,ho1,q3.trans g2⟩
 ·obtain⟨ka,oa,p1,p2,_,_,_,p3⟩:=all k1 o1 h1
  obtain⟨kb,ob,q1,q2,_,_,_,q3⟩:=all k2 o2 h2;have:=M.dist ka kb oa ob b p2 q2 ((p3 b).1 b1) ((q3 b).1 b2);subst this;exact hσ.inj p1 q1
 ·rintro b ⟨k1,o1,h1,h2,h3⟩
  obtain⟨k,o,p1,p2,_,_,p4,p3⟩:=all k1 o1 h1;exact⟨k,o,p2,p4▸h2,(p3 b).1 h3⟩
def Ix.merge (ι ιl:Ix) (σ:Sg):Ix:=
 ⟨fun k=>match sgB σ k with|some i=>ιl.o i|none=>ι.o k,fun k=>match sgB σ k with|some i=>ιl.t i|none=>ι.t k,fun k=>match sgB σ k with|some i=>ιl.x i|none=>ι.x k⟩
theorem yM {σ:Sg} (hσ:qD σ) (ι ιl:Ix):uz σ ιl (ι.merge ιl σ):=
 ⟨fun k k' b h hb=>by simp[Ix.merge,hσ.fb h,hb],fun k k' b h hb=>by simp[Ix.merge,hσ.fb h,hb]⟩
theorem Mem.back {S S':Imm} {w w':World} {ι ιl':Ix} {H HL HL' H'':Hp} {σ τn:Sg} {m:Nat} (M:Mem S w ι H) (hσ:qD σ) (hτ:qD τn) (M':Mem S' w' ιl' HL') (T:Tr m S w (ι.ren τn) HL S' w' ιl' HL')
 (hown:∀b,owned (ι.ren τn) HL b→owned ι H b)
 (hlent:∀i k,sgB σ k=some i→(∃o',ay HL' i=some o')∧((i<m∧sgB τn i=some k)∨ay H k=none))
 (hleft:∀k,sgB σ k=none→ay H'' k=ay H k∧∀i,sgB τn i≠some k)
 (hback:∀i k,sgB σ k=some i→∃o' o'',ay HL' i=some o'∧j5 σ o'=some o''∧ay H'' k=some o'')
 (hLown:∀b,owned (ι.ren τn) HL b→∃i k,sgB τn i=some k∧i<m∧∃o,ay H k=some o∧o.has ι k b):
 Mem S' w' (ι.merge ιl' σ) H''∧ι.le (ι.merge ιl' σ)∧∀p,Tr p S w ι H S' w' (ι.merge ιl' σ) H'':=by
 have R:=yM hσ ι ιl';have eo:∀{i k},sgB σ k=some i→(ι.merge ιl' σ).o k=ιl'.o i:=fun h=>by simp[Ix.merge,h]
 have et:∀{i k},sgB σ k=some i→(ι.merge ιl' σ).t k=ιl'.t i:=fun h=>by simp[Ix.merge,h]
 have no:∀{k},sgB σ k=none→(ι.merge ιl' σ).o k=ι.o k:=fun h=>by simp[Ix.merge,h]
 have nt:∀{k},sgB σ k=none→(ι.merge ιl' σ).t k=ι.t k:=fun h=>by simp[Ix.merge,h]
 have ex:∀{i k},sgB σ k=some i→(ι.merge ιl' σ).x k=ιl'.x i:=fun h=>by simp[Ix.merge,h]
 have nx:∀{k},sgB σ k=none→(ι.merge ιl' σ).x k=ι.x k:=fun h=>by simp[Ix.merge,h]
 have le:ι.le (ι.merge ιl' σ):=by
  refine⟨fun k b hb=>?_,fun k b n hb=>?_⟩
  ·cases e:sgB σ k with
   |none=>rw[no e];exact hb
   |some i=>
    rw[eo e];rcases(hlent i k e).2 with⟨h1,h2⟩|h2
    ·exact T.protO i h1 b (by simp[Ix.ren,h2,hb])
    ·rw[M.none_o h2]at hb;cases hb
  ·cases e:sgB σ k with
   |none=>rw[nt e];exact⟨b,n,hb,.inl ⟨rfl,ahO _⟩⟩
   |some i=>
    rw[et e];rcases(hlent i k e).2 with⟨h1,h2⟩|h2
    ·exact T.protT i h1 b n (by simp[Ix.ren,h2,hb])
    ·rw[M.none_t h2]at hb;cases hb
 have away:∀k o b,sgB σ k=none→ay H k=some o→o.has ι k b→b<w.heap.size∧¬owned (ι.ren τn) HL b:=by
  intro k o b hk ho hb;refine⟨(M.obj k o ho).lt hb,fun h=>?_⟩;obtain⟨i,k',q1,q2,o',q3,q4⟩:=hLown b h;have:=M.dist k k' o o' b ho q3 hb q4;subst this;exact(hleft k hk).2 i q1
 have inn:∀i k o'',sgB σ k=some i→ay H'' k=some o''→∃o',ay HL' i=some o'∧gP S' w' (ι.merge ιl' σ) k o''∧o''.isTok=o'.isTok∧o''.excl=o'.excl∧∀b,o''.has (ι.merge ιl' σ) k b↔o'.has ιl' i b:=by
  intro i k o'' hk h'';obtain⟨o',o2,p1,p2,p3⟩:=hback i k hk;rw[h'']at p3;cases p3
  obtain⟨r1,r2,r3,r5⟩:=uH R p2 (eo hk) (et hk) (ex hk) (M'.obj i o' p1);refine⟨o',p1,r1,r2,r5,fun b=>?_⟩;exact ow (eo hk) (et hk) (ex hk) r2 r3 r5 b
 have nhas:∀{k o b},sgB σ k=none→(AO.has (ι.merge ιl' σ) k o b↔AO.has ι k o b):=by
  intro k o b hk;cases o<;>simp[AO.has,no hk,nt hk,nx hk]
 have mixed:∀i k1 k2 o1 o2 b,sgB σ k1=some i→sgB σ k2=none→ay H'' k1=some o1→ay H k2=some o2→o1.has (ι.merge ιl' σ) k1 b→o2.has ι k2 b→False:=by
  intro i k1 k2 o1 o2 b e1 e2 h1 h2 b1 b2;obtain⟨hlt,hno⟩:=away k2 o2 b e2 h2 b2;obtain⟨o',p1,_,p3,p4,p5⟩:=inn i k1 o1 e1 h1;have hb':=(p5 b).1 b1;rcases T.own b ⟨i,o',p1,qz hb',hb'⟩with h|h
  ·exact hno h
  ·omega
 refine⟨⟨fun k o'' h''=>?_,fun k b hb=>?_,fun k b hb=>?_,fun k1 k2 o1 o2 b h1 h2 b1 b2=>?_,M'.imm⟩,le,fun p=>⟨T.below,fun b hb ho=>T.same b hb (fun h=>ho (hown b h)),T.keeps,fun b j hb hs=>Or.imp id (hown b) (T.immN b j hb hs),?_,fun k _ b hb=>le.o k b hb,fun k _ b n hb=>le.t k b n hb⟩⟩
 ·cases e:sgB σ k with
  |some i=>obtain⟨_,_,r,_⟩:=inn i k o'' e h'';exact r
  |none=>
   rw[(hleft k e).1]at h'';exact(M.obj k o'' h'').mono T.keeps le T.below (fun b hb=>T.same b (away k o'' b e h'' hb).1 (away k o'' b e h'' hb).2) (fun _=>nt e) (nx e)
    (fun b j hb hs=>(T.immN b j (away k o'' b e h'' hb).1 hs).resolve_right (away k o'' b e h'' hb).2)
 ·cases e:sgB σ k with
  |some i=>
   rw[eo e]at hb;obtain⟨o',g1,g2⟩:=M'.liveO i b hb;obtain⟨o2,o'',p1,p2,p3⟩:=hback i k e;obtain⟨o3,q1,_,q3,_⟩:=inn i k o'' e p3;rw[g1]at q1;cases q1
   exact⟨o'',p3,q3.trans g2⟩
  |none=>rw[no e]at hb;rw[(hleft k e).1];exact M.liveO k b hb
 ·cases e:sgB σ k with
  |some i=>
   rw[et e]at hb;obtain⟨o',g1,g2⟩:=M'.liveT i b hb;obtain⟨o2,o'',p1,p2,p3⟩:=hback i k e;obtain⟨o3,q1,_,q3,_⟩:=inn i k o'' e p3;rw[g1]at q1;cases q1
   exact⟨o'',p3,q3.trans g2⟩
  |none=>rw[nt e]at hb;rw[(hleft k e).1];exact M.liveT k b hb
 ·cases e1:sgB σ k1 with
  |some i1=>
   cases e2:sgB σ k2 with
   |some i2=>
    obtain⟨oa,p1,_,_,_,p5⟩:=inn i1 k1 o1 e1 h1;obtain⟨ob,q1,_,_,_,q5⟩:=inn i2 k2 o2 e2 h2;have:=M'.dist i1 i2 oa ob b p1 q1 ((p5 b).1 b1) ((q5 b).1 b2);subst this;exact hσ.inj e1 e2
   |none=>rw[(hleft k2 e2).1]at h2;exact(mixed i1 k1 k2 o1 o2 b e1 e2 h1 h2 b1 ((nhas e2).1 b2)).elim
  |none=>
   rw[(hleft k1 e1).1]at h1;cases e2:sgB σ k2 with
   |some i2=>exact(mixed i2 k2 k1 o2 o1 b e2 e1 h2 h1 b2 ((nhas e1).1 b1)).elim
   |none=>rw[(hleft k2 e2).1]at h2;exact M.dist k1 k2 o1 o2 b h1 h2 ((nhas e1).1 b1) ((nhas e2).1 b2)
 ·rintro b ⟨k,o'',h1,h2,h3⟩
  cases e:sgB σ k with
  |some i=>
   obtain⟨o',p1,_,_,p4,p5⟩:=inn i k o'' e h1;exact(T.own b ⟨i,o',p1,p4▸h2,(p5 b).1 h3⟩).imp (hown b) id
  |none=>rw[(hleft k e).1]at h1;exact .inl ⟨k,o'',h1,h2,(nhas e).1 h3⟩
def fA (l:List AO):Hp:=l.map some
theorem jc (l:List AO):∀k,ay (fA l) k=l[k]? :=by
 induction l with
 |nil=>intro k;rfl
 |cons o r ih=>intro k;cases k with
  |zero=>rfl
  |succ k=>exact ih k
def AV (P:Program) (B:Imm→World→Prop) (g:FuncId) (args:List PV) (objs:List AO) (rs:List PV) (objs':List AO):Prop:=
 ∀(S:Imm) (w:World) (ι:Ix) (vs:Array Value),B S w→Mem S w ι (fA objs)→bF S w ι args vs→
  CallsIn (Fw none) 0 P g vs w fun e w'=>∃val S' ι',e=.returned val∧Mem S' w' ι' (fA objs')∧Rep S' w' ι' (bI rs) val∧Tr objs.length S w ι (fA objs) S' w' ι' (fA objs')
def jm (P:Program) (g:FuncId) (args:List PV) (objs:List AO) (rs:List PV) (objs':List AO):Prop:=Enters P g∧AV P kR g args objs rs objs'
def XC (τ:TypeId→Option TE) (fn:Func) (m:Nat) (extra:Sg) (rs:List PV) (objs':List AO) (e:Exit) (env:Env) (H:Hp):Prop:=
 match e with
 |.normal=>lN τ fn.results.toList env H fun vs=>fK (jZ extra H 0 (fA objs')) fun σ=>mH σ m vs H rs (fA objs') Ok
 |.ret=>lN τ fn.results.toList env H fun vs=>fK (jZ extra H 0 (fA objs')) fun σ=>mH σ m vs H rs (fA objs') Ok
 |_=>False
theorem Oe {S:Imm} {w:World} {ι:Ix} {us:List PV} {vals:List Value} (hlen:us.length=vals.length) (h:∀i,i<us.length→Rep S w ι (aD us i) (vals.getD i undef)):
 Rep S w ι (bI us) (if h:vals.toArray.size=1 then vals.toArray[0]else .tuple vals.toArray):=by
 match us,vals,hlen,h with
 | [],[],_,_=>exact .tup _ _ _ rfl (fun i hi=>by simp at hi)
 | [u],[x],_,h=>simpa [bI,aD]using h 0 (by simp)
 |u::u'::us,x::x'::xs,hlen,h=>
  have:¬(x::x'::xs).toArray.size=1:=by simp
  rw[dif_neg this];refine .tup _ _ _ (by simpa using hlen) (fun i hi=>?_)
  have:=h i hi;rw[ahW];simpa using this
section
variable {P:Program} {τ:TypeId→Option TE} {B:Imm→World→Prop}
theorem yN (hB:BOK B) (hτ:aY P τ) {g:FuncId} {fn:Func} {c:Code} {args rs:List PV} {objs objs':List AO} {extra:Sg} (hf:P.funcs[g]? =some fn) (hb:fn.body=some c)
 (h:AW P none B objs.length c (XC τ fn objs.length extra rs objs') (args++lJ (fn.ntmps-args.length)) (fA objs)):AV P B g args objs rs objs':=by
 intro S w ι vs hBw M hr;have hA:At B objs.length S w ι (fA objs) (args++lJ (fn.ntmps-args.length)) (fA objs) {tmps:=vs++aju (fn.ntmps-vs.size) undef,defers:=[]} w:=
  ⟨S,ι,hBw,M,by rw[hr.1];exact zf hr _,.nil _ _ _,fun d hd=>by simp at hd,.refl _ _ _ _ _⟩
 refine callsIn_of_wp_marks hf hb trivial (wpIn_mono (h S w ι (fA objs) _ w hA) ?_)
 rintro e ⟨tmps,ds⟩ w1 ⟨env',H',q,hA1⟩
 have fin:(lN τ fn.results.toList env' H' fun vs=>fK (jZ extra H' 0 (fA objs')) fun σ=>mH σ objs.length vs H' rs (fA objs') Ok)→
  LeavesInM (Fw none) 0 P fn tmps (fun e w'=>∃val S' ι',e=.returned val∧Mem S' w' ι' (fA objs')∧Rep S' w' ι' (bI rs) val∧Tr objs.length S w ι (fA objs) S' w' ι' (fA objs')) ds .returning w1:=by
  intro q;refine At.leave hB ds w1 hA1 fun w2 hA2=>?_;obtain⟨S2,ι2,hb2,M2,R2,D2,D2',T2⟩:=hA2.ex;obtain⟨vs1,q,hs⟩:=uy (P:=P) hτ _ q;rw[fq]at q;obtain⟨vals,r1,r2,r3⟩:=hs M2 R2;have hA3:At B objs.length S w ι (fA objs) vs1 H' {tmps:=vals.toArray,defers:=[]} w2:=
   ⟨S2,ι2,hb2,M2,⟨by simp[r2],fun i hi=>by have:=r3 i hi;simpa [ahW]using this⟩,D2,D2',T2⟩
  have hA4:=(gy (B:=B) q).2 _ _ _ _ _ _ hA3;obtain⟨S4,ι4,hb4,M4,R4,_,_,T4⟩:=hA4.ex;have hrun:(results fn tmps).run P w2=.ok (if h:vals.toArray.size=1 then vals.toArray[0]else .tuple vals.toArray) w2:=by
   unfold results;rw[Sem.run_bind,ajv,←bind_pure_comp,Sem.run_bind];have:(ajw (fun(x:ResultVar)=>(match x with|.tmp t=>pure (tmps.getD t undef)|.cell a t=>do loadVar t (←asAddr (tmps.getD a undef)):Sem Value)) fn.results.toList).run P w2=.ok vals w2:=r1
   erw [this]
   simp only[Result.andThen,Function.comp,Sem.run_pure]
  refine⟨_,hrun,_,S4,ι4,rfl,M4,?_,T4⟩;have h1:=R4.1;have h2:=R4.2;exact Oe (by simpa using h1) (fun i hi=>by have:=h2 i hi;simpa [ahW]using this)
 cases e with
 |normal=>exact fin q
 |ret=>exact fin q
 |_=>exact q.elim
end
def wG (P:Program) (B:Imm→World→Prop) (τ:TypeId→Option TE) (md:Nat) (rf:List Nat) (CP:CPT) (YP:YPT) (fn:Func) (args:List PV) (objs:List AO) (n0:Nat) (extra:Sg) (rs:List PV) (objs':List AO):Prop:=
 ev P none B objs.length τ md rf CP YP (fn.body.getD .skip) n0 (args++lJ (fn.ntmps-args.length)) (fA objs) fun e env H _=>XC τ fn objs.length extra rs objs' e env H
theorem bL {P:Program} {τ:TypeId→Option TE} (hm:P.follows .mixedOrders=true) (hτ:aY P τ) {md rf CP} (hC:aW P CP) {g:FuncId} {fn:Func} {args rs:List PV} {objs objs':List AO} (n0:Nat) (extra:Sg)
 (hf:P.funcs[g]? =some fn) (hn:(fn.name== "runtime.NumGoroutine")=false) (hb:fn.body.isSome=true) (hok:dL (fn.body.getD .skip)=true)
 (h:wG P kR τ md rf CP noY fn args objs n0 extra rs objs'):jm P g args objs rs objs':=by
 refine⟨enters hf hn (by cases h:fn.body<;>simp_all),?_⟩
 obtain⟨c,hc⟩:=ahY.1 hb;unfold wG at h;rw[hc]at h hok;exact yN aK hτ hf hc ((iB aK hm hτ hC aP c hok _ _ _ _ h).mono fun e env H ⟨n,h⟩=>h)
def U0:PV→List Nat
 |.rsl k _ _=>[k]
 |.rp k _=>[k]
 |.rpe k _ _ _=>[k]
 |.rm k=>[k]
 |.yld k=>[k]
 |.row k _ _=>[k]
 |.rowp k _ _ _ _=>[k]
 |.isl _ t=>match t with
  |.own k=>[k]
  |_=>[]
 |_=>[]
def xU:List PV→List Nat
 | []=>[]
 |x::xs=>U0 x++xU xs
def acO:PV→List Nat
 |.agg cs=>xU cs
 |.tup cs=>xU cs
 |.fn _ us vs=>xU us++xU vs
 |p=>U0 p
def uI:List PV→List Nat
 | []=>[]
 |x::xs=>acO x++uI xs
def agp:AO→List Nat
 |.cells c _=>match c with
  |.pv ds=>uI ds
  |_=>[]
 |_=>[]
def lI (H:Hp):Nat→List Nat→List Nat→List Nat
 |0,_,done=>done
 |_+1,[],done=>done
 |f+1,k::r,done=>match gT k done with
  |true=>lI H f r done
  |false=>match ay H k with
   |some o=>lI H f (r++agp o) (done++[k])
   |none=>lI H f r done
def kT:List Nat→Nat→Sg
 | [],_=>[]
 |k::r,j=>(k,j)::kT r (j+1)
def AX:Sg→Sg
 | []=>[]
 |(a,b)::r=>(b,a)::AX r
def gY (σ:Sg):Sg→Bool
 | []=>true
 |(a,b)::r=>match eqO (sgB σ b) a&&eqO (sgF σ a) b with|true=>gY σ r|false=>false
theorem vI {σ:Sg}:∀{r:Sg},gY σ r=true→∀x∈r,sgB σ x.2=some x.1∧sgF σ x.1=some x.2:=by
 intro r;induction r with
 |nil=>intro _ x hx;simp at hx
 |cons y r ih=>
  intro h x hx;obtain⟨a,b⟩:=y;simp only[gY]at h;split at h
  ·rename_i hb
   rcases ajg.1 hx with e|hx
   ·subst e
    simp only[aia,CJ]at hb;exact hb
   ·exact ih h x hx
  ·cases h
theorem Q9 {σ:Sg} (h:gY σ σ=true):qD σ:=⟨fun x hx=>(vI h x hx).1,fun x hx=>(vI h x hx).2⟩
theorem U2:∀(ks:List Nat) (j x:Nat),sgB (kT ks j) (j+x)=ks[x]? :=by
 intro ks;induction ks with
 |nil=>intro j x;rfl
 |cons k r ih=>
  intro j x;simp only[kT,sgB];cases x with
  |zero=>simp
  |succ x=>
   have:ah6 j (j+(x+1))=false:=by
    cases hb:ah6 j (j+(x+1))with
    |false=>rfl
    |true=>have:=aib hb;omega
   rw[this];have:=ih (j+1) x;simp only[List.getElem?_cons_succ];rw[←this];congr 1;omega
theorem nK (ks:List Nat) (x:Nat):sgB (kT ks 0) x=ks[x]? :=by
 have:=U2 ks 0 x;simpa using this
theorem GH (σ:Sg) (x:Nat):sgF (AX σ) x=sgB σ x:=by
 induction σ with
 |nil=>rfl
 |cons y r ih=>obtain⟨a,b⟩:=y;simp only[AX,sgF,sgB,ih]
def xV (σ:Sg) (H:Hp):List Nat→(List AO→Prop)→Prop
 | [],K=>K []
 |k::r,K=>bU H k fun o=>match j5 σ o with
  |some o1=>xV σ H r fun os=>K (o1::os)
  |none=>False
theorem Ki {σ:Sg} {H:Hp}:∀{ks:List Nat} {K:List AO→Prop},xV σ H ks K→∃os,K os∧os.length=ks.length∧∀(i k:Nat),ks[i]? =some k→∃o o1,ay H k=some o∧j5 σ o=some o1∧os[i]? =some o1:=by
 intro ks;induction ks with
 |nil=>intro K h;exact⟨_,h,rfl,fun i k hk=>by simp at hk⟩
 |cons k r ih=>
  intro K h;unfold xV at h;rw[aX]at h;obtain⟨o,ho,h⟩:=h;split at h
  ·rename_i o1 h1
   obtain⟨os,hK,hl,hs⟩:=ih h;refine⟨_,hK,by simp[hl],fun i k' hk=>?_⟩
   cases i with
   |zero=>simp at hk;subst hk;exact⟨o,o1,ho,h1,by simp⟩
   |succ i=>obtain⟨a,b,c1,c2,c3⟩:=hs i k' (by simpa using hk);exact⟨a,b,c1,c2,by simpa using c3⟩
  ·exact h.elim
def nW (σ:Sg):List Nat→List AO→(List (Nat × AO)→Prop)→Prop
 | [],[],K=>K []
 |k::ks,o::os,K=>match j5 σ o with
  |some o1=>nW σ ks os fun r=>K ((k,o1)::r)
  |none=>False
 |_,_,_=>False
theorem Kj {σ:Sg}:∀{ks:List Nat} {os:List AO} {K:List (Nat × AO)→Prop},nW σ ks os K→∃sets,K sets∧os.length=ks.length∧keys sets=ks∧
 ∀(i k:Nat),ks[i]? =some k→∃o o1,os[i]? =some o∧j5 σ o=some o1∧(k,o1)∈sets:=by
 intro ks;induction ks with
 |nil=>intro os K h;cases os with
  |nil=>exact⟨_,h,rfl,rfl,fun i k hk=>by simp at hk⟩
  |cons=>exact h.elim
 |cons k r ih=>intro os K h;cases os with
  |nil=>exact h.elim
  |cons o os=>
   unfold nW at h;split at h
   ·rename_i o1 h1
    obtain⟨sets,hK,hl,hk,hs⟩:=ih h;refine⟨_,hK,by simp[hl],by simp[keys]at hk⊢;exact hk,fun i k' hk'=>?_⟩
    cases i with
    |zero=>simp at hk';subst hk';exact⟨o,o1,by simp,h1,by simp⟩
    |succ i=>obtain⟨a,b,c1,c3,c4⟩:=hs i k' (by simpa using hk');exact⟨a,b,by simpa using c1,c3,ajx _ c4⟩
   ·exact h.elim
theorem GI:∀{sets:List (Nat × AO)} {H:Hp} {k:Nat} {o:AO},(∀(i j k:Nat),(keys sets)[i]? =some k→(keys sets)[j]? =some k→i=j)→(k,o)∈sets→ay (aZ H sets) k=some o:=by
 intro sets;induction sets with
 |nil=>intro H k o _ h;simp at h
 |cons x r ih=>
  intro H k o hn h;obtain⟨k0,o0⟩:=x;have h0:k0∉keys r:=fun hm=>by
   obtain⟨j,hj⟩:=ajy.1 hm;have:=hn 0 (j+1) k0 (by simp[keys]) (by simpa [keys]using hj)
   omega
  have hr:∀(i j k:Nat),(keys r)[i]? =some k→(keys r)[j]? =some k→i=j:=fun i j k hi hj=>by
   have:=hn (i+1) (j+1) k (by simpa [keys]using hi) (by simpa [keys]using hj)
   omega
  rcases ajg.1 h with e|h
  ·cases e
   simp only[aZ];rw[jY h0,bq];simp
  ·exact ih hr h
def Fy:Nat→Nat→(List Nat→Prop)→Prop
 |_,0,K=>K []
 |n,d+1,K=>iL n fun n=>Fy (n+1) d fun r=>K (n::r)
def Fz:Nat→Nat→List Nat
 |_,0=>[]
 |n,d+1=>n::Fz (n+1) d
theorem zk (n d:Nat) (K:List Nat→Prop):Fy n d K=K (Fz n d):=by
 induction d generalizing n K with
 |zero=>rfl
 |succ d ih=>simp only[Fy,Fz,iM,ih]
def AY (σ:Sg) (rs:List PV) (K:PV→Prop):Prop:=match mI σ rs with|some us=>bN us fun us=>K (bI us)|none=>False
theorem Kk {σ:Sg} {rs:List PV} {K:PV→Prop} (h:AY σ rs K):∃v,K v∧∀{ι ι1:Ix},uz σ ι ι1→∀{S:Imm} {w:World} {val:Value},Rep S w ι (bI rs) val→Rep S w ι1 v val:=by
 unfold AY at h;split at h
 ·rename_i us hu
  rw[bg]at h;refine⟨_,h,fun{ι ι1} R {S w val} hr=>?_⟩;obtain⟨h1,h2⟩:=zi R hu (S:=S) (w:=w)
  match rs,us,h1,h2,hr with
  | [],[],_,_,hr=>cases hr with|tup _ _ vs hl hh=>exact .tup _ _ _ hl (fun i hi=>by simp at hi)
  | [r],[u],_,h2,hr=>exact h2 0 (by simp) hr
  |r::r'::rs,u::u'::us,h1,h2,hr=>cases hr with|tup _ _ vs hl hh=>exact .tup _ _ _ (h1.trans hl) (fun i hi=>h2 i (by omega) (hh i (by omega)))
 ·exact h.elim
abbrev LSp:=List PV→List AO→(List PV→List AO→Prop)→Prop
def LOK (P:Program) (g:FuncId) (L:LSp):Prop:=∀as objs K,L as objs K→∃rs objs',K rs objs'∧jm P g as objs rs objs'
def xW (H:Hp):List Nat→Prop→Prop
 | [],K=>K
 |k::r,K=>dV H k (xW H r K)
def acP:PV→PV
 |.isl c t=>match t with
  |.full=>.isl c .none
  |t=>.isl c t
 |p=>p
def uJ:List PV→List PV
 | []=>[]
 |x::xs=>acP x::uJ xs
theorem rE:∀(ps:List PV),(uJ ps).length=ps.length∧∀i {S:Imm} {w:World} {ι:Ix} {v:Value},Rep S w ι (aD ps i) v→Rep S w ι (aD (uJ ps) i) v:=by
 intro ps;induction ps with
 |nil=>exact⟨rfl,fun i _ _ _ _ h=>h⟩
 |cons p ps ih=>
  refine⟨by simp[uJ,ih.1],fun i S w ι v h=>?_⟩
  cases i with
  |zero=>
   simp only[aD,uJ]at h⊢;unfold acP;split
   ·split
    ·exact h.drop
    ·exact h
   ·exact h
  |succ i=>exact ih.2 i h
def eO (ks0:List Nat) (L:LSp):CT:=fun args n H K=>
 pR (lI H 60 (ks0++uI args) []) fun ks=>fK (kT ks 0) fun σ=>ifK (gY σ σ) (match mI σ args with
  |some as=>bN (uJ as) fun as=>xV σ H ks fun objs=>L as objs fun rs objs'=>
   Fy n (objs'.length-ks.length) fun ns=>xW H ns (pR (ks++ns) fun kn=>fK (AX (kT kn 0)) fun σ'=>ifK (gY σ' σ') (nW σ' kn objs' fun sets=>AY σ' rs fun v=>K v sets ks ns))
  |none=>False)
theorem EX {H:Hp}:∀{ns:List Nat} {K:Prop},xW H ns K→K:=by
 intro ns;induction ns with
 |nil=>intro K h;exact h
 |cons k r ih=>
  intro K h;unfold xW dV at h;split at h
  ·exact ih h
  ·exact h.elim
theorem dG {P:Program} {g:FuncId} {L:LSp} (ks0:List Nat) (h:LOK P g L):COK P g (eO ks0 L):=by
 intro args n H K hk;unfold eO at hk;simp only[pE,fq,bg,zk]at hk;generalize lI H 60 (ks0++uI args) []=ks at hk
 rw[aL]at hk;obtain⟨hg,hk⟩:=hk;split at hk
 ·rename_i as has
  obtain⟨objs,hk,hol,hos⟩:=Ki hk;obtain⟨rs,objs',hk,hent,hs⟩:=h _ _ _ hk;generalize Fz n (objs'.length-ks.length)=ns at hk
  have hk:=EX hk;rw[aL]at hk;obtain⟨hg',hk⟩:=hk;obtain⟨sets,hk,hl',hkeys,hbs⟩:=Kj hk;obtain⟨v,hk,hv⟩:=Kk hk;have hσ:=Q9 hg;have hσ':=Q9 hg';refine⟨v,sets,ks,ns,hk,hent,fun S w ι H' vs hgb M hr ha hn=>?_⟩;have at':∀{i k},sgB (AX (kT (ks++ns) 0)) k=some i↔(ks++ns)[i]? =some k:=fun{i k}=>
   ⟨fun e=>by have:=hσ'.bf e;rwa [GH,nK]at this,fun e=>hσ'.fb (by rw[GH,nK];exact e)⟩
  have hget:∀{k},k∈ks→ay H' k=ay H k:=fun hm=>ha _ hm;have hL:∀k1 o1,ay (fA objs) k1=some o1→∃k o,sgB (kT ks 0) k1=some k∧ay H' k=some o∧j5 (kT ks 0) o=some o1:=by
   intro k1 o1 h1;rw[jc]at h1;have hlt:k1<ks.length:=by rw[←hol];exact(ajz.1 h1).1
   obtain⟨o,o1',q1,q2,q3⟩:=hos k1 ks[k1] (ah4 hlt);rw[h1]at q3;cases q3
   exact⟨ks[k1],o,by rw[nK,ah4 hlt],by rw[hget (List.getElem_mem hlt)];exact q1,q2⟩
  obtain⟨ML,hown⟩:=M.lend (H1:=fA objs) hσ hL (fun k k1 hb hsome=>by
   rw[nK]at hb;obtain⟨o,o1,_,_,q3⟩:=hos k1 k hb;rw[jc,q3];rfl)
  have hA:bF S w (ι.ren (kT ks 0)) (uJ as) vs:=by
   obtain⟨h1,h2⟩:=zi (rD hσ.b ι) has (S:=S) (w:=w);exact⟨(rE as).1.trans (h1.trans hr.1),fun i hi=>(rE as).2 i (h2 i (by rw[(rE as).1]at hi;omega) (hr.2 i (by rw[(rE as).1]at hi;omega)))⟩
  refine(hs S w _ vs hgb ML hA).mono ?_
  rintro e w' ⟨val,S',ιl',rfl,M',R',T⟩
  have hinj:∀(i j k:Nat),(keys sets)[i]? =some k→(keys sets)[j]? =some k→i=j:=fun i j k hi hj=>by
   rw[hkeys]at hi hj;have a:=at'.2 hi;have b:=at'.2 hj;rw[a]at b;exact Option.some.inj b
  obtain⟨M2,le,T2⟩:=M.back (H'':=aZ H' sets) hσ' hσ M' T hown
   (fun i k e=>by
    have e:=at'.1 e;obtain⟨o,o1,p1,p3,p4⟩:=hbs i k e;refine⟨⟨o,by rw[jc];exact p1⟩,?_⟩
    by_cases hi:i<ks.length
    ·rw[ajn hi]at e
     exact .inl ⟨by omega,by rw[nK];exact e⟩
    ·rw[aiX (by omega)]at e
     exact .inr (hn k (ajA e)))
   (fun k e=>by
    have hno:k∉ks++ns:=fun hm=>by
     obtain⟨i,hi⟩:=ajy.1 hm;rw[at'.2 hi]at e;cases e
    refine⟨jY (by rw[hkeys];exact hno),fun i hi=>?_⟩
    rw[nK]at hi;exact hno (ah1 _ (ajA hi)))
   (fun i k e=>by
    obtain⟨o,o1,p1,p3,p4⟩:=hbs i k (at'.1 e);exact⟨o,o1,by rw[jc];exact p1,p3,GI hinj p4⟩)
   (fun b hb=>by
    obtain⟨k1,o1,h1,h2,h3⟩:=hb;obtain⟨k,o,q1,q2,q3⟩:=hL k1 o1 h1;have eo:(ι.ren (kT ks 0)).o k1=ι.o k:=by simp[Ix.ren,q1]
    have et:(ι.ren (kT ks 0)).t k1=ι.t k:=by simp[Ix.ren,q1]
    have ex:(ι.ren (kT ks 0)).x k1=ι.x k:=by funext b;simp[Ix.ren,q1]
    obtain⟨r1,r2,r3,r5⟩:=uH (rD hσ.b ι) q3 eo et ex (M.obj k o q2);refine⟨k1,k,q1,?_,o,q2,?_⟩
    ·rw[jc]at h1;exact(ajz.1 h1).1
    ·exact(ow eo et ex r2 r3 r5 b).1 h3)
  exact⟨val,S',_,rfl,M2,le,T.keeps,hv (yM hσ' ι ιl') R',T2⟩
 ·exact hk.elim
variable {P:Program}
def xX (S0:Imm) (w0:World):Imm→World→Prop:=fun S w=>Keeps S0 w0 S w∧gB S w
theorem uK {S0:Imm} {w0:World}:BOK (xX S0 w0):=⟨fun _ _ _ _ h b hb=>⟨Keeps.trans hb.1 h,nk h b hb.2⟩,fun _ _ h=>h.2⟩
theorem Zh {S:Imm} {w:World} {ι:Ix} {args:List PV} {vs:Array Value} {i:Nat} {p:PV} (h:bF S w ι args vs) (hp:Rep S w ι p (vs.getD i undef)):bF S w ι (args.set i p) vs:=by
 refine⟨by simpa using h.1,fun j hj=>?_⟩
 rw[ng];split
 ·rename_i e;rw[e.1];exact hp
 ·exact h.2 j (by simpa using hj)
theorem AZ {g:FuncId} {args:List PV} {v:PV} (i:Nat) {f:Fn} {fs cs:List PV} (he:Enters P g) (hi:aD args i=.fn f fs cs) (hlt:i<args.length)
 (h:∀S0 w0 us vs,bF S0 w0 noI fs us→bF S0 w0 noI cs vs→wB P (xX S0 w0) g (args.set i (.fv f us vs)) v):aF P g args v:=by
 refine⟨he,fun S w vs hg himm hr=>?_⟩;have hri:=hr.2 i hlt;rw[hi]at hri;generalize hv:vs.getD i undef=val at hri
 cases hri with
 |fn _ _ _ _ us ws hk hl hu hvs=>
  exact h S w us ws ⟨hk,hu⟩ ⟨hl,hvs⟩ S w vs ⟨Keeps.refl _ _,hg⟩ himm (Zh hr (by rw[hv];exact .fv _ _ _ _))
def fnY (f:Nat) (us vs:Array Value) (C:PSp):YPT:=fun f' us' vs' args n H K=>VC (f'=.func f∧us'=us∧vs'=vs)∧rA args fun as=>C as fun v=>K v [] [] []
theorem Ra {r:Option Nat} {B:Imm→World→Prop} {f:Nat} {us vs:Array Value} {fs cs:List PV} {C:PSp} (hB:∀S w,B S w→bF S w noI fs us∧bF S w noI cs vs)
 (hC:∀as K,C as K→∃v,K v∧aF P f (fs++as++cs) v) (hg:∀S w,B S w→gB S w:=by first|exact fun _ _ h=>h|exact fun _ _ h=>h.2|exact fun _ _ h=>h.2.2):kS P r B (fnY f us vs C):=by
 intro f' us' vs' args n H K h;obtain⟨⟨e1,e2,e3⟩,h⟩:=h;subst e1;subst e2;subst e3;unfold rA at h;split at h
 ·rename_i as ha
  rw[bg]at h;obtain⟨v,hK,hent,hs⟩:=hC _ _ h;refine⟨v,[],[],[],hK,fun S w ι H' o c a next Q vals ho hb M hr _ _ hk=>?_⟩;obtain⟨h1,h2⟩:=iP ha;obtain⟨b1,b2⟩:=hB S w hb;have hA:bF S w noI (dI as) vals:=⟨(bB as).1.trans (h1.trans hr.1),fun i hi=>(bB as).2 i (h2 i (by rw[(bB as).1]at hi;omega) (hr.2 i (by rw[(bB as).1]at hi;omega)))⟩
  have hres:(invoke (.fn (.func f) vs') (us'++vals)).run P w=.ok (.enter f (us'++vals++vs')) w:=by
   simp only[invoke,Sem.run_bind,Sem.run_pure,Result.andThen];exact hent _ _
  rw[hres,Oper.uponIn_enter];refine⟨fun h=>by simp[Fw,Fence.wide]at h,uo ((hs S w (us'++vals++vs') (hg _ _ hb) M.imm (gI (gI b1 hA) b2)).mono ?_)⟩
  rintro e w' ⟨val,S',rfl,ou⟩
  have hno:∀k ob b,ay H' k=some ob→ob.has ι k b→b<w.heap.size:=fun k ob b ho hb=>(M.obj k ob ho).lt hb;exact hk val S' w' ι ⟨fun k ob ho=>(M.obj k ob ho).mono ou.keeps (.refl _) ou.below (fun b hb=>ou.same b (hno k ob b ho hb)) (fun _=>rfl) rfl (fun b j hb hs=>ou.immN b j (hno k ob b ho hb) hs),M.liveO,M.liveT,M.dist,ou.imm⟩
   (.refl _) ou.keeps (ou.rep.up ι) (fun p=>⟨ou.below,fun b hb _=>ou.same b hb,ou.keeps,fun b j hb hs=>.inl (ou.immN b j hb hs),fun b h=>.inl h,fun _ _ _ h=>h,fun _ _ b n h=>⟨b,n,h,.inl ⟨rfl,ahO _⟩⟩⟩)
 ·exact h.elim
def agq (P:Program) (B:Imm→World→Prop) (g:FuncId) (C:CT):Prop:=∀args n H K,C args n H K→∃v sets accs news,K v sets accs news∧pz P B g args H v sets accs news
theorem COK.up {g:FuncId} {C:CT} (h:COK P g C) (B:Imm→World→Prop) (hg:∀S w,B S w→gB S w:=by first|exact fun _ _ h=>h|exact fun _ _ h=>h.2|exact fun _ _ h=>h.2.2):agq P B g C:=fun args n H K hk=>by
 obtain⟨v,sets,accs,news,h1,h2⟩:=h args n H K hk;exact⟨v,sets,accs,news,h1,iZ.up h2 B hg⟩
def uL:List PV→PV
 | [x]=>x
 |xs=>.tup xs
def Og (m:Nat) (x:PV):List PV:=match m with
 |1=>[x]
 |_=>match x with
  |.tup xs=>xs
  |_=>[]
theorem Rb (xs:List PV):Og xs.length (uL xs)=xs:=by
 match xs with
 | []=>rfl
 | [x]=>rfl
 |x::y::r=>rfl
def iQ (go:List PV→Bool):List PV→List PV→List PV
 |pre,[]=>pre
 |pre,x::l=>match go (pre++[x])with|true=>iQ go (pre++[x]) l|false=>pre++[x]
def GoTo (go:List PV→Bool) (L:List PV) (i:Nat):Prop:=∀j,j<i→go (L.take (j+1))=true
def Nxt (go:List PV→Bool) (L pre:List PV) (x:PV):Prop:=∃i,i<L.length∧pre=L.take i∧L[i]? =some x∧GoTo go L i
theorem GoTo.zero {go:List PV→Bool} {L:List PV}:GoTo go L 0:=fun j h=>by omega
theorem GoTo.succ {go:List PV→Bool} {L:List PV} {i:Nat} (h:GoTo go L i) (g:go (L.take (i+1))=true):GoTo go L (i+1):=fun j hj=>by
 by_cases e:j=i
 ·rw[e];exact g
 ·exact h j (by omega)
theorem eu {L:List PV} {i:Nat} {x:PV} (h:L[i]? =some x):L.take i++[x]=L.take (i+1):=by
 rw[List.take_add_one,h];rfl
theorem wH {go:List PV→Bool} {L:List PV}:∀{i:Nat},i≤L.length→GoTo go L i→iQ go [] L=iQ go (L.take i) (L.drop i):=by
 intro i;induction i with
 |zero=>intro _ _;simp
 |succ i ih=>
  intro hi h;rw[ih (by omega) (fun j hj=>h j (by omega)),ajB (by omega),iQ]
  have e:L.take i++[L[i]]=L.take (i+1):=eu (ah4 (by omega))
  rw[e,h i (by omega)]
theorem wI {go:List PV→Bool} {L:List PV} {i:Nat} (hi:i<L.length) (h:GoTo go L i) (g:go (L.take (i+1))=false):iQ go [] L=L.take (i+1):=by
 rw[wH (by omega) h,ajB hi,iQ]
 have e:L.take i++[L[i]]=L.take (i+1):=eu (ah4 hi);rw[e,g]
theorem zl {go:List PV→Bool} {L:List PV} {i:Nat} (hi:L.length≤i) (h:GoTo go L i):iQ go [] L=L:=by
 rw[wH (ahO L.length) (fun j hj=>h j (by omega))];simp[iQ]
theorem Kl {go:List PV→Bool}:∀(l pre:List PV),pre.length≤(iQ go pre l).length:=by
 intro l;induction l with
 |nil=>intro pre;exact ahO _
 |cons x l ih=>
  intro pre;rw[iQ];split
  ·have:=ih (pre++[x]);simp at this;omega
  ·simp
theorem Rf {go:List PV→Bool} {L:List PV} {i:Nat} (hi:i≤L.length) (h:GoTo go L i) (e:iQ go [] L=L.take i):i=L.length:=by
 rcases ahP i L.length with hlt|hge
 ·rw[wH hi h,ajB hlt,iQ]at e
  have hlen:=congrArg List.length e;split at hlen
  ·have:=Kl (go:=go) (L.drop (i+1)) (L.take i++[L[i]])
   simp at this hlen;omega
  ·simp at hlen;omega
 ·omega
abbrev GT:=List PV→(Nat→Prop)→Imm→World→Prop
def uM (b m:Nat) (G:GT) (go:List PV→Bool) (L:List PV):YPT:=fun f us vs args n H K=>VC (f=.yield b∧us= #[]∧vs= #[])∧rA args fun as=>ifK (ah6 as.length m) (bU H 0 fun o=>match o with
 |.ext G' pre=>bM (uL as) fun x=>VC (G'=G∧Nxt go L pre x)∧K (.bp (go (pre++[x]))) [(0,.ext G (pre++[x]))] [0] []
 |_=>False)
def Yields (P:Program) (b m:Nat) (G:GT) (go:List PV→Bool) (L:List PV):Prop:=∀r B,kS P r B (uM b m G go L)
def nX (P:Program) (g:FuncId) (fs cs:List PV) (m:Nat) (L:List PV):Prop:=
 Enters P g∧∀(G:GT) (go:List PV→Bool) (b:Nat),Yields P b m G go L→AV P kR g (fs++[.fv (.yield b) #[] #[]]++cs) [.ext G []] [] [.ext G (iQ go [] L)]
structure TrX (X:Nat→Prop) (p:Nat) (S:Imm) (w:World) (ι:Ix) (H:Hp) (S':Imm) (w':World) (ι':Ix) (H':Hp):Prop where
 below:Bel w w'
 same:∀b,b<w.heap.size→¬owned ι H b→¬X b→w'.heap[b]? =w.heap[b]?
 keeps:Keeps S w S' w'
 immN:∀b j,b<w.heap.size→S' b j→S b j∨owned ι H b
 own:∀b,owned ι' H' b→owned ι H b∨w.heap.size≤b
 protO:∀k,k<p→∀b,ι.o k=some b→ι'.o k=some b
 protT:∀k,k<p→∀b n,ι.t k=some (b,n)→∃b' n',ι'.t k=some (b',n')∧((b'=b∧n≤n')∨n<n')
theorem Tr.toX {X:Nat→Prop} {p:Nat} {S S':Imm} {w w':World} {ι ι':Ix} {H H':Hp} (h:Tr p S w ι H S' w' ι' H'):TrX X p S w ι H S' w' ι' H':=
 ⟨h.below,fun b hb ho _=>h.same b hb ho,h.keeps,h.immN,h.own,h.protO,h.protT⟩
theorem Km {ι ι' ι'':Ix} {k:Nat} (h:∀b n,ι.t k=some (b,n)→∃b' n',ι'.t k=some (b',n')∧((b'=b∧n≤n')∨n<n')) (g:∀b n,ι'.t k=some (b,n)→∃b' n',ι''.t k=some (b',n')∧((b'=b∧n≤n')∨n<n')):
 ∀b n,ι.t k=some (b,n)→∃b' n',ι''.t k=some (b',n')∧((b'=b∧n≤n')∨n<n'):=by
 intro b n hi;obtain⟨x1,n1,h1,h2⟩:=h b n hi;obtain⟨x2,n2,g1,g2⟩:=g x1 n1 h1;refine⟨x2,n2,g1,?_⟩;rcases h2 with⟨rfl,h2⟩|h2
 ·rcases g2 with⟨rfl,g2⟩|g2
  ·exact .inl ⟨rfl,by omega⟩
  ·exact .inr (by omega)
 ·rcases g2 with⟨rfl,g2⟩|g2
  ·exact .inr (by omega)
  ·exact .inr (by omega)
theorem TrX.trans {X:Nat→Prop} {p:Nat} {S S' S'':Imm} {w w' w'':World} {ι ι' ι'':Ix} {H H' H'':Hp}
 (h:TrX X p S w ι H S' w' ι' H') (g:TrX X p S' w' ι' H' S'' w'' ι'' H''):TrX X p S w ι H S'' w'' ι'' H'':=by
 have hsz:=h.below.size;refine⟨h.below.trans g.below,fun b hb ho hx=>?_,h.keeps.trans g.keeps,fun b j hb hs=>?_,fun b ho=>?_,fun k hk b hi=>g.protO k hk b (h.protO k hk b hi),fun k hk=>Km (h.protT k hk) (g.protT k hk)⟩
 ·rw[g.same b (by omega) (fun ho'=>?_) hx]
  ·exact h.same b hb ho hx
  ·rcases h.own b ho' with h1|h1
   ·exact ho h1
   ·omega
 ·rcases g.immN b j (by omega) hs with h1|h1
  ·exact h.immN b j hb h1
  ·rcases h.own b h1 with h2|h2
   ·exact .inr h2
   ·omega
 ·rcases g.own b ho with h1|h1
  ·exact h.own b h1
  ·exact .inr (by omega)
theorem Mem.aside {S:Imm} {w:World} {ι:Ix} {H:Hp} (M:Mem S w ι H) {b:Nat} {o o':Obj} (hw:w.heap[b]? =some o) (hp:Obj.plain o=true) (hp':Obj.plain o'=true) (hno:¬owned ι H b) (p:Nat):
 Mem S (w.putObj b o') ι H∧TrX (·=b) p S w ι H S (w.putObj b o') ι H∧(w.putObj b o').heap[b]? =some o'∧∀b',b'≠b→(w.putObj b o').heap[b']? =w.heap[b']? :=by
 have hlt:=lt_of_heap hw;have here:(w.putObj b o').heap[b]? =some o':=World.putObj_heap_same hlt;have other:∀b',b'≠b→(w.putObj b o').heap[b']? =w.heap[b']? :=fun b' h=>World.putObj_heap_other h;have hnS:∀j,¬S b j:=fun j hs=>by have:=M.imm b j hs;rw[iA hw hp]at this;simp at this
 have hk:Keeps S w S (w.putObj b o'):=by
  refine⟨fun b' j hs=>⟨hs,?_⟩,fun b' j hs=>?_⟩
  ·by_cases e:b'=b
   ·subst e;exact absurd hs (hnS j)
   ·exact dh (other b' e) j
  ·by_cases e:b'=b
   ·subst e;rw[iA hw hp]at hs;simp at hs
   ·rw[dh (other b' e) j];exact hs
 have hbel:Bel w (w.putObj b o'):=.block b rfl rfl rfl (by simp) other (by rw[hw];exact gH hp) (by rw[here];exact gH hp') (fun _=>by unfold bsz;rw[hw,here];cases o<;>cases o'<;>first|rfl|(simp[Obj.plain]at hp;done)|(simp[Obj.plain]at hp';done))
 refine⟨⟨fun k o ho=>(M.obj k o ho).mono hk (.refl _) hbel (fun b' hb'=>other b' (fun e=>hno (by subst e;exact⟨k,o,ho,qz hb',hb'⟩))) (fun _=>rfl) rfl (fun _ _ _ h=>h),M.liveO,M.liveT,M.dist,fun b' j hs=>by rw[(hk.imm b' j hs).2];exact M.imm b' j hs⟩,
  ⟨hbel,fun b' _ _ hx=>other b' hx,hk,fun _ _ _ h=>.inl h,fun _ h=>.inl h,fun _ _ _ h=>h,fun _ _ b n h=>⟨b,n,h,.inl ⟨rfl,ahO _⟩⟩⟩,here,other⟩
theorem Mem.extStep {S:Imm} {w:World} {ι:Ix} {H:Hp} (M:Mem S w ι H) {k:Nat} {G:GT} {pre:List PV} (h0:ay H k=some (.ext G pre)) {S':Imm} {w':World} {D':Nat→Prop} {pre':List PV} (hst:vO G) (hG:G pre' D' S' w')
 (below:Bel w w') (keeps:Keeps S w S' w') (same:∀b,b<w.heap.size→¬ι.x k b→w'.heap[b]? =w.heap[b]?) (immN:∀b j,b<w.heap.size→S' b j→S b j∨ι.x k b)
 (hD:∀b,D' b→ι.x k b∨w.heap.size≤b) (hlt:∀b,D' b→b<w'.heap.size) (himm:∀b j,S' b j→(rd w' b j).isSome):
 Mem S' w' ⟨ι.o,ι.t,fun k'=>if k'=k then D' else ι.x k'⟩ (aQ H k (.ext G pre'))∧ι.le ⟨ι.o,ι.t,fun k'=>if k'=k then D' else ι.x k'⟩∧
  ∀p,Tr p S w ι H S' w' ⟨ι.o,ι.t,fun k'=>if k'=k then D' else ι.x k'⟩ (aQ H k (.ext G pre')):=by
 have hle:ι.le ⟨ι.o,ι.t,fun k'=>if k'=k then D' else ι.x k'⟩:=⟨fun _ _ h=>h,fun _ b n h=>⟨b,n,h,.inl ⟨rfl,ahO _⟩⟩⟩;have hx:∀k',k'≠k→(if k'=k then D' else ι.x k')=ι.x k':=fun k' h=>if_neg h;have hhas:∀{k' o b},k'≠k→(AO.has ⟨ι.o,ι.t,fun k'=>if k'=k then D' else ι.x k'⟩ k' o b↔AO.has ι k' o b):=fun{k' o b} h=>ow (ι:=ι) (ι1:=⟨ι.o,ι.t,fun k'=>if k'=k then D' else ι.x k'⟩) (k:=k') (k1:=k') (o:=o) (o1:=o) rfl rfl (hx _ h) rfl rfl rfl b;have hself:∀{b},AO.has ⟨ι.o,ι.t,fun k'=>if k'=k then D' else ι.x k'⟩ k (.ext G pre') b↔D' b:=fun{b}=>by simp[AO.has]
 have hother:∀k' o b,k'≠k→ay H k'=some o→o.has ι k' b→b<w.heap.size∧¬ι.x k b:=fun k' o b hne ho hb=>
  ⟨(M.obj k' o ho).lt hb,fun h=>hne (M.dist k' k o (.ext G pre) b ho h0 hb h)⟩
 refine⟨⟨fun k' o ho=>?_,fun k' b hb=>?_,fun k' b hb=>?_,fun k1 k2 o1 o2 b h1 h2 b1 b2=>?_,himm⟩,hle,fun p=>⟨below,fun b hb ho=>?_,keeps,fun b j hb hs=>?_,?_,fun _ _ _ h=>h,fun _ _ b n h=>⟨b,n,h,.inl ⟨rfl,ahO _⟩⟩⟩⟩
 ·rw[bq]at ho
  by_cases e:k'=k
  ·subst e;simp at ho;subst ho
   exact⟨fun b hb=>hlt b (by simpa using hb),hst,by simpa using hG⟩
  ·rw[if_neg e]at ho
   exact(M.obj k' o ho).mono keeps hle below (fun b hb=>same b (hother k' o b e ho hb).1 (hother k' o b e ho hb).2) (fun _=>rfl) (hx k' e)
    (fun b j hb hs=>(immN b j (hother k' o b e ho hb).1 hs).resolve_right (hother k' o b e ho hb).2)
 ·obtain⟨o,g1,g2⟩:=M.liveO k' b hb
  rw[bq];by_cases e:k'=k
  ·subst e;exact⟨.ext G pre',by simp,rfl⟩
  ·rw[if_neg e];exact⟨o,g1,g2⟩
 ·obtain⟨o,g1,g2⟩:=M.liveT k' b hb
  rw[bq];by_cases e:k'=k
  ·subst e;rw[h0]at g1;cases g1;simp[AO.isTok]at g2
  ·rw[if_neg e];exact⟨o,g1,g2⟩
 ·rw[bq]at h1 h2
  by_cases e1:k1=k
  ·by_cases e2:k2=k
   ·rw[e1,e2]
   ·subst e1;simp at h1;subst h1;rw[if_neg e2]at h2;rw[hhas e2]at b2;rw[hself]at b1
    obtain⟨q1,q2⟩:=hother k2 o2 b e2 h2 b2;rcases hD b b1 with h|h
    ·exact absurd h q2
    ·omega
  ·rw[if_neg e1]at h1;rw[hhas e1]at b1
   by_cases e2:k2=k
   ·subst e2;simp at h2;subst h2;rw[hself]at b2
    obtain⟨q1,q2⟩:=hother k1 o1 b e1 h1 b1;rcases hD b b2 with h|h
    ·exact absurd h q2
    ·omega
   ·rw[if_neg e2]at h2;rw[hhas e2]at b2
    exact M.dist k1 k2 o1 o2 b h1 h2 b1 b2
 ·exact same b hb (fun h=>ho ⟨k,_,h0,rfl,h⟩)
 ·rcases immN b j hb hs with h|h
  ·exact .inl h
  ·exact .inr ⟨k,_,h0,rfl,h⟩
 ·rintro b ⟨k',o,h1,h2,h3⟩
  rw[bq]at h1;by_cases e:k'=k
  ·subst e;simp at h1;subst h1;rw[hself]at h3
   rcases hD b h3 with h|h
   ·exact .inl ⟨k',_,h0,rfl,h⟩
   ·exact .inr h
  ·rw[if_neg e]at h1;rw[hhas e]at h3
   exact .inl ⟨k',o,h1,h2,h3⟩
end Go.Eng
