/- An engine that walks through a function of the program with symbolic values, and the proofs that it is sound. No condition. -/
import Derived.Sort.Grow
import Derived.Below
import Derived.Lib.FrozenHead
import Derived.Test.YtcechbdgokjmgaaGreatDoorEc
open Array renaming getD_eq_getD_getElem?→ahW,getElem?_eq_none→ahQ,getElem?_eq_getElem→ahT,ext→ai5,getElem?_modify→ahU
open Bool renaming and_eq_true→aia
open List renaming length_take→aiG,length→ajD,mem_cons→ajg,getD_eq_getElem?_getD→ahZ,getElem?_eq_getElem→ah4,size_toArray→ajE,range→ahX,mem_range→ajF,mem_cons_of_mem→ajx
open Nat renaming lt_of_lt_of_le→ahR,le_trans→ajC,eq_of_beq_eq_true→aib,ble→ah7,le_of_ble_eq_true→aio,zero_le→aiD,le_refl→ahO,beq→ah6,zero_add→aic,lt_or_ge→ahP
open Option renaming isSome_iff_exists→ahY,map_some→ahV
namespace Go.Eng
open Go.RowKit
set_option linter.unusedSimpArgs false
set_option linter.unusedVariables false
def rF:Env→List Nat→List PV→Env
 |env,t::ts,x::xs=>rF (env.set t x) ts xs
 |env,_,_=>env
theorem Rh {S:Imm} {w:World} {ι:Ix}:∀(ts:List Nat) (xs:List PV) {env:Env} {tmps:Array Value} {vs:List Value},bF S w ι env tmps→ts.length=vs.length→xs.length=vs.length→(∀i,i<xs.length→Rep S w ι (aD xs i) (vs.getD i undef))→
 bF S w ι (rF env ts xs) ((ts.zip vs).foldl (fun t (p:Nat × Value)=>t.setIfInBounds p.1 p.2) tmps):=by
 intro ts;induction ts with
 |nil=>intro xs env tmps vs h h1 h2 h3;cases xs<;>simpa [rF]using h
 |cons t ts ih=>
  intro xs env tmps vs h h1 h2 h3;cases vs with
  |nil=>simp at h1
  |cons v vs=>
   cases xs with
   |nil=>simp at h2
   |cons x xs=>
    simp only[rF,List.zip_cons_cons,List.foldl_cons];refine ih xs ?_ (by simpa using h1) (by simpa using h2) (fun i hi=>by have:=h3 (i+1) (by simpa using hi);simpa [aD]using this)
    have h30:Rep S w ι x v:=by have:=h3 0 (by simp);simpa [aD]using this
    have:=ze (a:={tmps:=tmps,defers:=[]}) h (some t) h30;simpa [fF,Act.put]using this
def A8:Env→Env
 | []=>[]
 |_::r=>.any::A8 r
def pI (B:Imm→World→Prop) (S0:Imm) (w0:World) (ι0:Ix) (H0:Hp) (D0 L0:Nat) (rec:LoopState→Option Code→Loop) (L:List PV) (st:Nat→Hp) (gi:Nat→Bool) (Q:Exit→Hp→Prop):GT:=fun pre D S w=>
 ∃ι H sta pend,D=(fun b=>owned ι0 H0 b∨owned ι H b∨b=D0∨b=L0)∧(∀k o,ay H k=some o→gP S w ι k o)∧(∀k b,ι.o k=some b→∃o,ay H k=some o∧o.isTok=false)∧
  (∀k x,ι.t k=some x→∃o,ay H k=some o∧o.isTok=true)∧(∀k k' o o' b,ay H k=some o→ay H k'=some o'→o.has ι k b→o'.has ι k' b→k=k')∧
  B S w∧ι0.le ι∧Keeps S0 w0 S w∧(∀b,owned ι H b→b≠D0∧b≠L0)∧(∀b,owned ι H b→owned ι0 H0 b∨w0.heap.size≤b)∧(∀b,owned ι0 H0 b→b<w.heap.size)∧w0.heap.size≤w.heap.size∧
  w.heap[L0]? =some (.loop (rec sta pend))∧w.heap[D0]? =some (.deferred (some []))∧
  ((sta=.ready∧pend=none∧∃i,i≤L.length∧pre=L.take i∧(∀j,j<i→gi j=true)∧H=st i)∨
   (sta=.done∧∃i e c,i<L.length∧pre=L.take (i+1)∧gi i=false∧pend=some c∧((e=.ret∧c=.ret)∨∃id,e=.exit id∧c=.exit id)∧Q e H))
theorem GJ {B:Imm→World→Prop} {S0:Imm} {w0:World} {ι0:Ix} {H0:Hp} {D0 L0:Nat} {rec:LoopState→Option Code→Loop} {L:List PV} {st:Nat→Hp} {gi:Nat→Bool} {Q:Exit→Hp→Prop} (hB:BOK B):
 vO (pI B S0 w0 ι0 H0 D0 L0 rec L st gi Q):=by
 rintro pre D S w S' w' hk hbel hsame hS ⟨ι,H,sta,pend,hD,hobj,hlo,hlt,hdi,hb,hle,hkeep,hne,hown,hsz,hszge,hL,hDk,hst⟩
 subst hD;refine⟨ι,H,sta,pend,rfl,fun k o ho=>(hobj k o ho).mono hk (.refl _) hbel (fun b hb'=>hsame b (.inr (.inl ⟨k,o,ho,qz hb',hb'⟩))) (fun _=>rfl) rfl (fun b j hb' hs=>hS b j (.inr (.inl ⟨k,o,ho,qz hb',hb'⟩)) hs),hlo,hlt,hdi,
  hB _ _ _ _ hk hbel hb,hle,hkeep.trans hk,hne,hown,fun b hb'=>ahR (hsz b hb') hbel.size,ajC hszge hbel.size,(hsame _ (.inr (.inr (.inr rfl)))).trans hL,(hsame _ (.inr (.inr (.inl rfl)))).trans hDk,hst⟩
def wJ (gi:Nat→Bool):List PV→Bool:=fun pre=>gi (pre.length-1)
theorem oz {gi:Nat→Bool} {L:List PV} {i:Nat} (h:i<L.length):wJ gi (L.take (i+1))=gi i:=by
 unfold wJ;rw[aiG,Nat.min_eq_left (by omega)];simp
section
variable {P:Program} {τ:TypeId→Option TE} {B:Imm→World→Prop} {p:Nat}
theorem GK (hB:BOK B) (hm:P.follows .mixedOrders=true) (hτ:aY P τ) {md rf CP YP} (hC:jU P B CP) (hY:∀r,kS P r B YP)
 {S0:Imm} {w0:World} {ι0:Ix} {H0:Hp} {D0 L0:Nat} {fn:FuncId} {tmps:Array Value} {ps:Array Tmp} {assign body:Code} {db:Nat} {env:Env} {n:Nat} {L:List PV} {st:Nat→Hp} {gi:Nat→Bool} {Q:Exit→Hp→Prop}
 (hR0:bF S0 w0 ι0 env tmps) (hn:∀k b,ι0.o k=some b→k<n) (hn':∀k b,ι0.t k=some b→k<n) (hDL:D0≠L0) (hnL:¬owned ι0 H0 L0) (hnD:¬owned ι0 H0 D0) (hok1:dL assign=true) (hok2:dL body=true)
 {KN:Nat→Env→Hp→Prop} {KR:Nat→Hp→Prop} {KX:Nat→Nat→Hp→Prop} (hKN:∀i env' H',KN i env' H'→gi i=true∧Sub B n env' H' (A8 env) (st (i+1))) (hKR:∀i H',KR i H'→gi i=false∧Q .ret H') (hKX:∀i id H',KX i id H'→gi i=false∧Q (.exit id) H')
 (hb:∀i x,L[i]? =some x→(∀j,j<i→gi j=true)→∀l,ev P (some l) B n τ md rf CP YP assign n (rF env ps.toList (Og ps.size x)) (st i) fun e env2 H2 n2=>match e with
  |.normal=>ev P (some l) B n τ md rf CP YP body n2 env2 H2 fun e env' H' _=>match e with
   |.normal=>KN i env' H'
   |.ret=>KR i H'
   |.exit id=>KX i id H'
   |_=>False
  |_=>False):
 Yields P L0 ps.size (pI B S0 w0 ι0 H0 D0 L0 (fun sta pe=>{state:=sta,pending:=pe,fn:=fn,tmps:=tmps,params:=ps,assign:=assign,body:=body,defers:=db}) L st gi Q) (wJ gi) L:=by
 intro r B' f us vs args nn HH K h;obtain⟨rec,hrec⟩:∃rec:LoopState→Option Code→Loop,(fun sta pe=>{state:=sta,pending:=pe,fn:=fn,tmps:=tmps,params:=ps,assign:=assign,body:=body,defers:=db})=rec:=⟨_,rfl⟩;rw[hrec]at h;obtain⟨⟨e1,e2,e3⟩,h⟩:=h;subst e1;subst e2;subst e3;unfold rA at h;split at h
 rotate_left
 ·exact h.elim
 rename_i as ha;rw[bg,aL,aX]at h;obtain⟨hlen,ob,hob,h⟩:=h;have hlen:=aib hlen;split at h
 rotate_left
 ·exact h.elim
 rename_i G' pre;rw[bH]at h;obtain⟨⟨hG',i,hi,hpre,hx,hgo⟩,hK⟩:=h;subst hG';refine⟨_,_,_,_,hK,fun S w ι H o c a next QQ vals ho hbw M hr hacc hnew hk=>?_⟩;have h0:ay H 0=some _:=(hacc 0 (by simp)).trans hob
 obtain⟨hlt0,hst0,hG⟩:=M.obj 0 _ h0;have hGs:=hG;obtain⟨ιc,Hc,sta,pend,hD,hobj,hlo,hlt,hdi,hBc,hle,hkeep,hne,hown,hsz,hszge,hL,hDk,hstat⟩:=hG;have hready:sta=.ready∧pend=none∧(∀j,j<i→gi j=true)∧Hc=st i:=by
  rcases hstat with⟨s1,s2,i',hi',hp,hall,hH⟩|⟨s1,i',e,c',hi',hp,hgf,_⟩
  ·have:i'=i:=by
    have:=congrArg ajD (hp.symm.trans hpre);simp[aiG]at this;omega
   subst this;exact⟨s1,s2,hall,hH⟩
  ·have:i=i'+1:=by
    have:=congrArg ajD (hpre.symm.trans hp);simp[aiG]at this;omega
   have h2:=hgo i' (by omega)
   rw[oz (by omega)]at h2
   rw[h2]at hgf;cases hgf
 obtain⟨hs1,hs2,hall,hH⟩:=hready;subst hs1;subst hs2;have Mc:Mem S w ιc Hc:=⟨hobj,hlo,hlt,hdi,M.imm⟩;obtain⟨a1,a2⟩:=iP ha;have hA:bF S w noI (dI as) vals:=⟨(bB as).1.trans (a1.trans hr.1),fun i hi=>(bB as).2 i (a2 i (by rw[(bB as).1]at hi;omega) (hr.2 i (by rw[(bB as).1]at hi;omega)))⟩
 have hxe:Og ps.size (uL (dI as))=dI as:=by rw[←hlen];exact Rb _
 have hbi:=hb i _ hx hall L0;rw[hxe,←hH]at hbi;have hyl:(invoke (.fn (.yield L0) #[]) (#[]++vals)).run P w=.ok (.round L0 fn ((ps.zip vals).foldl (fun tmps (t,a)=>tmps.setIfInBounds t a) tmps) assign body) w:=by
  have:=run_yield (P:=P) (args:=vals) hL (by rw[←hrec];show vals.size=ps.size;rw[←hA.1,hlen])
  rw[←hrec]at this;simpa [invoke]using this
 rw[hyl,Oper.uponIn_round];refine⟨fun h=>by simp[Fw,Fence.wide]at h,roundIn_of_wpIn (F:=Fw r) trivial ?_⟩
 have hle0:bF S w ιc env tmps:=hR0.mono hkeep hle;have hR1:bF S w ιc (rF env ps.toList (dI as)) ((ps.zip vals).foldl (fun tmps (t,a)=>tmps.setIfInBounds t a) tmps):=by
  have:=Rh ps.toList (dI as) (vs:=vals.toList) hle0 (by simp;rw[←hlen];exact hA.1) (by simpa using hA.1) (fun i hi=>by have:=(hA.2 i hi).up ιc;simpa [ahW]using this)
  rw[←Array.foldl_toList,Array.toList_zip];exact this
 have hA1:At B n S w ιc Hc (rF env ps.toList (dI as)) Hc {tmps:=(ps.zip vals).foldl (fun tmps (t,a)=>tmps.setIfInBounds t a) tmps,defers:=[]} w:=
  ⟨S,ιc,hBc,Mc,hR1,.nil _ _ _,fun d hd=>by simp at hd,.refl _ _ _ _ _⟩
 refine wpIn_mono (iB (r:=some L0) hB hm hτ hC (hY _) assign hok1 _ _ _ _ hbi _ _ _ _ _ _ hA1) ?_
 rintro e aa w1 ⟨env2,H2,⟨n2,hk2⟩,hA2⟩
 cases e with
 |normal=>
  obtain⟨S2,ι2,hb2,M2,R2,D2,D2',T2⟩:=hA2.ex;have hnoL:∀{b},(b=L0∨b=D0)→¬owned ιc Hc b:=fun hb' ho=>by rcases hb' with rfl|rfl;exact(hne _ ho).2 rfl;exact(hne _ ho).1 rfl
  have hltL:=lt_of_heap hL;have hltD:=lt_of_heap hDk;have hL2:w1.heap[L0]? =some (.loop (rec .ready none)):=(T2.same _ hltL (hnoL (.inl rfl))).trans hL;have hD2:w1.heap[D0]? =some (.deferred (some [])):=(T2.same _ hltD (hnoL (.inr rfl))).trans hDk;have hno2:∀{b},(b=L0∨b=D0)→¬owned ι2 H2 b:=fun{b} hb' ho=>by
   rcases T2.own b ho with h|h
   ·exact hnoL hb' h
   ·rcases hb' with rfl|rfl<;>omega
  refine⟨_,run_beginRound hL2 (by rw[←hrec]),?_⟩
  obtain⟨M3,TX3,hL3,hO3⟩:=M2.aside (o':=.loop {rec .ready none with state:=.busy}) hL2 rfl rfl (hno2 (.inl rfl)) n;obtain⟨Mw,TXw,hLw,hOw⟩:=Mc.aside (o':=.loop {rec .ready none with state:=.busy}) hL rfl rfl (hnoL (.inl rfl)) n;have hD3:=(hO3 D0 hDL).trans hD2;have hszw:(w.putObj L0 (.loop {rec .ready none with state:=.busy})).heap.size=w.heap.size:=by simp
  have hrdw:∀b j,rd (w.putObj L0 (.loop {rec .ready none with state:=.busy})) b j=rd w b j:=fun b j=>by
   by_cases e:b=L0
   ·subst e;rw[iA hLw rfl,iA hL rfl]
   ·exact dh (hOw b e) j
  have hrd3:∀b j,rd (w1.putObj L0 (.loop {rec .ready none with state:=.busy})) b j=rd w1 b j:=fun b j=>by
   by_cases e:b=L0
   ·subst e;rw[iA hL3 rfl,iA hL2 rfl]
   ·exact dh (hO3 b e) j
  have TB:Tr n S (w.putObj L0 (.loop {rec .ready none with state:=.busy})) ιc Hc S2 (w1.putObj L0 (.loop {rec .ready none with state:=.busy})) ι2 H2:=by
   refine⟨⟨T2.below.os,T2.below.tape,T2.below.output,by simpa using T2.below.size,fun b hb'=>?_⟩,fun b hb' ho=>?_,⟨fun b j hs=>⟨(T2.keeps.imm b j hs).1,?_⟩,fun b j hs=>?_⟩,fun b j hb' hs=>T2.immN b j (by omega) hs,fun b ho=>by rw[hszw];exact T2.own b ho,T2.protO,T2.protT⟩
   ·by_cases e:b=L0
    ·subst e;unfold bsz;rw[hL3,hLw]
    ·exact(eZ (hO3 b e)).trans ((T2.below.len b (by omega)).trans (eZ (hOw b e)).symm)
   ·by_cases e:b=L0
    ·subst e;exact hL3.trans hLw.symm
    ·exact(hO3 b e).trans ((T2.same b (by omega) ho).trans (hOw b e).symm)
   ·rw[hrdw,hrd3];exact(T2.keeps.imm b j hs).2
   ·rw[hrdw]at hs;rw[hrd3];exact T2.keeps.cells b j hs
  have hA3:At B n S (w.putObj L0 (.loop {rec .ready none with state:=.busy})) ιc Hc env2 H2 aa (w1.putObj L0 (.loop {rec .ready none with state:=.busy})):=
   ⟨S2,ι2,hB _ _ _ _ TX3.keeps TX3.below hb2,M3,R2.mono TX3.keeps (.refl _),⟨fun d hd=>by
    obtain⟨b,h1,h2,h3⟩:=D2.all d hd;refine⟨b,h1,?_,h3⟩;rw[hO3 b (fun e=>by rw[e,hL2]at h2;cases h2)];exact h2,D2.nodup⟩,fun d hd b hb=>by rw[hszw];exact D2' d hd b hb,TB⟩
  refine wpIn_mono (iB (r:=some L0) hB hm hτ hC (hY _) body hok2 _ _ _ _ hk2 _ _ _ _ _ _ hA3) ?_
  rintro e a3 w3 ⟨env',H',⟨n3,hk3⟩,hA4⟩
  have fin:∀(jump:Option Code) (env4:Env) (H4:Hp),At B n S (w.putObj L0 (.loop {rec .ready none with state:=.busy})) ιc Hc env4 H4 a3 w3→wJ gi (pre++[uL (dI as)])=jump.isNone→
   ((jump=none∧gi i=true∧H4=st (i+1))∨(∃e c,gi i=false∧jump=some c∧((e=.ret∧c=.ret)∨∃id,e=.exit id∧c=.exit id)∧Q e H4))→
   ∃v w',(Instr.endRound L0 jump).run P w3=.ok v w'∧next (a.put o.dst v) w':=by
   intro jump env4 H4 hA5 hgo5 hst5;obtain⟨S5,ι5,hb5,M5,R5,D5,D5',T5⟩:=hA5.ex;have hL5:w3.heap[L0]? =some (.loop {rec .ready none with state:=.busy}):=(T5.same _ (by omega) (hnoL (.inl rfl))).trans hLw
   have hD5:w3.heap[D0]? =some (.deferred (some [])):=(T5.same _ (by omega) (hnoL (.inr rfl))).trans ((hOw D0 hDL).trans hDk)
   have hno5:∀{b},(b=L0∨b=D0)→¬owned ι5 H4 b:=fun{b} hb' ho=>by
    rcases T5.own b ho with h|h
    ·exact hnoL hb' h
    ·rcases hb' with rfl|rfl<;>omega
   obtain⟨M6,TX6,hL6,hO6⟩:=M5.aside (o':=.loop (rec (if jump.isNone then .ready else .done) jump)) hL5 rfl rfl (hno5 (.inl rfl)) n;have TT:=(TXw.trans T5.toX).trans TX6;have hpre':pre++[uL (dI as)]=L.take (i+1):=by rw[hpre];exact eu hx
   have hlt':∀b,(owned ι0 H0 b∨owned ι5 H4 b∨b=D0∨b=L0)→b<(w3.putObj L0 (.loop (rec (if jump.isNone then .ready else .done) jump))).heap.size:=by
    rintro b (h|⟨k,o,h1,h2,h3⟩|rfl|rfl)
    ·exact ahR (hsz b h) TT.below.size
    ·exact(M6.obj k o h1).lt h3
    ·exact ahR hltD TT.below.size
    ·exact ahR hltL TT.below.size
   have hG6:pI B S0 w0 ι0 H0 D0 L0 rec L st gi Q (pre++[uL (dI as)]) (fun b=>owned ι0 H0 b∨owned ι5 H4 b∨b=D0∨b=L0) S5 (w3.putObj L0 (.loop (rec (if jump.isNone then .ready else .done) jump))):=by
    refine⟨ι5,H4,_,_,rfl,M6.obj,M6.liveO,M6.liveT,M6.dist,hB _ _ _ _ TX6.keeps TX6.below hb5,⟨fun k b hkb=>TT.protO k (hn k b hkb) b (hle.o k b hkb),fun k b m hkb=>?_⟩,hkeep.trans TT.keeps,
     fun b ho=>⟨fun e=>hno5 (.inr e) ho,fun e=>hno5 (.inl e) ho⟩,fun b ho=>?_,fun b ho=>hlt' b (.inl ho),ajC hszge TT.below.size,hL6,(hO6 D0 hDL).trans hD5,?_⟩
    ·obtain⟨b',m',q1,q2⟩:=hle.t k b m hkb
     obtain⟨b2,m2,q3,q4⟩:=TT.protT k (hn' k _ hkb) b' m' q1;refine⟨b2,m2,q3,?_⟩;rcases q2 with⟨rfl,q2⟩|q2
     ·rcases q4 with⟨rfl,q4⟩|q4
      ·exact .inl ⟨rfl,by omega⟩
      ·exact .inr (by omega)
     ·rcases q4 with⟨rfl,q4⟩|q4
      ·exact .inr (by omega)
      ·exact .inr (by omega)
    ·rcases TT.own b ho with h|h
     ·exact hown b h
     ·exact .inr (ajC hszge h)
    ·rcases hst5 with⟨rfl,g1,g2⟩|⟨e,c,g1,rfl,g2,g3⟩
     ·refine .inl ⟨rfl,rfl,i+1,by omega,hpre',fun j hj=>?_,g2⟩
      by_cases e:j=i
      ·rw[e];exact g1
      ·exact hall j (by omega)
     ·exact .inr ⟨rfl,i,e,c,hi,hpre',g1,rfl,g2,g3⟩
   have hxD:ι.x 0=fun b=>owned ι0 H0 b∨owned ιc Hc b∨b=D0∨b=L0:=hD;obtain⟨M7,L7,T7⟩:=M.extStep (k:=0) h0 hst0 hG6 TT.below TT.keeps
    (fun b hb' hno=>TT.same b hb' (fun ho=>hno (by rw[hxD];exact .inr (.inl ho))) (fun e=>hno (by rw[hxD];exact .inr (.inr (.inr e)))))
    (fun b j hb' hs=>(TT.immN b j hb' hs).imp id (fun ho=>by rw[hxD];exact .inr (.inl ho)))
    (fun b hb'=>by
     rw[hxD];rcases hb' with h|h|h|h
     ·exact .inl (.inl h)
     ·rcases TT.own b h with h|h
      ·exact .inl (.inr (.inl h))
      ·exact .inr h
     ·exact .inl (.inr (.inr (.inl h)))
     ·exact .inl (.inr (.inr (.inr h)))) hlt' M6.imm
   have hend:(Instr.endRound L0 jump).run P w3=.ok (.bool jump.isNone) (w3.putObj L0 (.loop (rec (if jump.isNone then .ready else .done) jump))):=by
    have:=run_endRound (P:=P) jump hL5;rw[←hrec]at this⊢;exact this
   refine⟨_,_,hend,?_⟩;refine hk _ S5 _ _ M7 L7 TT.keeps ?_ T7;rw[hgo5];exact .bp _ _
  cases e with
  |normal=>
   obtain⟨g1,g2⟩:=hKN _ _ _ hk3;have hgo6:wJ gi (pre++[uL (dI as)])=true:=by rw[hpre,eu hx,oz hi];exact g1
   exact fin none _ _ (g2 _ _ _ _ _ _ hA4) hgo6 (.inl ⟨rfl,g1,rfl⟩)
  |ret=>
   obtain⟨g1,g2⟩:=hKR _ _ hk3;have hgo6:wJ gi (pre++[uL (dI as)])=false:=by rw[hpre,eu hx,oz hi];exact g1
   exact fin (some .ret) _ _ hA4 hgo6 (.inr ⟨.ret,.ret,g1,rfl,.inl ⟨rfl,rfl⟩,g2⟩)
  |exit id=>
   obtain⟨g1,g2⟩:=hKX _ _ _ hk3;have hgo6:wJ gi (pre++[uL (dI as)])=false:=by rw[hpre,eu hx,oz hi];exact g1
   exact fin (some (.exit id)) _ _ hA4 hgo6 (.inr ⟨.exit id,.exit id,g1,rfl,.inr ⟨id,rfl,rfl⟩,g2⟩)
  |_=>exact hk3.elim
 |_=>exact hk2.elim
theorem Ld:∀{H:Hp} {k:Nat} {o:AO},ay H k=some o→k<H.length:=by
 intro H;induction H with
 |nil=>intro k o h;simp[ay]at h
 |cons x H ih=>
  intro k o h;cases k with
  |zero=>simp
  |succ k=>have:=ih (k:=k) (o:=o) (by simpa [ay]using h);simp;omega
theorem Mem.push {S:Imm} {w:World} {ι:Ix} {H:Hp} (M:Mem S w ι H) (o:Obj) (hp:Obj.plain o=true):
 Mem S (w.alloc o) ι H∧Keeps S w S (w.alloc o)∧Bel w (w.alloc o)∧(w.alloc o).heap[w.heap.size]? =some o∧(w.alloc o).heap.size=w.heap.size+1∧∀b,b<w.heap.size→(w.alloc o).heap[b]? =w.heap[b]? :=by
 have hk:Keeps S w S (w.alloc o):=kH M.imm (w:=w) o;have hbel:Bel w (w.alloc o):=kG _ _ (gH hp);have old:∀b,b<w.heap.size→(w.alloc o).heap[b]? =w.heap[b]? :=fun b hb=>gX hb;exact⟨⟨fun k ob ho=>(M.obj k ob ho).mono hk (.refl _) hbel (fun b hb=>old b ((M.obj k ob ho).lt hb)) (fun _=>rfl) rfl (fun _ _ _ h=>h),M.liveO,M.liveT,M.dist,fun b j hs=>by rw[(hk.imm b j hs).2];exact M.imm b j hs⟩,
  hk,hbel,fQ _ _,by simp,old⟩
theorem jo (hB:BOK B) (hm:P.follows .mixedOrders=true) (hτ:aY P τ) {md rf CP YP} (hC:jU P B CP) (hY:∀r,kS P r B YP)
 {g:Operand} {ps:Array Tmp} {assign body:Code} {n:Nat} {Q:Exit→Env→Hp→Prop} {env:Env} {H:Hp} {gf:Nat} {fs0 cs0 fs cs:List PV} (L:List PV) (gi:Nat→Bool) (hs:Nat→List (Nat × AO))
 (hg:eo env g=.fn (.func gf) fs0 cs0) (hfs:jE fs0=some fs) (hcs:jE cs0=some cs) (hI:nX P gf (dI fs) (dI cs) ps.size L)
 (hok1:dL assign=true) (hok2:dL body=true) (hlen:ah7 H.length n=true) (hp:ah7 p n=true)
 (h0:fD (hs 0) H fun H1=>fK (jZ [] H 0 H1) fun σ=>mH σ n env H (A8 env) H1 Ok)
 (hend:(∀j,j<L.length→gi j=true)→fD (hs L.length) H fun H1=>Q .normal env H1)
 (hb:∀i x,L[i]? =some x→(∀j,j<i→gi j=true)→∀l,fD (hs i) H fun H1=>bN (rF env ps.toList (Og ps.size x)) fun env1=>ev P (some l) B n τ md rf CP YP assign n env1 H1 fun e env2 H2 n2=>match e with
  |.normal=>ev P (some l) B n τ md rf CP YP body n2 env2 H2 fun e env' H' _=>match e with
   |.normal=>Nx (∃extra:Sg,gi i=true∧fD (hs (i+1)) H fun H1=>fK (jZ extra H' 0 H1) fun σ=>mH σ n env' H' (A8 env) H1 Ok)
   |.ret=>VC (gi i=false)∧Q .ret env H'
   |.exit id=>VC (gi i=false)∧Q (.exit id) env H'
   |_=>False
  |_=>False):Lp md rf CP YP n (AW P none B p (.rangeFunc g ps assign body) Q env H):=by
 refine⟨fun S0 w0 ι0 H0 a w hA=>?_⟩;have hlen:=aio hlen;have hp:=aio hp;obtain⟨S,ι,hbw,M,R,D,D',T⟩:=hA.ex;have hn:∀k b,ι.o k=some b→k<n:=fun k b h=>by obtain⟨o,h1,_⟩:=M.liveO k b h;have:=Ld h1;omega
 have hn':∀k b,ι.t k=some b→k<n:=fun k b h=>by obtain⟨o,h1,_⟩:=M.liveT k b h;have:=Ld h1;omega
 simp only[fI,fq]at h0;have hAs:At B n S w ι H env H {tmps:=a.tmps,defers:=[]} w:=⟨S,ι,hbw,M,R,.nil _ _ _,fun d hd=>by simp at hd,.refl _ _ _ _ _⟩
 obtain⟨S1,ι1,hb1,M1,R1,_,_,T1⟩:=((gy (B:=B) h0).2 _ _ _ _ _ _ hAs).ex;refine wpIn_rangeFunc fun fn hfn=>?_;obtain⟨rec,hrec⟩:∃rec:LoopState→Option Code→Loop,(fun sta pe=>{state:=sta,pending:=pe,fn:=fn,tmps:=a.tmps,params:=ps,assign:=assign,body:=body,defers:=w.heap.size})=rec:=⟨_,rfl⟩;obtain⟨Ma,Ka,Ba,ha1,ha2,ha3⟩:=M1.push (.deferred (some [])) rfl;obtain⟨Mb,Kb,Bb,hb1',hb2',hb3'⟩:=Ma.push (.loop (rec .ready none)) rfl;obtain⟨W1,hW1⟩:∃W1,(w.alloc (.deferred (some []))).alloc (.loop (rec .ready none))=W1:=⟨_,rfl⟩;rw[hW1]at Mb Kb Bb hb1' hb2' hb3';rw[ha2]at hb1' hb2' hb3';have hD1:W1.heap[w.heap.size]? =some (.deferred (some [])):=(hb3' _ (by omega)).trans ha1
 have hold:∀b,b<w.heap.size→W1.heap[b]? =w.heap[b]? :=fun b hb=>(hb3' b (by omega)).trans (ha3 b hb)
 have hK1:Keeps S w S1 W1:=T1.keeps.trans (Ka.trans Kb);have hBel1:Bel w W1:=Ba.trans Bb;have hnoH:∀b,owned ι H b→b<w.heap.size:=by rintro b ⟨k,o,h1,_,h3⟩;exact(M.obj k o h1).lt h3
 have hno1:∀b,owned ι1 (aZ H (hs 0)) b→b<w.heap.size:=by rintro b ⟨k,o,h1,_,h3⟩;exact(M1.obj k o h1).lt h3
 have hgv:=pQ R g (fun x e=>by subst e;simp only[eo]at hg;cases hh:xK x<;>rw[hh]at hg<;>cases hg)
 rw[hg]at hgv;generalize hev:a.eval g=gv at hgv
 cases hgv with
 |fn _ _ _ _ us vs hk hl hu hvs=>
  have hle1:ι.le ι1:=⟨fun k b h=>T1.protO k (hn k b h) b h,fun k b m h=>T1.protT k (hn' k _ h) b m h⟩;have hGs:=GJ (S0:=S) (w0:=w) (ι0:=ι) (H0:=H) (D0:=w.heap.size) (L0:=w.heap.size+1) (rec:=rec) (L:=L) (st:=fun i=>aZ H (hs i)) (gi:=gi) (Q:=fun e H'=>Q e env H') hB;have hYi:Yields P (w.heap.size+1) ps.size (pI B S w ι H w.heap.size (w.heap.size+1) rec L (fun i=>aZ H (hs i)) gi (fun e H'=>Q e env H')) (wJ gi) L:=by
   rw[←hrec];refine GK hB hm hτ hC hY (md:=md) (rf:=rf) R hn (fun k b h=>hn' k b h) (by omega) (fun h=>by have:=hnoH _ h;omega) (fun h=>by have:=hnoH _ h;omega) hok1 hok2
    (KN:=fun i env' H'=>Nx (∃extra:Sg,gi i=true∧fD (hs (i+1)) H fun H1=>fK (jZ extra H' 0 H1) fun σ=>mH σ n env' H' (A8 env) H1 Ok)) (KR:=fun i H'=>VC (gi i=false)∧Q .ret env H') (KX:=fun i id H'=>VC (gi i=false)∧Q (.exit id) env H')
    (fun i env' H' h=>?_) (fun i H' h=>⟨h.1.get,h.2⟩) (fun i id H' h=>⟨h.1.get,h.2⟩) fun i x hx hall l=>?_
   ·obtain⟨extra,h1,h2⟩:=h.get
    simp only[fI,fq]at h2;exact⟨h1,(gy h2).2⟩
   ·have:=hb i x hx hall l
    rw[fI,bg]at this;exact this
  have hG0:pI B S w ι H w.heap.size (w.heap.size+1) rec L (fun i=>aZ H (hs i)) gi (fun e H'=>Q e env H') [] (fun b=>owned ι H b∨owned ι1 (aZ H (hs 0)) b∨b=w.heap.size∨b=w.heap.size+1) S1 W1:=
   ⟨ι1,aZ H (hs 0),.ready,none,rfl,Mb.obj,Mb.liveO,Mb.liveT,Mb.dist,hB _ _ _ _ (Ka.trans Kb) hBel1 hb1,hle1,hK1,fun b h=>by have:=hno1 b h;omega,T1.own,fun b h=>by have:=hnoH b h;omega,by omega,hb1',hD1,
    .inl ⟨rfl,rfl,0,aiD _,by simp,fun j hj=>by omega,rfl⟩⟩
  let ιi:Ix:=⟨fun _=>none,fun _=>none,fun k b=>k=0∧(owned ι H b∨owned ι1 (aZ H (hs 0)) b∨b=w.heap.size∨b=w.heap.size+1)⟩
  have hxi:ιi.x 0=fun b=>owned ι H b∨owned ι1 (aZ H (hs 0)) b∨b=w.heap.size∨b=w.heap.size+1:=by funext b;simp[ιi]
  have Mi:Mem S1 W1 ιi (fA [.ext (pI B S w ι H w.heap.size (w.heap.size+1) rec L (fun i=>aZ H (hs i)) gi (fun e H'=>Q e env H')) []]):=by
   have only:∀{k o},ay (fA [.ext (pI B S w ι H w.heap.size (w.heap.size+1) rec L (fun i=>aZ H (hs i)) gi (fun e H'=>Q e env H')) []]) k=some o→k=0∧o=.ext (pI B S w ι H w.heap.size (w.heap.size+1) rec L (fun i=>aZ H (hs i)) gi (fun e H'=>Q e env H')) []:=by
    intro k o h;rw[jc]at h;cases k with
    |zero=>simp at h;exact⟨rfl,h.symm⟩
    |succ k=>simp at h
   refine⟨fun k o h=>?_,fun k b h=>by simp[ιi]at h,fun k b h=>by simp[ιi]at h,fun k k' o o' b h h' _ _=>by rw[(only h).1,(only h').1],Mb.imm⟩
   obtain⟨rfl,rfl⟩:=only h;refine⟨fun b hb=>?_,hGs,by rw[hxi];exact hG0⟩
   rw[hxi]at hb;rcases hb with h|h|h|h
   ·have:=hnoH b h;omega
   ·have:=hno1 b h;omega
   ·omega
   ·omega
  obtain⟨f1,f2⟩:=iP hfs;obtain⟨c1,c2⟩:=iP hcs;have hAi:bF S1 W1 ιi (dI fs++[.fv (.yield (w.heap.size+1)) #[] #[]]++dI cs) (us++ #[.func (.yield (w.heap.size+1)) #[] #[]]++vs):=by
   refine gI (gI ⟨(bB fs).1.trans (f1.trans hk),fun i hi=>?_⟩ ⟨rfl,fun i hi=>?_⟩) ⟨(bB cs).1.trans (c1.trans hl),fun i hi=>?_⟩
   ·rw[(bB fs).1]at hi
    exact Rep.up (((bB fs).2 i (f2 i (by omega) (hu i (by omega)))).mono hK1 _ (.refl _)) _
   ·have:i=0:=by simp at hi;omega
    subst this;exact .fv _ _ _ _
   ·rw[(bB cs).1]at hi
    exact Rep.up (((bB cs).2 i (c2 i (by omega) (hvs i (by omega)))).mono hK1 _ (.refl _)) _
  refine⟨w.heap.size+1,[{target:=.collected w.heap.size,args:= #[]}],W1,{target:=.fn (.func gf) vs,args:=us++ #[.func (.yield (w.heap.size+1)) #[] #[]]},W1,gf,us++ #[.func (.yield (w.heap.size+1)) #[] #[]]++vs,W1,?_,?_,?_,?_,fun h=>by simp[Fw,Fence.wide]at h,?_⟩
  ·rw[←hW1,←hrec];exact run_enterLoop_outer _ _ _ _ _
  ·simp only[resolve,hev,Deferred.ofValue,Sem.run_bind,Sem.run_pure,Result.andThen]
   simp[go_sem]
  ·intro f' _;trivial
  ·simp only[invoke,Sem.run_bind,Sem.run_pure,Result.andThen]
   exact hI.1 _ _
  ·refine CallsIn.mono (hI.2 _ _ _ hYi S1 W1 ιi _ (nk hK1 hBel1 (hB.glob _ _ hbw)) Mi hAi) ?_
   rintro e w5 ⟨val,S5,ι5,rfl,M5,R5,T5⟩
   obtain⟨_,_,hG5⟩:=M5.obj 0 _ (by rw[jc];rfl)
   obtain⟨ιc,Hc,sta,pend,hD5,hobj,hlo,hlt,hdi,hBc,hle,hkeep,hne,hown,hsz,hszge,hL,hDk,hstat⟩:=hG5;have Mc:Mem S5 w5 ιc Hc:=⟨hobj,hlo,hlt,hdi,M5.imm⟩;have hst':sta≠ .busy:=by rcases hstat with⟨h,_⟩|⟨h,_⟩<;>rw[h]<;>simp
   have hend':(Instr.endLoop (w.heap.size+1)).run P w5=.ok pend (w5.putObj (w.heap.size+1) (.loop {rec sta pend with state:=.exhausted})):=by
    have:=run_endLoop (P:=P) hL (by rw[←hrec];exact hst')
    rw[←hrec]at this⊢;exact this
   obtain⟨M6,TX6,hL6,hO6⟩:=Mc.aside (o':=.loop {rec sta pend with state:=.exhausted}) hL rfl rfl (fun h=>(hne _ h).2 rfl) p;have hDi:∀b,b<w.heap.size→owned ιi (fA [.ext (pI B S w ι H w.heap.size (w.heap.size+1) rec L (fun i=>aZ H (hs i)) gi (fun e H'=>Q e env H')) []]) b→owned ι H b:=by
    rintro b hbl ⟨k,o,h1,_,h3⟩
    rw[jc]at h1;cases k with
    |succ k=>simp at h1
    |zero=>
     simp at h1;subst h1;have h3:ιi.x 0 b:=h3;rw[hxi]at h3;rcases h3 with h|h|h|h
     ·exact h
     ·rcases T1.own b h with h|h
      ·exact h
      ·omega
     ·omega
     ·omega
   have TF:Tr p S w ι H S5 (w5.putObj (w.heap.size+1) (.loop {rec sta pend with state:=.exhausted})) ιc Hc:=by
    refine⟨hBel1.trans (T5.below.trans TX6.below),fun b hbl ho=>?_,hkeep.trans TX6.keeps,fun b j hbl hs=>?_,hown,fun k hk b hkb=>hle.o k b hkb,fun k hk b m hkb=>hle.t k b m hkb⟩
    ·rw[hO6 b (by omega),T5.same b (by omega) (fun h=>ho (hDi b hbl h)),hold b hbl]
    ·rcases T5.immN b j (by omega) hs with h|h
     ·exact T1.immN b j hbl h
     ·exact .inr (hDi b hbl h)
   have hAt:At B p S0 w0 ι0 H0 env Hc {a with defers:=[{target:=.collected w.heap.size,args:= #[]}]++a.defers} (w5.putObj (w.heap.size+1) (.loop {rec sta pend with state:=.exhausted})):=by
    refine⟨S5,ιc,hB _ _ _ _ TX6.keeps TX6.below hBc,M6,R.mono (hkeep.trans TX6.keeps) hle,⟨fun d hd=>?_,?_⟩,fun d hd b hb=>?_,T.trans TF⟩
    ·rcases ajg.1 hd with rfl|hd
     ·exact⟨w.heap.size,rfl,(hO6 _ (by omega)).trans hDk,fun h=>(hne _ h).1 rfl⟩
     ·exact(D.tr TF).all d hd
    ·refine List.pairwise_cons.2 ⟨fun d hd b b' h1 h2 e=>?_,D.nodup⟩
     obtain⟨b2,q1,q2,q3⟩:=D.all d hd;rw[q1]at h2;cases h2;cases h1
     have:=lt_of_heap q2;omega
    ·rcases ajg.1 hd with rfl|hd
     ·cases hb;exact T.below.size
     ·exact D' d hd b hb
   refine⟨pend,_,hend',?_⟩;rcases hstat with⟨s1,rfl,i,hi,hpre,hall,hH⟩|⟨s1,i,e,c,hi,hpre,hgf,rfl,hec,hQ⟩
   ·have:i=L.length:=Rf hi (fun j hj=>by rw[oz (by omega)];exact hall j hj) hpre
    subst this;have:=hend hall;rw[fI]at this;exact⟨env,Hc,by rw[hH];exact this,hAt⟩
   ·rcases hec with⟨rfl,rfl⟩|⟨id,rfl,rfl⟩
    ·exact wpIn_ret ⟨env,Hc,hQ,hAt⟩
    ·exact wpIn_exit ⟨env,Hc,hQ,hAt⟩
end
variable {P:Program} {τ:TypeId→Option TE}
theorem Ri {B:Imm→World→Prop} (hB:BOK B) (hm:P.follows .mixedOrders=true) (hτ:aY P τ) {md rf CP YP} (hC:jU P B CP) (hY:kS P none B YP) {g:FuncId} {fn:Func} {args rs:List PV} {objs objs':List AO} (n0:Nat) (extra:Sg)
 (hf:P.funcs[g]? =some fn) (hb:fn.body.isSome=true) (hok:dL (fn.body.getD .skip)=true)
 (h:wG P B τ md rf CP YP fn args objs n0 extra rs objs'):AV P B g args objs rs objs':=by
 obtain⟨c,hc⟩:=ahY.1 hb;unfold wG at h;rw[hc]at h hok;exact yN hB hτ hf hc ((iB hB hm hτ hC hY c hok _ _ _ _ h).mono fun e env H ⟨n,h⟩=>h)
theorem enters' {g:FuncId} {fn:Func} (hf:P.funcs[g]? =some fn) (hn:(fn.name== "runtime.NumGoroutine")=false) (hb:fn.body.isSome=true):Enters P g:=enters hf hn (by cases h:fn.body<;>simp_all)
theorem lQ (hm:P.follows .mixedOrders=true) (hτ:aY P τ) {g:FuncId} {fn:Func} {fs cs L:List PV} {m:Nat} {md:Nat} {rf:List Nat}
 (hf:P.funcs[g]? =some fn) (hn:(fn.name== "runtime.NumGoroutine")=false) (hb:fn.body.isSome=true) (hok:dL (fn.body.getD .skip)=true)
 (h:∀(G:GT) (go:List PV→Bool) (b:Nat),Yields P b m G go L→∃CP,aW P CP∧wG P kR τ md rf CP (uM b m G go L) fn (fs++[.fv (.yield b) #[] #[]]++cs) [.ext G []] 1 [] [] [.ext G (iQ go [] L)]):nX P g fs cs m L:=
 ⟨enters' hf hn hb,fun G go b hY=>by
  obtain⟨CP,hC,h⟩:=h G go b hY;exact Ri aK hm hτ hC (hY _ _) 1 [] hf hb hok h⟩
def FB (c:CL) (K:CL→Prop):Prop:=
 match c with
 |.pv cs=>match sH .i64 cs with
  |some l=>K (.ints .i64 l)
  |none=>match nA cs with
   |some l=>K (.bools l)
   |none=>False
 |.ints k xs=>K (.ints k xs)
 |.bools xs=>K (.bools xs)
 |.strs xs=>K (.strs xs)
 |.rows k xs=>K (.rows k xs)
 |_=>False
theorem yO {c:CL} {K:CL→Prop} (h:FB c K):∃d,K d∧d.esz=1∧d.ncell=c.ncell∧d.cnt=d.ncell∧∀j,j<c.ncell→∀{S:Imm} {w:World} {ι:Ix} {v:Value},Rep S w ι (c.get j) v→Rep S w noI (d.get j) v:=by
 unfold FB at h;split at h
 ·split at h
  ·rename_i l hl
   obtain⟨h1,h2⟩:=vV hl;exact⟨_,h,rfl,h1,rfl,fun j hj S w ι v hr=>h2 j hj hr⟩
  ·split at h
   ·rename_i l hl
    obtain⟨h1,h2⟩:=vH hl;exact⟨_,h,rfl,h1,rfl,fun j hj S w ι v hr=>h2 j hj hr⟩
   ·exact h.elim
 ·exact⟨_,h,rfl,rfl,rfl,fun j hj S w ι v hr=>by cases hr;exact .int _ _ _⟩
 ·exact⟨_,h,rfl,rfl,rfl,fun j hj S w ι v hr=>by cases hr;exact .bp _ _⟩
 ·exact⟨_,h,rfl,rfl,rfl,fun j hj S w ι v hr=>by cases hr;exact .str _ _⟩
 ·exact⟨_,h,rfl,rfl,rfl,fun j hj S w ι v hr=>hr.toNoI⟩
 ·exact h.elim
def qE:List PV→List PV
 | []=>[]
 |x::xs=>(match fu x with|some y=>y|none=>.any)::qE xs
theorem GL:∀{ds:List PV},(qE ds).length=ds.length∧∀i {S:Imm} {w:World} {ι:Ix} {v:Value},Rep S w ι (aD ds i) v→Rep S w noI (aD (qE ds) i) v:=by
 intro ds;induction ds with
 |nil=>exact⟨rfl,fun i S w ι v h=>.any _ _⟩
 |cons x xs ih=>
  refine⟨by simp[qE,ih.1],fun i S w ι v h=>?_⟩
  cases i with
  |succ i=>exact ih.2 i h
  |zero=>
   simp only[qE,aD]at h⊢;split
   ·rename_i y hy;exact gu hy h
   ·exact .any _ _
def xY (H:Hp) (p:PV) (K:PV→List Nat→Prop):Prop:=
 match p with
 |.rsl k off n=>bU H k fun o=>match o with
  |.cells c fz=>FB c fun d=>iK d fun dn=>off+n≤dn∧K (.isl (d.sub off (off+n)) .none) [k]
  |_=>False
 |.rp k off=>bU H k fun o=>match o with
  |.cells c fz=>match c with
   |.pv ds=>bN (qE ds) fun us=>K (.ip (.pv us) off) [k]
   |_=>False
  |_=>False
 |p=>match uw p with
  |some q=>K q []
  |none=>False
def GN (H:Hp):List PV→(List PV→List Nat→Prop)→Prop
 | [],K=>K [] []
 |p::r,K=>xY H p fun q a=>GN H r fun qs as=>K (q::qs) (a++as)
def j6 (S:Imm) (ι:Ix) (H:Hp):Imm:=fun b j=>S b j∨∃k c fz,ay H k=some (.cells c fz)∧ι.o k=some b∧j<c.ncell
theorem kN {S:Imm} {w:World} {ι:Ix} {H:Hp}:Keeps S w (j6 S ι H) w:=⟨fun b j h=>⟨.inl h,rfl⟩,fun b j h=>h⟩
theorem GQ {S:Imm} {w:World} {ι:Ix} {H:Hp} (M:Mem S w ι H) (b j:Nat) (h:j6 S ι H b j):(rd w b j).isSome:=by
 rcases h with h|⟨k,c,fz,h1,h2,h3⟩
 ·exact M.imm b j h
 ·have:=(M.lies h1 h2 j h3).1;simpa using this
theorem yP {H:Hp} {p:PV} {K:PV→List Nat→Prop} (h:xY H p K):∃q a,K q a∧∀{S:Imm} {w:World} {ι:Ix} {H':Hp} {v:Value},Mem S w ι H'→(∀k∈a,ay H' k=ay H k)→Rep S w ι p v→Rep (j6 S ι H') w noI q v:=by
 unfold xY at h;split at h
 ·rename_i k off n
  rw[aX]at h;obtain⟨ob,hob,h⟩:=h;split at h
  ·rename_i c fz
   obtain⟨d,h,d1,d2,d3,d4⟩:=yO h;rw[dZ]at h;obtain⟨hn,h⟩:=h;refine⟨_,_,h,fun{S w ι H' v} M ha hr=>?_⟩;have hob':ay H' k=some (.cells c fz):=(ha k (by simp)).trans hob
   have conv:∀b,ι.o k=some b→∀j,j<d.ncell→j6 S ι H' b (0+j)∧Rep (j6 S ι H') w noI (d.get j) (rdv w b (0+j)):=fun b hb j hj=>
    ⟨.inr ⟨k,c,fz,hob',hb,by omega⟩,(d4 j (by omega) (M.lies hob' hb j (by omega)).2).mono kN _ (.refl _)⟩
   cases hr with
   |rsl _ _ _ _ b cap hk hc _=>
    have:=nH (S:=j6 S ι H') (w:=w) (c:=d) (b:=b) (off:=0) (fun j hj=>(conv b hk j hj).1) (fun j hj=>(conv b hk j hj).2) (x:=off) (y:=off+n) (by omega) hn (cap:=cap) (by omega) noI
    rw[d1]at this;simpa using this
   |rslz _ _ _ b o hk=>exact iY _ (by rw[iO _ hn];omega) (.inr ⟨b,o,rfl⟩) noI
  ·exact h.elim
 ·rename_i k off
  rw[aX]at h;obtain⟨ob,hob,h⟩:=h;split at h
  ·rename_i c fz
   split at h
   ·rename_i ds
    rw[bg]at h;refine⟨_,_,h,fun{S w ι H' v} M ha hr=>?_⟩;have hob':ay H' k=some (.cells (.pv ds) fz):=(ha k (by simp)).trans hob
    obtain⟨e1,e2⟩:=GL (ds:=ds);cases hr with
    |rp _ _ _ b hk=>
     have:=Rep.ip (S:=j6 S ι H') (w:=w) noI (.pv (qE ds)) off b 0
      (fun j hj=>.inr ⟨k,.pv ds,fz,hob',hk,by simp only[CL.ncell]at hj⊢;omega⟩)
      (fun j hj=>by
       have hj':j<ds.length:=by simp only[CL.ncell]at hj;omega
       exact(e2 j (M.lies hob' hk j (by simpa [CL.ncell]using hj')).2).mono kN _ (.refl _))
     simpa using this
   ·exact h.elim
  ·exact h.elim
 ·split at h
  ·rename_i q hq
   exact⟨_,_,h,fun{S w ι H' v} M ha hr=>(rY hq hr).mono kN _ (.refl _)⟩
  ·exact h.elim
theorem GR {H:Hp}:∀{ps:List PV} {K:List PV→List Nat→Prop},GN H ps K→∃qs a,K qs a∧qs.length=ps.length∧∀{S:Imm} {w:World} {ι:Ix} {H':Hp},Mem S w ι H'→(∀k∈a,ay H' k=ay H k)→∀i,i<ps.length→∀v,Rep S w ι (aD ps i) v→Rep (j6 S ι H') w noI (aD qs i) v:=by
 intro ps;induction ps with
 |nil=>intro K h;exact⟨_,_,h,rfl,fun M _ i hi=>by simp at hi⟩
 |cons p r ih=>
  intro K h;obtain⟨q,a,h,hq⟩:=yP h;obtain⟨qs,as,h,hl,hs⟩:=ih h;refine⟨_,_,h,by simp[hl],fun{S w ι H'} M ha i hi v hr=>?_⟩
  cases i with
  |zero=>exact hq M (fun k hk=>ha k (by simp[hk])) hr
  |succ i=>exact hs M (fun k hk=>ha k (by simp[hk])) i (by simpa using hi) v hr
def wK:PV→Bool
 |.int _ _=>true
 |.bool _=>true
 |.bp _=>true
 |.str _=>true
 |_=>false
def xZ:List PV→Bool
 | []=>true
 |x::xs=>match wK x with|true=>xZ xs|false=>false
def GU:PV→Bool
 |.tup vs=>xZ vs
 |v=>wK v
theorem wL {p:PV} (h:wK p=true) {S S':Imm} {w w':World} {ι ι':Ix} {v:Value} (hr:Rep S w ι p v):Rep S' w' ι' p v:=by
 cases p<;>simp[wK]at h<;>cases hr<;>constructor
theorem EY:∀{ps:List PV},xZ ps=true→∀i,i<ps.length→wK (aD ps i)=true:=by
 intro ps;induction ps with
 |nil=>intro _ i hi;simp at hi
 |cons p ps ih=>
  intro h i hi;unfold xZ at h;split at h
  ·rename_i hp
   cases i with
   |zero=>exact hp
   |succ i=>exact ih h i (by simpa using hi)
  ·cases h
theorem GV {p:PV} (h:GU p=true) {S S':Imm} {w w':World} {ι ι':Ix} {v:Value} (hr:Rep S w ι p v):Rep S' w' ι' p v:=by
 unfold GU at h;split at h
 ·cases hr with|tup _ _ vs hl hh=>exact .tup _ _ _ hl (fun i hi=>wL (EY h i hi) (hh i hi))
 ·exact wL h hr
def A9 (C:PSp):CT:=fun args n H K=>GN H args fun xs a=>bN (dI xs) fun xs=>C xs fun v=>ifK (GU v) (K v [] a [])
theorem En {P:Program} {g:FuncId} {C:PSp} (h:POK P g C):COK P g (A9 C):=by
 intro args n H K hk;unfold A9 at hk;obtain⟨xs,a,hk,hl,hs⟩:=GR hk;rw[bg]at hk;obtain⟨v,hk,hent,hv⟩:=h _ _ hk;rw[aL]at hk;obtain⟨hp,hk⟩:=hk;refine⟨v,[],a,[],hk,hent,fun S w ι H' vs hgb M hr ha _=>?_⟩;have hA:bF (j6 S ι H') w noI (dI xs) vs:=⟨(bB xs).1.trans (hl.trans hr.1),fun i hi=>(bB xs).2 i (hs M ha i (by rw[(bB xs).1]at hi;omega) _ (hr.2 i (by rw[(bB xs).1]at hi;omega)))⟩
 refine(hv (j6 S ι H') w vs (nk kN (.refl _) hgb) (GQ M) hA).mono ?_
 rintro e w' ⟨val,S',rfl,o⟩
 have hno:∀k ob b,ay H' k=some ob→ob.has ι k b→b<w.heap.size:=fun k ob b ho hb=>(M.obj k ob ho).lt hb;have hk0:Keeps S w S w':=⟨fun b j hs=>⟨hs,(o.keeps.imm b j (.inl hs)).2⟩,o.keeps.cells⟩;refine⟨val,S,ι,rfl,⟨fun k ob ho=>(M.obj k ob ho).mono hk0 (.refl _) o.below (fun b hb=>o.same b (hno k ob b ho hb)) (fun _=>rfl) rfl (fun b j hb hs=>hs),M.liveO,M.liveT,M.dist,fun b j hs=>by rw[(hk0.imm b j hs).2];exact M.imm b j hs⟩,
  .refl _,hk0,GV hp o.rep,fun p=>⟨o.below,fun b hb _=>o.same b hb,hk0,fun b j hb hs=>.inl hs,fun b h=>.inl h,fun _ _ _ h=>h,fun _ _ b n h=>⟨b,n,h,.inl ⟨rfl,ahO _⟩⟩⟩⟩
def Le (args:List PV) (objs:List AO) (args1:List PV) (H1:Hp):Prop:=
 ∀(S:Imm) (w:World) (ι:Ix) (vs:Array Value),Mem S w ι (fA objs)→bF S w ι args vs→∃ι',Mem S w ι' H1∧bF S w ι' args1 vs∧∀p,Tr p S w ι (fA objs) S w ι' H1
theorem Le.refl (args:List PV) (objs:List AO):Le args objs args (fA objs):=fun S w ι vs M R=>⟨ι,M,R,fun p=>.refl _ _ _ _ _⟩
section
variable {P:Program} {τ:TypeId→Option TE} {B:Imm→World→Prop}
end
def wM (H:Hp):List PV→(List PV→List (Nat × AO)→Prop)→Prop
 | [],K=>K [] []
 |p::r,K=>match p with
  |.rsl j off n=>bU H j fun o=>match o with
   |.cells c fz=>match fz with
    |true=>False
    |false=>qp c fun d=>nC d fun ce=>iK d fun cn=>ifK (ah6 off 0) (n≤cn∧wM H r fun us sets=>ifK (match gT j (keys sets)with|true=>false|false=>true) (K (.isl (d.sub 0 n) .none::us) ((j,.cells d true)::sets)))
   |_=>False
  |p=>match fu p with
   |some q=>bM q fun q=>wM H r fun us sets=>K (q::us) sets
   |none=>False
theorem Oh {H:Hp}:∀{ds:List PV} {K:List PV→List (Nat × AO)→Prop},wM H ds K→∃us sets,K us sets∧us.length=ds.length∧
 ∀{S:Imm} {w:World} {ι:Ix} {H':Hp} (vals:Nat→Value),Mem S w ι H'→(∀j∈keys sets,ay H' j=ay H j)→(∀i,i<ds.length→Rep S w ι (aD ds i) (vals i))→
  ∃S',Mem S' w ι (aZ H' sets)∧Keeps S w S' w∧(∀p,Tr p S w ι H' S' w ι (aZ H' sets))∧∀i,i<us.length→Rep S' w noI (aD us i) (vals i):=by
 intro ds;induction ds with
 |nil=>intro K h;exact⟨_,_,h,rfl,fun vals M _ _=>⟨_,M,.refl _ _,fun p=>.refl _ _ _ _ _,fun i hi=>by simp at hi⟩⟩
 |cons p r ih=>
  intro K h;unfold wM at h;split at h
  ·rename_i j off n
   rw[aX]at h;obtain⟨ob,hob,h⟩:=h;split at h
   ·rename_i c fz
    split at h
    ·exact h.elim
    ·obtain⟨d,hA,d1,d2,d3⟩:=jX h
     clear h;simp only[gM,dZ,aL]at hA;obtain⟨hoff,hn,hB⟩:=hA;have hoff:=aib hoff;subst hoff;obtain⟨us,sets,hC,hl,hs⟩:=ih hB;obtain⟨hj,hK⟩:=hC;have hj:j∉keys sets:=fun hm=>by rw[←qA]at hm;rw[hm]at hj;cases hj
     refine⟨_,_,hK,by simp[hl],fun{S w ι H'} vals M ha hr=>?_⟩
     have hob':=(ha j (by simp[keys])).trans hob
     obtain⟨S1,M1,K1,T1,F1⟩:=M.freeze (c':=d) hob' d2 (fun j hj=>by intro S w ι v hr;exact d3 j hj hr)
     obtain⟨S2,M2,K2,T2,R2⟩:=hs (fun i=>vals (i+1)) M1 (fun j' hj'=>by
      rw[bq,if_neg (fun(e:j'=j)=>hj (by subst e;exact hj'))]
      exact ha j' (by simp only[keys,List.map_cons,ajg];exact .inr hj')) (fun i hi=>by have:=(hr (i+1) (by simpa using hi)).mono K1 _ (.refl _);simpa [aD]using this)
     refine⟨S2,M2,K1.trans K2,fun p=>(T1 p).trans (T2 p),fun i hi=>?_⟩;cases i with
     |succ i=>simpa [aD]using R2 i (by simpa using hi)
     |zero=>
      simp only[aD];have h0:=(hr 0 (by simp)).mono K1 _ (.refl _)
      simp only[aD]at h0;refine Rep.mono K2 (ι:=noI) ?_ _ (.refl _);generalize vals 0=v0 at h0
      cases h0 with
      |rsl _ _ _ _ b cap hk hc _=>
       have:=nH (S:=S1) (w:=w) (c:=d) (b:=b) (off:=0) (fun j hj=>by rw[aic];exact(F1 b hk j hj).1) (fun j hj=>by rw[aic];exact(F1 b hk j hj).2) (x:=0) (y:=n) (by omega) hn (cap:=cap) (by omega) noI
       simpa using this
      |rslz _ _ _ b o hk=>
       exact iY _ (by rw[iO _ (by omega)]) (.inr ⟨b,o,rfl⟩) noI
   ·exact h.elim
  ·split at h
   ·rename_i q hq
    rw[bH]at h;obtain⟨us,sets,hK,hl,hs⟩:=ih h;refine⟨_,_,hK,by simp[hl],fun{S w ι H'} vals M ha hr=>?_⟩
    obtain⟨S2,M2,K2,T2,R2⟩:=hs (fun i=>vals (i+1)) M ha (fun i hi=>by have:=hr (i+1) (by simpa using hi);simpa [aD]using this)
    refine⟨S2,M2,K2,T2,fun i hi=>?_⟩;cases i with
    |succ i=>simpa [aD]using R2 i (by simpa using hi)
    |zero=>simpa [aD]using(gu hq (hr 0 (by simp))).mono K2 _ (.refl _)
   ·exact h.elim
theorem wN (H:Hp):∀(a b:List (Nat × AO)),aZ H (a++b)=aZ (aZ H a) b:=by
 intro a;induction a generalizing H with
 |nil=>intro b;rfl
 |cons x a ih=>intro b;obtain⟨k,o⟩:=x;simp only[List.cons_append,aZ,ih]
section
variable {P:Program} {r:Option Nat} {τ:TypeId→Option TE} {B:Imm→World→Prop} {p:Nat}
theorem U3 {X:Type} (I:X→Prop) (us:X→List (Nat × PV)) (hs:X→List (Nat × AO)) (μ:X→Nat) (b:Nat) {md rf CP YP} (W:Walk P r B τ CP YP)
 {c:Code} {n:Nat} {Q:Exit→Env→Hp→Prop} {env:Env} {H:Hp} (hok:dL c=true)
 (h0:ev P r B p τ md rf CP YP c n env H fun e env' H' _=>match e with
  |.normal=>Nx (∃(x':X) (extra:Sg),(I x'∧μ x'<b)∧fD (hs x') H fun H1=>bN (stE c env (us x')) fun env1=>fK (jZ extra H' 0 H1) fun σ=>mH σ p env' H' env1 H1 Ok)
  |e=>Q e env' H')
 (hb:∀x,I x→fD (hs x) H fun H1=>bN (stE c env (us x)) fun env1=>ev P r B p τ md rf CP YP c n env1 H1 fun e env' H' _=>match e with
  |.normal=>Nx (∃(x':X) (extra:Sg),(I x'∧μ x'<μ x)∧fD (hs x') H fun H1=>bN (stE c env (us x')) fun env1=>fK (jZ extra H' 0 H1) fun σ=>mH σ p env' H' env1 H1 Ok)
  |e=>Q e env' H'):Lp md rf CP YP n (AW P r B p (.loop c) Q env H):=by
 refine⟨Cz (X:=Option {x:X // I x}) (fun x=>match x with|none=>(env,H)|some x=>(stE c env (us x.1),aZ H (hs x.1))) (fun x=>match x with|none=>b|some x=>μ x.1) none (fun _ _ _ _ _ _ h=>h) fun x=>?_⟩
 cases x with
 |none=>
  refine(iB W.hB W.hm W.hτ W.hC W.hY c hok _ _ _ _ h0).mono ?_
  rintro e env' H' ⟨_,h⟩
  cases e with
  |normal=>
   obtain⟨x',extra,⟨h0,h1⟩,h2⟩:=h.get;simp only[fI,bg,fq]at h2;exact⟨some ⟨x',h0⟩,h1,(gy h2).2⟩
  |_=>exact h
 |some x=>
  have h:=hb x.1 x.2;simp only[fI,bg,fq]at h;refine(iB W.hB W.hm W.hτ W.hC W.hY c hok _ _ _ _ h).mono ?_
  rintro e env' H' ⟨_,h⟩
  cases e with
  |normal=>
   obtain⟨x',extra,⟨h0,h1⟩,h2⟩:=h.get;exact⟨some ⟨x',h0⟩,h1,(gy h2).2⟩
  |_=>exact h
end
end Go.Eng
namespace Go.Eng
open Go.RowKit Go.Sort
set_option linter.unusedSimpArgs false
set_option linter.unusedVariables false
theorem Mem.write' {S:Imm} {w w':World} {ι:Ix} {H:Hp} (M:Mem S w ι H) {k b:Nat} {c c':CL} {arr arr':Array Value} {e:TypeId}
 (ho:ay H k=some (.cells c false)) (hk:ι.o k=some b) (h:w.heap[b]? =some (.cells arr e (0,0))) (below:Bel w w') (other:∀b',b'<w.heap.size→b'≠b→w'.heap[b']? =w.heap[b']?) (here:w'.heap[b]? =some (.cells arr' e (0,0))) (hsz:arr.size≤arr'.size)
 (hn:c'.ncell≤arr'.size) (hc:∀j,j<c'.ncell→Rep S w ι (c'.get j) (arr'.getD j undef)):
 Mem S w' ι (aQ H k (.cells c' false))∧Keeps S w S w'∧∀p,Tr p S w ι H S w' ι (aQ H k (.cells c' false)):=by
 obtain⟨b0,arr0,e0,h1,h2,h3,h4,h5⟩:=M.obj k _ ho;rw[hk]at h1;cases h1
 have hlt:∀b' j,(rd w b' j).isSome→b'<w.heap.size:=fun b' j hs=>by
  rcases ahP b' w.heap.size with h6|h6
  ·exact h6
  ·unfold rd at hs;rw[ahQ h6]at hs;simp at hs
 have hkeep:Keeps S w S w':=⟨fun b' j hs=>⟨hs,dh (other b' (hlt b' j (M.imm b' j hs)) (fun e=>by subst e;exact h5 j hs)) j⟩,fun b' j hs=>by
  by_cases eb:b'=b
  ·subst eb
   rw[aN h]at hs;rw[aN here];have:j<arr.size:=by
    rcases ahP j arr.size with h1|h1
    ·exact h1
    ·rw[ahQ h1]at hs;simp at hs
   rw[ahT (by omega)];rfl
  ·rw[dh (other b' (hlt b' j hs) eb) j];exact hs⟩
 have ht:ι.t k=none:=by
  cases et:ι.t k with
  |none=>rfl
  |some x=>obtain⟨o,g1,g2⟩:=M.liveT k x et;rw[ho]at g1;cases g1;simp[AO.isTok]at g2
 have:=M.step (S':=S) (w':=w') (ι':=ι) (k:=k) (o':=.cells c' false) (b:=b) below other hkeep (fun b' j h=>.inl h) (fun j hs=>absurd hs (h5 j)) (.refl _) (fun _ _=>rfl) (fun _ _=>rfl)
  rfl (.inr ⟨_,ho,rfl,hk⟩) (fun b'=>by simp[AO.has,hk,eq_comm]) (by simp[AO.isTok]) (fun _=>ht) ⟨b,arr',e,hk,here,hn,fun j hj=>(hc j hj).mono hkeep _ (.refl _),h5⟩
 exact⟨this.1,hkeep,this.2⟩
def bK (l:List Int):List Int:=l.mergeSort fun x y=>decide (x≤y)
theorem jf (l:List Int):(bK l).length=l.length:=List.length_mergeSort l
def sI:CT:=fun args n H K=>match args with
 | [p]=>match p with
  |.rsl k off m=>bU H k fun o=>match o with
   |.cells c fz=>match fz with
    |true=>False
    |false=>match c with
     |.ints q xs=>ifK (decide (q=.i64)&&ah6 off 0) ((m=xs.length∧xs.length<4611686018427387904)∧K (.tup []) [(k,.cells (.ints .i64 (bK xs)) false)] [k] [])
     |_=>False
   |_=>False
  |_=>False
 |_=>False
theorem Eo {P:Program} {g:FuncId} (hent:∀vs w,(callFunc g vs).run P w=.ok (.enter g vs) w)
 (hS:∀(blk off cap:Nat) (zs:List Int) (w:World),Holds (Value.int .i64) w blk off zs.toArray→blk<w.heap.size→zs.length<4611686018427387904→
  Calls P g #[.slice (some ⟨blk,off,none⟩) zs.length cap] w fun e w'=>e=.returned (.tuple #[])∧∃n os,w'=grow (Sort.putRow (Value.int .i64) (Sort.ahead w n) blk off (zs.mergeSort fun x y=>decide (x≤y)).toArray) os):COK P g sI:=by
 intro args n H K hk;unfold sI at hk;split at hk
 ·split at hk
  ·rename_i k off m
   rw[aX]at hk;obtain⟨ob,hob,hk⟩:=hk;split at hk
   ·rename_i c fz
    split at hk
    ·exact hk.elim
    ·split at hk
     ·rename_i q xs
      simp only[aL,aia,decide_eq_true_eq]at hk;obtain⟨⟨rfl,hoff⟩,⟨rfl,hlen⟩,hk⟩:=hk;have hoff:=aib hoff;subst hoff;refine⟨_,_,_,[],hk,hent,fun S w ι H' vs _ M hr ha _=>?_⟩;have hob':=(ha k (by simp)).trans hob
      obtain⟨b,arr,e,g1,g2,g3,g4,g5⟩:=M.obj k _ hob';have hv0:∃o cap,vs= #[.slice (some ⟨b,o,none⟩) xs.length cap]∧(o=0∨xs.length=0):=by
       have h0:=hr.2 0 (by simp)
       have hsz:vs.size=1:=hr.1.symm;simp only[aD]at h0;have hvs:vs= #[vs.getD 0 undef]:=by
        apply ai5 (by simp[hsz])
        intro i h1 h2;have:i=0:=by omega
        subst this;simp[ahW,h1]
       rw[hvs];generalize vs.getD 0 undef=v0 at h0
       generalize hml:xs.length=ml at h0
       cases h0 with
       |rsl _ _ _ _ b' cap hk' hc _=>rw[g1]at hk';cases hk';exact⟨0,cap,rfl,.inl rfl⟩
       |rslz _ _ _ b' o hk'=>rw[g1]at hk';cases hk';exact⟨o,0,rfl,.inr rfl⟩
      obtain⟨off,cap,rfl,ho⟩:=hv0;have hbw:b<w.heap.size:=by
       rcases ahP b w.heap.size with h6|h6
       ·exact h6
       ·rw[ahQ h6]at g2;cases g2
      have hg4:∀j,j<xs.length→arr[j]? =some (.int .i64 (xs.getD j 0)):=fun j hj=>by
       have h7:=g4 j hj;have h8:j<arr.size:=ahR hj g3;rw[ahW,ahT h8]at h7;rw[ahT h8];simp only[CL.get,Option.getD_some]at h7;generalize arr[j]=y at h7
       cases h7;rfl
      have hH:Holds (Value.int .i64) w b off xs.toArray:=fun j hj=>by
       have hj':j<xs.length:=by simpa using hj
       have h9:off=0:=by rcases ho with h|h;exact h;omega
       subst h9;rw[aic];refine⟨?_,by simp[World.frozen?,g2]⟩
       rw[fT,aN g2,hg4 j hj'];simp[ahZ,ah4 hj']
      refine(callsIn_wide.2 (hS b off cap xs w hH hbw hlen)).mono ?_
      rintro ex w' ⟨rfl,n',os,hw'⟩
      have hsl:(bK xs).length=xs.length:=jf xs;obtain⟨arr',harr,hsz',hget⟩:∃arr',w'.heap[b]? =some (.cells arr' e (0,0))∧arr'.size=arr.size∧∀j,j<xs.length→arr'[j]? =some (.int .i64 ((bK xs).getD j 0)):=by
       refine⟨putCells (Value.int .i64) off (bK xs).toArray arr,?_,by simp[putCells],fun j hj=>?_⟩
       ·rw[hw',heap_grow_old _ _ (by simpa [Sort.ahead]using hbw)]
        show(mapBlock (Sort.ahead w n') b _).heap[b]? =_;simp only[mapBlock,Sort.ahead,ahU,if_true,g2,ahV,onCells];rfl
       ·have h9:off=0:=by rcases ho with h|h;exact h;omega
        subst h9;have h8:j<arr.size:=ahR hj g3;simp only[putCells,Array.getElem?_mapIdx,ahT h8,ahV,aiD,aic,true_and,ajE,hsl,if_pos hj,Nat.sub_zero];simp[ahZ,ah4 (by omega:j<(bK xs).length),hsl,hj]
      have hoth:∀b',b'<w.heap.size→b'≠b→w'.heap[b']? =w.heap[b']? :=fun b' h1 h2=>by
       rw[hw',heap_grow_old _ _ (by simpa [Sort.ahead]using h1)]
       show(mapBlock (Sort.ahead w n') b _).heap[b']? =_;simp only[mapBlock,Sort.ahead,ahU,if_neg (Ne.symm h2)]
      have hbel:Bel w w':=by
       have hlen0:∀b0,b0<w.heap.size→bsz w' b0=bsz w b0:=fun b0 hb0=>by
        by_cases e0:b0=b
        ·subst e0;unfold bsz;rw[harr,g2];simp[hsz']
        ·exact eZ (hoth b0 hb0 e0)
       rw[hw']at hlen0⊢;exact⟨rfl,rfl,rfl,by simp[Sort.ahead],hlen0⟩
      obtain⟨M',K',T'⟩:=M.write' (c':=.ints .i64 (bK xs)) hob' g1 g2 hbel hoth harr (by omega) (by simp only[CL.ncell,hsl];simp only[CL.ncell]at g3;omega) (fun j hj=>by
       simp only[CL.ncell,hsl]at hj;rw[ahW,hget j hj];exact .int _ _ _)
      exact⟨_,S,ι,rfl,M',.refl _,K',.tup _ _ _ rfl (fun i hi=>by simp at hi),T'⟩
     ·exact hk.elim
   ·exact hk.elim
  ·exact hk.elim
 ·exact hk.elim
end Go.Eng
namespace Go.Eng
open Go.RowKit
set_option linter.unusedSimpArgs false
set_option linter.unusedVariables false
section
variable {P:Program} {r:Option Nat} {B:Imm→World→Prop} {p:Nat}
theorem At.freeze {S0:Imm} {w0:World} {ι0:Ix} {H0 H:Hp} {env:Env} {a:Act} {w:World} (h:At B p S0 w0 ι0 H0 env H a w) (hB:BOK B) {k:Nat} {x d:CL} (hx:ay H k=some (.cells x false)) (hn:d.ncell=x.ncell)
 (hc:∀j,j<x.ncell→∀{S:Imm} {w:World} {ι:Ix} {v:Value},Rep S w ι (x.get j) v→Rep S w noI (d.get j) v):At B p S0 w0 ι0 H0 env (aQ H k (.cells d true)) a w:=by
 obtain⟨S,ι,hb,M,R,D,D',T⟩:=h.ex;obtain⟨S',M',K',T',_⟩:=M.freeze hx hn hc;exact⟨S',ι,hB _ _ _ _ K' (.refl _) hb,M',R.mono K' (.refl _),D.tr (T' p),D',T.trans (T' p)⟩
end
theorem GX {w:World} {b j:Nat} (hs:(rd w b j).isSome):b<w.heap.size:=by
 rcases ahP b w.heap.size with h|h
 ·exact h
 ·unfold rd at hs;rw[ahQ h]at hs;simp at hs
theorem Oi {S:Imm} {w w':World} {v:PV} {val:Value} (himm:∀b j,S b j→(rd w b j).isSome) (hB:Below w.heap.size w w') (hr:Rep S w noI v val):NW S w v val S w':=by
 have hk:Keeps S w S w':=⟨fun b j hs=>⟨hs,dh (hB.block b (GX (himm b j hs))) j⟩,fun b j hs=>by rw[dh (hB.block b (GX hs)) j];exact hs⟩
 refine⟨fun b j hs=>by rw[(hk.imm b j hs).2];exact himm b j hs,hk,hr.mono hk _ (.refl _),⟨hB.os,hB.tape,hB.output,hB.size,fun b hb=>eZ (hB.block b hb)⟩,hB.block,fun b j _ hs=>hs⟩
theorem rG {P:Program} {g:FuncId} {xs:List PV} {u:PV} (hent:Enters P g)
 (h:∀(S:Imm) (w:World) (vs:Array Value),gB S w→(∀b j,S b j→(rd w b j).isSome)→bF S w noI xs vs→∃val,Rep S w noI u val∧Calls P g vs w fun e w'=>e=.returned val∧Below w.heap.size w w'):aF P g xs u:=by
 refine⟨hent,fun S w vs hg himm hA=>?_⟩;obtain⟨val,hr,hc⟩:=h S w vs hg himm hA;refine(callsIn_wide.2 hc).mono ?_
 rintro e w' ⟨rfl,hB⟩
 exact⟨val,S,rfl,Oi himm hB hr⟩
theorem iR {P:Program} {g:FuncId} {xs:List PV} {u:PV} (hent:Enters P g)
 (h:∀(S:Imm) (w:World) (vs:Array Value),(∀b j,S b j→(rd w b j).isSome)→bF S w noI xs vs→∃val,Rep S w noI u val∧Calls P g vs w fun e w'=>e=.returned val∧Below w.heap.size w w'):aF P g xs u:=
 rG hent fun S w vs _=>h S w vs
theorem Rj {S:Imm} {w:World} {ι:Ix} {xs:List ByteArray} {t:Tok} {v:Value} (himm:∀b j,S b j→(rd w b j).isSome) (h:Rep S w ι (.isl (.strs xs) t) v):
 (∃a,v=.slice a 0 0∧xs=[])∨∃b off cap,v=.slice (some ⟨b,off,none⟩) xs.length cap∧xs.length≤cap∧(∀(j:Nat) x,xs[j]? =some x→w.cell? ⟨b,off+j,none⟩=some (.string x))∧(0<xs.length→b<w.heap.size):=by
 cases h with
 |islnil _ _ _ h=>exact .inl ⟨_,rfl,List.eq_nil_of_length_eq_zero h⟩
 |isl _ _ _ b off cap hc hs h hf ho=>
  refine .inr ⟨b,off,cap,rfl,hc,fun j x hx=>?_,fun h0=>GX (himm b (off+0) (hs 0 h0))⟩;have hj:j<xs.length:=(List.getElem?_eq_some_iff.1 hx).1;have h1:=h j hj;have h2:=himm b (off+j) (hs j hj);rw[fT];obtain⟨y,hy⟩:=ahY.1 h2;have h3:rdv w b (off+j)=y:=by unfold rdv;rw[hy];rfl
  rw[h3]at h1;rw[hy];have h4:(CL.strs xs).get j=.str x:=by simp only[CL.get];rw[ahZ,hx];rfl
  rw[h4]at h1;cases h1;rfl
theorem EZ {P:Program} {g:FuncId} {args as:List PV} {H:Hp} {v:PV} (ha:jE args=some as) (h:aF P g as v):iZ P g args H v [] [] []:=by
 obtain⟨hent,h⟩:=h;refine⟨hent,fun S w ι H' vs hgb M hr _ _=>?_⟩;obtain⟨h1,h2⟩:=iP ha;refine(h S w vs hgb M.imm ⟨h1.trans hr.1,fun i hi=>h2 i (by omega) (hr.2 i (by omega))⟩).mono ?_
 rintro e w' ⟨val,S',rfl,o⟩
 have hno:∀k ob b,ay H' k=some ob→ob.has ι k b→b<w.heap.size:=fun k ob b ho hb=>(M.obj k ob ho).lt hb;refine⟨val,S',ι,rfl,⟨fun k ob ho=>(M.obj k ob ho).mono o.keeps (.refl _) o.below (fun b hb=>o.same b (hno k ob b ho hb)) (fun _=>rfl) rfl (fun b j hb hs=>o.immN b j (hno k ob b ho hb) hs),M.liveO,M.liveT,M.dist,o.imm⟩,
  .refl _,o.keeps,o.rep.up ι,fun p=>⟨o.below,fun b hb _=>o.same b hb,o.keeps,fun b j hb hs=>.inl (o.immN b j hb hs),fun b h=>.inl h,fun _ _ _ h=>h,fun _ _ b n h=>⟨b,n,h,.inl ⟨rfl,ahO _⟩⟩⟩⟩
def Oj (C:PSp):CT:=fun args n H K=>match jE args with|some xs=>bN xs fun as=>C as fun v=>K v [] [] []|none=>False
theorem U4 {P:Program} {g:FuncId} {C:PSp} (h:POK P g C):COK P g (Oj C):=by
 intro args n H K hk;unfold Oj at hk;split at hk
 ·rename_i as ha
  rw[bg]at hk;obtain⟨v,hK,hs⟩:=h _ _ hk;exact⟨v,[],[],[],hK,EZ ha hs⟩
 ·exact hk.elim
def uN (H:Hp) (p:PV) (K:PV→List Nat→Prop):Prop:=
 match p with
 |.rsl k off n=>bU H k fun o=>match o with
  |.cells c fz=>FB c fun d=>iK d fun dn=>off+n≤dn∧K (.isl (d.sub off (off+n)) .none) [k]
  |_=>False
 |p=>match fu p with
  |some q=>bM q fun q=>K q []
  |none=>K .any []
theorem yQ {H:Hp} {p:PV} {K:PV→List Nat→Prop} (h:uN H p K):∃q a,K q a∧∀{S:Imm} {w:World} {ι:Ix} {H':Hp} {v:Value},Mem S w ι H'→(∀k∈a,ay H' k=ay H k)→Rep S w ι p v→Rep (j6 S ι H') w noI q v:=by
 unfold uN at h;split at h
 ·rename_i k off n
  have h':xY H (.rsl k off n) K:=h;exact yP h'
 ·split at h
  ·rename_i q hq
   rw[bH]at h;exact⟨_,_,h,fun{S w ι H' v} M ha hr=>(gu hq hr).mono kN _ (.refl _)⟩
  ·exact⟨_,_,h,fun{S w ι H' v} M ha hr=>.any _ _⟩
def sJ (H:Hp):List PV→(List PV→List Nat→Prop)→Prop
 | [],K=>K [] []
 |p::r,K=>uN H p fun q a=>sJ H r fun qs as=>K (q::qs) (a++as)
theorem wO {H:Hp}:∀{ps:List PV} {K:List PV→List Nat→Prop},sJ H ps K→∃qs a,K qs a∧qs.length=ps.length∧∀{S:Imm} {w:World} {ι:Ix} {H':Hp},Mem S w ι H'→(∀k∈a,ay H' k=ay H k)→∀i,i<ps.length→∀v,Rep S w ι (aD ps i) v→Rep (j6 S ι H') w noI (aD qs i) v:=by
 intro ps;induction ps with
 |nil=>intro K h;exact⟨_,_,h,rfl,fun M _ i hi=>by simp at hi⟩
 |cons p r ih=>
  intro K h;obtain⟨q,a,h,hq⟩:=yQ h;obtain⟨qs,as,h,hl,hs⟩:=ih h;refine⟨_,_,h,by simp[hl],fun{S w ι H'} M ha i hi v hr=>?_⟩
  cases i with
  |zero=>exact hq M (fun k hk=>ha k (by simp[hk])) hr
  |succ i=>exact hs M (fun k hk=>ha k (by simp[hk])) i (by simpa using hi) v hr
def Ol (H:Hp) (p:PV) (K:PV→List Nat→Prop):Prop:=
 match p with
 |.rp k off=>bU H k fun o=>match o with
  |.cells c fz=>match c with
   |.pv ds=>sJ H ds fun us a=>K (.ip (.pv us) off) (k::a)
   |_=>False
  |_=>False
 |.agg cs=>sJ H cs fun us a=>K (.agg us) a
 |p=>uN H p K
theorem Kn {H:Hp} {p:PV} {K:PV→List Nat→Prop} (h:Ol H p K):∃q a,K q a∧∀{S:Imm} {w:World} {ι:Ix} {H':Hp} {v:Value},Mem S w ι H'→(∀k∈a,ay H' k=ay H k)→Rep S w ι p v→Rep (j6 S ι H') w noI q v:=by
 unfold Ol at h;split at h
 ·rename_i k off
  rw[aX]at h;obtain⟨ob,hob,h⟩:=h;split at h
  ·rename_i c fz
   split at h
   ·rename_i ds
    obtain⟨us,a,h,hl,hs⟩:=wO h;refine⟨_,_,h,fun{S w ι H' v} M ha hr=>?_⟩;have hob':ay H' k=some (.cells (.pv ds) fz):=(ha k (by simp)).trans hob
    cases hr with
    |rp _ _ _ b hk=>
     have:=Rep.ip (S:=j6 S ι H') (w:=w) noI (.pv us) off b 0
      (fun j hj=>.inr ⟨k,.pv ds,fz,hob',hk,by simp only[CL.ncell]at hj⊢;omega⟩)
      (fun j hj=>by
       have hj':j<ds.length:=by simp only[CL.ncell]at hj;omega
       have hL:=(M.lies hob' hk j (by simpa [CL.ncell]using hj')).2
       exact hs M (fun k hk=>ha k (by simp[hk])) j hj' _ hL)
     simpa using this
   ·exact h.elim
  ·exact h.elim
 ·rename_i cs
  obtain⟨us,a,h,hl,hs⟩:=wO h;refine⟨_,_,h,fun{S w ι H' v} M ha hr=>?_⟩;cases hr with
  |agg _ _ vs hl' hh=>exact .agg _ _ _ (hl.trans hl') fun i hi=>hs M ha i (by omega) _ (hh i (by omega))
 ·exact yQ h
def GY (H:Hp):List PV→(List PV→List Nat→Prop)→Prop
 | [],K=>K [] []
 |p::r,K=>Ol H p fun q a=>GY H r fun qs as=>K (q::qs) (a++as)
theorem GZ {H:Hp}:∀{ps:List PV} {K:List PV→List Nat→Prop},GY H ps K→∃qs a,K qs a∧qs.length=ps.length∧∀{S:Imm} {w:World} {ι:Ix} {H':Hp},Mem S w ι H'→(∀k∈a,ay H' k=ay H k)→∀i,i<ps.length→∀v,Rep S w ι (aD ps i) v→Rep (j6 S ι H') w noI (aD qs i) v:=by
 intro ps;induction ps with
 |nil=>intro K h;exact⟨_,_,h,rfl,fun M _ i hi=>by simp at hi⟩
 |cons p r ih=>
  intro K h;obtain⟨q,a,h,hq⟩:=Kn h;obtain⟨qs,as,h,hl,hs⟩:=ih h;refine⟨_,_,h,by simp[hl],fun{S w ι H'} M ha i hi v hr=>?_⟩
  cases i with
  |zero=>exact hq M (fun k hk=>ha k (by simp[hk])) hr
  |succ i=>exact hs M (fun k hk=>ha k (by simp[hk])) i (by simpa using hi) v hr
def wkE:PV→PV
 |.int k n=>.int k n
 |.bool b=>.bool b
 |.bp b=>.bp b
 |.str s=>.str s
 |_=>.any
def zm:List PV→List PV
 | []=>[]
 |x::xs=>wkE x::zm xs
def wk1:PV→PV
 |.agg cs=>.agg (zm cs)
 |p=>wkE p
def CQ:List PV→List PV
 | []=>[]
 |x::xs=>wk1 x::CQ xs
def wkK (v:PV) (K:PV→Prop):Prop:=
 match v with
 |.tup vs=>bN (CQ vs) fun us=>K (.tup us)
 |.agg cs=>bN (zm cs) fun us=>K (.agg us)
 |p=>bM (wkE p) K
theorem wP {p:PV} {S S':Imm} {w w':World} {ι ι':Ix} {v:Value} (hr:Rep S w ι p v):Rep S' w' ι' (wkE p) v:=by
 cases p<;>simp only[wkE]<;>first|exact .any _ _|(cases hr;constructor)
theorem zn (l:List PV):(zm l).length=l.length∧∀i,aD (zm l) i=wkE (aD l i):=by
 induction l with
 |nil=>exact⟨rfl,fun i=>rfl⟩
 |cons x xs ih=>exact⟨by simp[zm,ih.1],fun i=>by cases i<;>simp[zm,aD,ih.2]⟩
theorem Ep {p:PV} {S S':Imm} {w w':World} {ι ι':Ix} {v:Value} (hr:Rep S w ι p v):Rep S' w' ι' (wk1 p) v:=by
 unfold wk1;split
 ·rename_i cs
  cases hr with|agg _ _ vs hl hh=>exact .agg _ _ _ ((zn cs).1.trans hl) fun i hi=>by rw[(zn cs).2];exact wP (hh i (by rw[(zn cs).1]at hi;exact hi))
 ·exact wP hr
theorem zo (l:List PV):(CQ l).length=l.length∧∀i,aD (CQ l) i=wk1 (aD l i):=by
 induction l with
 |nil=>exact⟨rfl,fun i=>rfl⟩
 |cons x xs ih=>exact⟨by simp[CQ,ih.1],fun i=>by cases i<;>simp[CQ,aD,ih.2]⟩
theorem Rk {v:PV} {K:PV→Prop} (h:wkK v K):∃u,K u∧∀{S S':Imm} {w w':World} {ι ι':Ix} {val:Value},Rep S w ι v val→Rep S' w' ι' u val:=by
 unfold wkK at h;split at h
 ·rename_i vs
  rw[bg]at h;refine⟨_,h,fun hr=>?_⟩;cases hr with|tup _ _ us hl hh=>exact .tup _ _ _ ((zo vs).1.trans hl) fun i hi=>by rw[(zo vs).2];exact Ep (hh i (by rw[(zo vs).1]at hi;exact hi))
 ·rename_i cs
  rw[bg]at h;exact⟨_,h,fun hr=>Ep (p:=.agg cs) hr⟩
 ·rw[bH]at h
  exact⟨_,h,fun hr=>wP hr⟩
def kg (C:PSp):CT:=fun args n H K=>GY H args fun xs a=>bN (dI xs) fun xs=>C xs fun v=>wkK v fun u=>K u [] a []
theorem iw {P:Program} {g:FuncId} {C:PSp} (h:POK P g C):COK P g (kg C):=by
 intro args n H K hk;unfold kg at hk;obtain⟨xs,a,hk,hl,hs⟩:=GZ hk;rw[bg]at hk;obtain⟨v,hk,hent,hv⟩:=h _ _ hk;obtain⟨u,hk,hp⟩:=Rk hk;refine⟨u,[],a,[],hk,hent,fun S w ι H' vs hgb M hr ha _=>?_⟩;have hA:bF (j6 S ι H') w noI (dI xs) vs:=⟨(bB xs).1.trans (hl.trans hr.1),fun i hi=>(bB xs).2 i (hs M ha i (by rw[(bB xs).1]at hi;omega) _ (hr.2 i (by rw[(bB xs).1]at hi;omega)))⟩
 refine(hv (j6 S ι H') w vs (nk kN (.refl _) hgb) (GQ M) hA).mono ?_
 rintro e w' ⟨val,S',rfl,o⟩
 have hno:∀k ob b,ay H' k=some ob→ob.has ι k b→b<w.heap.size:=fun k ob b ho hb=>(M.obj k ob ho).lt hb;have hk0:Keeps S w S w':=⟨fun b j hs=>⟨hs,(o.keeps.imm b j (.inl hs)).2⟩,o.keeps.cells⟩;refine⟨val,S,ι,rfl,⟨fun k ob ho=>(M.obj k ob ho).mono hk0 (.refl _) o.below (fun b hb=>o.same b (hno k ob b ho hb)) (fun _=>rfl) rfl (fun b j hb hs=>hs),M.liveO,M.liveT,M.dist,fun b j hs=>by rw[(hk0.imm b j hs).2];exact M.imm b j hs⟩,
  .refl _,hk0,hp o.rep,fun p=>⟨o.below,fun b hb _=>o.same b hb,hk0,fun b j hb hs=>.inl hs,fun b h=>.inl h,fun _ _ _ h=>h,fun _ _ b n h=>⟨b,n,h,.inl ⟨rfl,ahO _⟩⟩⟩⟩
def x9:List Nat→List Nat→Bool
 | [],_=>true
 |k::r,l=>match gT k l with|true=>false|false=>x9 r l
theorem wQ {a b:List Nat} (h:x9 a b=true):∀k∈a,k∉b:=by
 induction a with
 |nil=>intro k hk;simp at hk
 |cons x a ih=>
  unfold x9 at h;split at h
  ·cases h
  ·rename_i hx
   intro k hk;rcases ajg.1 hk with rfl|hk
   ·intro hm;rw[←qA]at hm;rw[hm]at hx;cases hx
   ·exact ih h k hk
def uO (H:Hp):List PV→(List PV→List (Nat × AO)→Prop)→Prop
 | [],K=>K [] []
 |p::r,K=>match p with
  |.rp k off=>bU H k fun o=>match o with
   |.cells c fz=>match fz with
    |true=>False
    |false=>match c with
     |.pv ds=>wM H ds fun us s1=>uO H r fun ws s2=>ifK ((match gT k (keys s1)with|true=>false|false=>true)&&x9 (keys s1++[k]) (keys s2)) (K (.ip (.pv us) off::ws) (s1++(k,.cells (.pv us) true)::s2))
     |_=>False
   |_=>False
  |.agg ds=>wM H ds fun us s1=>uO H r fun ws s2=>ifK (x9 (keys s1) (keys s2)) (K (.agg us::ws) (s1++s2))
  |p=>wM H [p] fun us s1=>uO H r fun ws s2=>ifK (x9 (keys s1) (keys s2)) (K (us++ws) (s1++s2))
theorem nL:∀(a b:List (Nat × AO)),keys (a++b)=keys a++keys b
 | [],_=>rfl
 |x::a,b=>congrArg (x.1:: ·) (nL a b)
def nY (H:Hp) (ps us:List PV) (sets:List (Nat × AO)):Prop:=
 us.length=ps.length∧∀{S:Imm} {w:World} {ι:Ix} {H':Hp} (vals:Nat→Value),Mem S w ι H'→(∀j∈keys sets,ay H' j=ay H j)→(∀i,i<ps.length→Rep S w ι (aD ps i) (vals i))→
  ∃S',Mem S' w ι (aZ H' sets)∧Keeps S w S' w∧(∀p,Tr p S w ι H' S' w ι (aZ H' sets))∧∀i,i<us.length→Rep S' w noI (aD us i) (vals i)
theorem nY.app {H:Hp} {ps us qs ws:List PV} {s1 s2:List (Nat × AO)} (h1:nY H ps us s1) (h2:nY H qs ws s2) (hd:∀k∈keys s1,k∉keys s2):nY H (ps++qs) (us++ws) (s1++s2):=by
 refine⟨by simp[h1.1,h2.1],fun{S w ι H'} vals M ha hr=>?_⟩
 have gl:∀(a b:List PV) i,aD (a++b) i=if i<a.length then aD a i else aD b (i-a.length):=by
  intro a;induction a with
  |nil=>intro b i;simp
  |cons x a ih=>intro b i;cases i with
   |zero=>simp[aD]
   |succ i=>simp[aD,ih]
 obtain⟨S1,M1,K1,T1,R1⟩:=h1.2 vals M (fun j hj=>ha j (by rw[nL];simp[hj])) (fun i hi=>by have:=hr i (by simp;omega);rw[gl,if_pos hi]at this;exact this)
 obtain⟨S2,M2,K2,T2,R2⟩:=h2.2 (fun i=>vals (i+ps.length)) M1 (fun j hj=>by
  rw[jY (fun hm=>hd j hm hj)];exact ha j (by rw[nL];simp[hj])) (fun i hi=>by
  have:=(hr (i+ps.length) (by simp;omega)).mono K1 _ (.refl _)
  rw[gl,if_neg (by omega),Nat.add_sub_cancel]at this;exact this)
 refine⟨S2,by rw[wN];exact M2,K1.trans K2,fun p=>by rw[wN];exact(T1 p).trans (T2 p),fun i hi=>?_⟩
 rw[gl];split
 ·rename_i hi';exact(R1 i hi').mono K2 _ (.refl _)
 ·have:=R2 (i-us.length) (by simp at hi;omega)
  rw[h1.1]at this⊢;rw[Nat.sub_add_cancel (by have:=h1.1;omega)]at this
  exact this
theorem CS {H:Hp} {ds:List PV} {K:List PV→List (Nat × AO)→Prop} (h:wM H ds K):∃us sets,K us sets∧nY H ds us sets:=by
 obtain⟨us,sets,hk,hl,hs⟩:=Oh h;exact⟨us,sets,hk,hl,hs⟩
theorem Zi {H:Hp} {k off:Nat} {ds us:List PV} {s1:List (Nat × AO)} (hob:ay H k=some (.cells (.pv ds) false)) (h:nY H ds us s1) (hkm:k∉keys s1):nY H [.rp k off] [.ip (.pv us) off] (s1++[(k,.cells (.pv us) true)]):=by
 obtain⟨hl,hs⟩:=h;refine⟨rfl,fun{S w ι H'} vals M ha hr=>?_⟩;have hob':=(ha k (by rw[nL];simp[keys])).trans hob
 obtain⟨b,arr,e,g1,g2,g3,g4,g5⟩:=M.obj k _ hob';obtain⟨S1,M1,K1,T1,R1⟩:=hs (fun i=>arr.getD i undef) M (fun j hj=>ha j (by rw[nL];simp[hj])) (fun i hi=>g4 i hi)
 have hk1:ay (aZ H' s1) k=some (.cells (.pv ds) false):=by rw[jY hkm];exact hob'
 obtain⟨b',arr',e',q1,q2,q3,q4,q5⟩:=M1.obj k _ hk1;rw[g1]at q1;cases q1
 rw[g2]at q2;cases q2
 let S2:Imm:=fun b' j=>S1 b' j∨(b'=b∧j<us.length)
 have hk2:Keeps S1 w S2 w:=⟨fun b' j hs=>⟨.inl hs,rfl⟩,fun b' j hs=>hs⟩;have hus:us.length≤arr.size:=by rw[hl];exact g3
 have rdb:∀j,rdv w b j=arr.getD j undef:=fun j=>by rw[rdv,aN g2,ahW]
 have hlie:∀j,j<(CL.pv us).ncell→S2 b j∧Rep S2 w noI ((CL.pv us).get j) (rdv w b j):=fun j hj=>⟨.inr ⟨rfl,hj⟩,by rw[rdb];exact(R1 j hj).mono hk2 _ (.refl _)⟩
 obtain⟨M2,T2⟩:=M1.step1 (S':=S2) (w':=w) (ι':=ι) (k:=k) (o':=.cells (.pv us) true) (b:=b) (Bel.refl _) (fun _ _ _=>rfl) hk2 (fun b' j hs=>by rcases hs with h|⟨h,_⟩;exact .inl h;exact .inr h)
  (fun j hs=>by
   rcases hs with h|⟨_,h⟩
   ·exact absurd h (q5 j)
   ·rw[aN g2,ahT (by omega)];rfl) (.refl _) (fun _ _=>rfl) (fun _ _=>rfl) rfl (.inr ⟨_,hk1,rfl,g1⟩) (fun b' h=>h.elim) (by simp[AO.isTok]) (fun _=>M1.cells_t hk1 rfl)
  ⟨b,g1,hlie⟩
 have hput:aZ H' (s1++[(k,.cells (.pv us) true)])=aQ (aZ H' s1) k (.cells (.pv us) true):=by rw[wN];rfl
 rw[hput];refine⟨S2,M2,K1.trans hk2,fun p=>(T1 p).trans (T2 p),fun i hi=>?_⟩;have hi0:i=0:=by simp at hi;exact hi
 subst hi0;have h0:=hr 0 (by simp)
 simp only[aD]at h0⊢;generalize vals 0=v0 at h0
 cases h0 with
 |rp _ _ _ b2 hb2=>
  rw[g1]at hb2;cases hb2
  have:=Rep.ip (S:=S2) (w:=w) noI (.pv us) off b 0 (fun j hj=>by rw[aic];exact(hlie j hj).1) (fun j hj=>by rw[aic];exact(hlie j hj).2)
  rwa [aic]at this
theorem Zj {H:Hp} {ds us:List PV} {s1:List (Nat × AO)} (h:nY H ds us s1):nY H [.agg ds] [.agg us] s1:=by
 obtain⟨hl,hs⟩:=h;refine⟨rfl,fun{S w ι H'} vals M ha hr=>?_⟩;have h0:=hr 0 (by simp)
 simp only[aD]at h0;generalize hv:vals 0=v0 at h0
 cases h0 with
 |agg _ _ vs hl' hh=>
  obtain⟨S1,M1,K1,T1,R1⟩:=hs (fun i=>vs.getD i undef) M ha (fun i hi=>hh i hi);refine⟨S1,M1,K1,T1,fun i hi=>?_⟩;have hi0:i=0:=by simp at hi;exact hi
  subst hi0;rw[hv];exact .agg _ _ _ (hl.trans hl') R1
theorem Lh {H:Hp}:∀{ps:List PV} {K:List PV→List (Nat × AO)→Prop},uO H ps K→∃us sets,K us sets∧nY H ps us sets:=by
 intro ps;induction ps with
 |nil=>intro K h;exact⟨_,_,h,rfl,fun vals M _ _=>⟨_,M,.refl _ _,fun p=>.refl _ _ _ _ _,fun i hi=>by simp at hi⟩⟩
 |cons p r ih=>
  intro K h;unfold uO at h;split at h
  ·rename_i k off
   rw[aX]at h;obtain⟨ob,hob,h⟩:=h;split at h
   ·split at h
    ·exact h.elim
    ·split at h
     ·rename_i ds
      obtain⟨us,s1,h,h1⟩:=CS h;obtain⟨ws,s2,h,h2⟩:=ih h;rw[aL,aia]at h;obtain⟨⟨hm,hd⟩,h⟩:=h;have hkm:k∉keys s1:=fun hm'=>by rw[←qA]at hm';rw[hm']at hm;cases hm
      have hA:=(Zi (off:=off) hob h1 hkm).app h2 (fun j hj=>wQ hd j (by rw[nL]at hj;exact hj))
      refine⟨_,_,h,?_⟩;rw[List.append_assoc]at hA;exact hA
     ·exact h.elim
   ·exact h.elim
  ·rename_i ds
   obtain⟨us,s1,h,h1⟩:=CS h;obtain⟨ws,s2,h,h2⟩:=ih h;rw[aL]at h;exact⟨_,_,h.2,(Zj h1).app h2 (wQ h.1)⟩
  ·obtain⟨us,s1,h,h1⟩:=CS h
   obtain⟨ws,s2,h,h2⟩:=ih h;rw[aL]at h;exact⟨_,_,h.2,h1.app h2 (wQ h.1)⟩
def Om (C:PSp):CT:=fun args n H K=>uO H args fun us sets=>bN (dI us) fun us=>C us fun v=>K v sets (keys sets) []
theorem U5 {P:Program} {g:FuncId} {C:PSp} (h:POK P g C):COK P g (Om C):=by
 intro args n H K hk;unfold Om at hk;obtain⟨us,sets,hk,hl,hs⟩:=Lh hk;rw[bg]at hk;obtain⟨v,hk,hent,hv⟩:=h _ _ hk;refine⟨v,_,_,[],hk,hent,fun S w ι H' vs hgb M hr ha _=>?_⟩;obtain⟨S1,M1,K1,T1,R1⟩:=hs (fun i=>vs.getD i undef) M (fun j hj=>ha j hj) (fun i hi=>hr.2 i hi);have hA:bF S1 w noI (dI us) vs:=⟨(bB us).1.trans (hl.trans hr.1),fun i hi=>(bB us).2 i (R1 i (by rw[(bB us).1]at hi;omega))⟩
 refine(hv S1 w vs (nk K1 (.refl _) hgb) M1.imm hA).mono ?_
 rintro ex w' ⟨val,S',rfl,o⟩
 have hno:∀k' ob b,ay (aZ H' sets) k'=some ob→ob.has ι k' b→b<w.heap.size:=fun k' ob b ho hb=>(M1.obj k' ob ho).lt hb;have T3:∀p,Tr p S1 w ι (aZ H' sets) S' w' ι (aZ H' sets):=fun p=>
  ⟨o.below,fun b hb _=>o.same b hb,o.keeps,fun b j hb hs=>.inl (o.immN b j hb hs),fun b h=>.inl h,fun _ _ _ h=>h,fun _ _ b n h=>⟨b,n,h,.inl ⟨rfl,ahO _⟩⟩⟩
 exact⟨val,S',ι,rfl,⟨fun k' ob ho=>(M1.obj k' ob ho).mono o.keeps (.refl _) o.below (fun b hb=>o.same b (hno k' ob b ho hb)) (fun _=>rfl) rfl (fun b j hb hs=>o.immN b j (hno k' ob b ho hb) hs),M1.liveO,M1.liveT,M1.dist,o.imm⟩,
  .refl _,K1.trans o.keeps,o.rep.up ι,fun p=>(T1 p).trans (T3 p)⟩
def XD (τ:TypeId→Option TE) (fn:Func) (v:PV) (e:Exit) (env:Env) (H:Hp):Prop:=
 match e with
 |.normal=>lN τ fn.results.toList env H fun vs=>uO H vs fun us _=>Fin (Sup (bI us) v)
 |.ret=>lN τ fn.results.toList env H fun vs=>uO H vs fun us _=>Fin (Sup (bI us) v)
 |_=>False
section
variable {P:Program} {τ:TypeId→Option TE} {B:Imm→World→Prop}
theorem G5 (hB:BOK B) (hτ:aY P τ) {g:FuncId} {fn:Func} {c:Code} {args:List PV} {v:PV} (hf:P.funcs[g]? =some fn) (hb:fn.body=some c)
 (h:AW P none B 0 c (XD τ fn v) (args++lJ (fn.ntmps-args.length)) []):wB P B g args v:=by
 intro S w vs hBw himm hr;have M:Mem S w noI []:=⟨fun k o h=>by simp[ay]at h,fun k b h=>by simp[noI]at h,fun k x h=>by simp[noI]at h,fun k k' o o' b h=>by simp[ay]at h,himm⟩
 have hA:At B 0 S w noI [] (args++lJ (fn.ntmps-args.length)) [] {tmps:=vs++Array.replicate (fn.ntmps-vs.size) undef,defers:=[]} w:=
  ⟨S,noI,hBw,M,by rw[hr.1];exact zf hr _,.nil _ _ _,fun d hd=>by simp at hd,.refl _ _ _ _ _⟩
 refine callsIn_of_wp_marks hf hb trivial (wpIn_mono (h S w noI [] _ w hA) ?_)
 rintro e ⟨tmps,ds⟩ w1 ⟨env',H',q,hA1⟩
 have fin:(lN τ fn.results.toList env' H' fun vs=>uO H' vs fun us _=>Fin (Sup (bI us) v))→LeavesInM (Fw none) 0 P fn tmps (fun e w'=>∃val S',e=.returned val∧NW S w v val S' w') ds .returning w1:=by
  intro q;refine At.leave hB ds w1 hA1 fun w2 hA2=>?_;obtain⟨S2,ι2,hb2,M2,R2,_,_,T2⟩:=hA2.ex;obtain⟨vs1,q,hs⟩:=uy (P:=P) hτ _ q;obtain⟨us,sets,q,hl,hz⟩:=Lh q;obtain⟨vals,r1,r2,r3⟩:=hs M2 R2;obtain⟨S3,M3,K3,T3,R3⟩:=hz (fun i=>vals.getD i undef) M2 (fun _ _=>rfl) (fun i hi=>r3 i hi);have hT:=T2.trans (T3 0);have hno:∀b,¬owned noI [] b:=by rintro b ⟨k,o,h1,_⟩;simp[ay]at h1
  have hrun:(results fn tmps).run P w2=.ok (if h:vals.toArray.size=1 then vals.toArray[0]else .tuple vals.toArray) w2:=by
   unfold results;rw[Sem.run_bind,Array.mapM_eq_mapM_toList,←bind_pure_comp,Sem.run_bind];have:(List.mapM (fun(x:ResultVar)=>(match x with|.tmp t=>pure (tmps.getD t undef)|.cell a t=>do loadVar t (←asAddr (tmps.getD a undef)):Sem Value)) fn.results.toList).run P w2=.ok vals w2:=r1
   erw [this]
   simp only[Result.andThen,Function.comp,Sem.run_pure]
  refine⟨_,hrun,_,S3,rfl,M3.imm,hT.keeps,?_,hT.below,fun b hb=>hT.same b hb (hno b),fun b j hb hs=>(hT.immN b j hb hs).resolve_right (hno b)⟩;exact q.get.get (Em (by omega) R3)
 cases e with
 |normal=>exact fin q
 |ret=>exact fin q
 |_=>exact q.elim
def Rl (P:Program) (B:Imm→World→Prop) (τ:TypeId→Option TE) (md:Nat) (rf:List Nat) (CP:CPT) (YP:YPT) (fn:Func) (args:List PV) (v:PV):Prop:=
 ev P none B 0 τ md rf CP YP (fn.body.getD .skip) 0 (args++lJ (fn.ntmps-args.length)) [] fun e env H _=>XD τ fn v e env H
theorem bR {P:Program} {τ:TypeId→Option TE} (hm:P.follows .mixedOrders=true) (hτ:aY P τ) {md rf CP} (hC:aW P CP) {g:FuncId} {fn:Func} {args:List PV} {v:PV}
 (hf:P.funcs[g]? =some fn) (hn:(fn.name== "runtime.NumGoroutine")=false) (hb:fn.body.isSome=true) (hok:dL (fn.body.getD .skip)=true) (h:Rl P kR τ md rf CP noY fn args v):aF P g args v:=by
 refine⟨enters hf hn (by cases h:fn.body<;>simp_all),?_⟩
 obtain⟨c,hc⟩:=ahY.1 hb;unfold Rl at h;rw[hc]at h hok;exact G5 aK hτ hf hc ((iB aK hm hτ hC aP c hok _ _ _ _ h).mono fun e env H ⟨n,h⟩=>h)
end
def Ix.setx (ι:Ix) (k:Nat) (X:Nat→Prop):Ix:=⟨ι.o,ι.t,fun k'=>if k'=k then X else ι.x k'⟩
theorem Li (ι:Ix) (k:Nat) (X:Nat→Prop):ι.le (ι.setx k X):=⟨fun _ _ h=>h,fun _ b n h=>⟨b,n,h,.inl ⟨rfl,ahO _⟩⟩⟩
theorem Mem.bldStep {S:Imm} {w w':World} {ι:Ix} {H:Hp} (M:Mem S w ι H) {k t e b:Nat} {s s':ByteArray} {p p' v v':Value} (hk:ay H k=some (.bld t e s)) (hb:ι.o k=some b)
 (h0:w.heap[b]? =some (.cells #[p,v] t (0,0))) (below:Bel w w') (here:w'.heap[b]? =some (.cells #[p',v'] t (0,0))) (hp:p'=.pointer none∨p'=.pointer (some ⟨b,0,none⟩)) (hne:v'.ownBlock≠some b)
 (own:w'.ownsRowF 0 e 1 v' s'.size (Lib.strCells s')) (hv:∀g,v'.ownBlock=some g→v.ownBlock=some g∨w.heap.size≤g)
 (other:∀b',b'<w.heap.size→b'≠b→v.ownBlock≠some b'→w'.heap[b']? =w.heap[b']?) (cells:∀b' j,(rd w b' j).isSome→(rd w' b' j).isSome):
 Mem S w' (ι.setx k fun b'=>b'=b∨v'.ownBlock=some b') (aQ H k (.bld t e s'))∧Keeps S w S w'∧∀pp,Tr pp S w ι H S w' (ι.setx k fun b'=>b'=b∨v'.ownBlock=some b') (aQ H k (.bld t e s')):=by
 obtain⟨b1,p1,v1,h1,h2,h3,h4,h5,h6,h7⟩:=M.obj k _ hk;rw[hb]at h1;cases h1
 obtain⟨rfl,rfl⟩:p=p1∧v=v1:=by
  rw[h0]at h2;simp at h2;exact h2
 have hnS:∀b' j,(b'=b∨v.ownBlock=some b')→¬S b' j:=fun b' j h=>h4 b' j ((h7 b').2 h);have keeps:Keeps S w S w':=⟨fun b' j hs=>⟨hs,dh (other b' (eY (M.imm b' j hs)) (fun e=>hnS b' j (.inl e) hs) (fun e=>hnS b' j (.inr e) hs)) j⟩,cells⟩;have hg:ay (aQ H k (.bld t e s')) k=some (.bld t e s'):=by rw[bq];simp
 have hx:(ι.setx k fun b'=>b'=b∨v'.ownBlock=some b').x k=fun b'=>b'=b∨v'.ownBlock=some b':=by simp[Ix.setx]
 have:=M.multi (w':=w') (ι':=ι.setx k fun b'=>b'=b∨v'.ownBlock=some b') (H':=aQ H k (.bld t e s')) (fun k'=>k'=k) below keeps (Li _ _ _)
  (fun k' h=>by rw[bq,if_neg h]) (fun _ _=>rfl) (fun _ _=>rfl) (fun k' h=>by simp[Ix.setx,h])
  (fun b' hb' hno=>other b' hb' (fun e=>hno k _ rfl hk rfl ((h7 b').2 (.inl e))) (fun e=>hno k _ rfl hk rfl ((h7 b').2 (.inr e))))
  (fun k' o2 ek h=>by
   subst ek;rw[hg]at h;cases h
   refine⟨b,p',v',hb,here,hp,fun b' j hb'=>?_,hne,own,fun b'=>by rw[hx]⟩
   rw[hx]at hb';rcases hb' with h|h
   ·exact hnS b' j (.inl h)
   ·rcases hv b' h with h|h
    ·exact hnS b' j (.inr h)
    ·exact fun hs=>by have:=eY (M.imm b' j hs);omega)
  (fun k' o2 b' ek h hb'=>by
   subst ek;rw[hg]at h;cases h
   have hb':b'=b∨v'.ownBlock=some b':=by
    have:(ι.setx k' fun b'=>b'=b∨v'.ownBlock=some b').x k' b':=hb';rw[hx]at this;exact this
   rcases hb' with h|h
   ·exact .inr ⟨k',_,rfl,hk,rfl,(h7 b').2 (.inl h)⟩
   ·rcases hv b' h with h|h
    ·exact .inr ⟨k',_,rfl,hk,rfl,(h7 b').2 (.inr h)⟩
    ·exact .inl h)
  (fun k' b' ek _=>by subst ek;exact⟨_,hg,rfl⟩)
  (fun k' x ek h=>by
   subst ek;obtain⟨o3,g1,g2⟩:=M.liveT k' x h;rw[hk]at g1;cases g1;cases g2)
  (fun k1 k2 _ _ _ e1 e2 _ _ _ _=>e1.trans e2.symm)
 exact⟨this.1,keeps,this.2⟩
theorem Oo {w:World} {g:Nat} {old cs:Array Value} {t:TypeId} {fr:Nat × Nat} (hg:w.heap[g]? =some (.cells old t fr)) (hs:cs.size=old.size) (b:Nat):bsz (w.setRow g cs) b=bsz w b:=by
 by_cases e:b=g
 ·subst e;unfold bsz;rw[setRow_heap w b old cs t fr hg,hg];simp[hs]
 ·exact eZ (setRow_other w g b cs e)
theorem Oq {P:Program} (w:World) (t u ty e:TypeId) (i:TypeInfo) (ht:P.underlying t=some (.slice e)) (hu:P.underlying u=some .string) (hi:P.info? e=some i) (hz:i.zero=some (.int .u8 0))
 (hsize:i.size=1) (hby:i.bytes=1) (v:Value) (n:Nat) (xs:List Value) (hown:w.ownsRowF 0 e 1 v n xs) (s:ByteArray) (h63:n+s.size≤maxLen) (hbytes:n+s.size≤140737488355328):
 ∃v' w',(Builtin.append_ #[t,u] ty #[v,.string s]).run P w=.ok v' w'∧w'.ownsRowF 0 e 1 v' (n+s.size) (xs++Lib.strCells s)∧w.grownBy w' v.ownBlock∧
  (∀b,b<w.heap.size→bsz w' b=bsz w b)∧∀g,v'.ownBlock=some g→v.ownBlock=some g∨w.heap.size≤g:=by
 obtain⟨v',w',hr,h2,h3,h4⟩:=Lib.run_append_own_stringF (P:=P) w 0 t u ty e i ht hu hi hz hsize hby v n xs hown s h63 hbytes (aiD _);refine⟨v',w',hr,h2,h3,?_⟩;rcases hown.2 with⟨rfl,rfl⟩|⟨g,cap,cur,fz,rfl,hbg,hg,hfz,hnc,hcm,hcs,htake⟩
 ·refine⟨fun b hb=>eZ (h3.block b hb (by simp[Value.ownBlock])),fun g hg=>.inr ?_⟩
  obtain⟨v2,w2,r2,k2,_⟩:=Lib.run_append_own_stringF (P:=P) w w.heap.size t u ty e i ht hu hi hz hsize hby (.slice none 0 0) 0 xs ⟨hown.1,.inl ⟨rfl,rfl⟩⟩ s h63 hbytes (ahO _);rw[hr]at r2;cases r2
  exact(k2.lt g hg).1
 ·have hxl:xs.length=n:=by simpa using hown.1
  by_cases hroom:n+s.size≤cap
  ·have r2:=Lib.run_append_room_stringF (P:=P) w t u ty e i ht hu hi hsize g n cap cur fz hg (by simpa using hfz) s hroom (by omega)
   rw[hr]at r2;cases r2
   refine⟨fun b hb=>Oo hg ?_ b,fun g' hg'=>.inl hg'⟩;simp only[ajE,List.length_append,aiG,List.length_drop,Array.length_toList,Lib.strCells_length];omega
  ·have r2:=Lib.run_append_grow_string (P:=P) w t u ty e i (.int .u8 0) ht hu hi hz ⟨g,0,none⟩ n cap xs (by rw[hsize];simpa using hxl) (hown.cells (g:=g) rfl) s (by omega) (by simp only[maxLen]at h63;omega) (by rw[hby];exact growslice_fits (by omega) (by omega))
   rw[hr]at r2;cases r2
   refine⟨fun b hb=>eZ (Lib.alloc_old w.drew _ b hb),fun g' hg'=>.inr ?_⟩;simp[Value.ownBlock]at hg';exact Nat.le_of_eq hg'
theorem acQ {w:World} {b j:Nat}:(rd w b j).isSome↔∃n,bsz w b=some n∧j<n:=by
 unfold rd bsz;split
 ·rename_i c t f h
  constructor
  ·intro hs
   refine⟨_,rfl,?_⟩;rcases ahP j c.size with h1|h1
   ·exact h1
   ·rw[ahQ h1]at hs;cases hs
  ·rintro⟨n,h1,h2⟩
   cases h1
   rw[ahT h2];rfl
 ·simp
structure wR (t e:TypeId) (b:Nat) (v:Value) (w w':World) (s':ByteArray) (v':Value):Prop where
 here:∃p',w'.heap[b]? =some (.cells #[p',v'] t (0,0))∧(p'=.pointer none∨p'=.pointer (some ⟨b,0,none⟩))
 ne:v'.ownBlock≠some b
 own:w'.ownsRowF 0 e 1 v' s'.size (Lib.strCells s')
 new:∀g,v'.ownBlock=some g→v.ownBlock=some g∨w.heap.size≤g
 os:w'.os=w.os
 tape:w'.tape=w.tape
 output:w'.output=w.output
 size:w.heap.size≤w'.heap.size
 other:∀b',b'<w.heap.size→b'≠b→v.ownBlock≠some b'→w'.heap[b']? =w.heap[b']?
 len:∀b',b'<w.heap.size→bsz w' b'=bsz w b'
theorem wR.bel {t e:TypeId} {b:Nat} {v v':Value} {w w':World} {s':ByteArray} (h:wR t e b v w w' s' v'):Bel w w':=⟨h.os,h.tape,h.output,h.size,h.len⟩
theorem wR.cells {t e:TypeId} {b:Nat} {v v':Value} {w w':World} {s':ByteArray} (h:wR t e b v w w' s' v') (b' j:Nat) (hs:(rd w b' j).isSome):(rd w' b' j).isSome:=by
 have hl:=eY hs;rw[acQ]at hs⊢;rw[h.len b' hl];exact hs
theorem zq {P:Program} {g:FuncId} (hent:∀vs w,(callFunc g vs).run P w=.ok (.enter g vs) w) {k t e:Nat} {s s':ByteArray} {args:List PV} {u:PV} {H:Hp} (hob:ay H k=some (.bld t e s))
 (hc:∀(S:Imm) (w:World) (ι:Ix) (vs:Array Value) (b:Nat) (p v:Value),bF S w ι args vs→ι.o k=some b→w.heap[b]? =some (.cells #[p,v] t (0,0))→(p=.pointer none∨p=.pointer (some ⟨b,0,none⟩))→v.ownBlock≠some b→w.ownsRowF 0 e 1 v s.size (Lib.strCells s)→
  Calls P g vs w fun ex w'=>∃val v',ex=.returned val∧wR t e b v w w' s' v'∧∀S' ι',Rep S' w' ι' u val):
 iZ P g args H u [(k,.bld t e s')] [k] []:=by
 refine⟨hent,fun S w ι H' vs hgb M hr ha _=>?_⟩;have hob':=(ha k (by simp)).trans hob
 obtain⟨b,p,v,h1,h2,h3,h4,h5,h6,h7⟩:=M.obj k _ hob';refine(callsIn_wide.2 (hc S w ι vs b p v hr h1 h2 h3 h5 h6)).mono ?_
 rintro ex w' ⟨val,v',rfl,B,hrep⟩
 obtain⟨p',g1,g2⟩:=B.here;obtain⟨M',K',T'⟩:=M.bldStep hob' h1 h2 B.bel g1 g2 B.ne B.own B.new B.other B.cells;exact⟨val,S,_,rfl,M',Li _ _ _,K',hrep _ _,T'⟩
theorem zu {S:Imm} {w:World} {ι:Ix} {p:PV} {vs:Array Value} (h:bF S w ι [p] vs):∃v,vs= #[v]∧Rep S w ι p v:=by
 have h0:=h.2 0 (by simp)
 have hsz:vs.size=1:=h.1.symm;refine⟨vs.getD 0 undef,?_,h0⟩;apply ai5 (by simp[hsz])
 intro i h1 h2;have:i=0:=by omega
 subst this;simp[ahW,h1]
theorem G6 {S:Imm} {w:World} {ι:Ix} {p q:PV} {vs:Array Value} (h:bF S w ι [p,q] vs):∃v u,vs= #[v,u]∧Rep S w ι p v∧Rep S w ι q u:=by
 have h0:=h.2 0 (by simp)
 have h1:=h.2 1 (by simp)
 have hsz:vs.size=2:=h.1.symm;refine⟨vs.getD 0 undef,vs.getD 1 undef,?_,h0,h1⟩;apply ai5 (by simp[hsz])
 intro i h1 h2;have:i=0∨i=1:=by omega
 rcases this with rfl|rfl<;>simp[ahW,h1]
theorem G7 {P:Program} {g:FuncId} {xs:List PV} (hent:Enters P g) (c:CL)
 (h:∀(S:Imm) (w:World) (vs:Array Value),(∀b j,S b j→(rd w b j).isSome)→bF S w noI xs vs→∃arr e cap,c.cnt≤cap∧c.ncell≤arr.size∧(∀j,j<c.ncell→∀S' w',Rep S' w' noI (c.get j) (arr.getD j undef))∧
  Calls P g vs w fun ex w'=>ex=.returned (.slice (some ⟨w.heap.size,0,none⟩) c.cnt cap)∧w'=w.alloc (.cells arr e)):aF P g xs (.isl c .none):=by
 refine⟨hent,fun S w vs hg himm hA=>?_⟩;obtain⟨arr,e,cap,hc,hn,hr,hcall⟩:=h S w vs himm hA;refine(callsIn_wide.2 hcall).mono ?_
 rintro ex w' ⟨rfl,rfl⟩
 let S':Imm:=fun b j=>S b j∨(b=w.heap.size∧j<c.ncell)
 have hold:∀b,b<w.heap.size→(w.alloc (.cells arr e)).heap[b]? =w.heap[b]? :=fun b hb=>Lib.alloc_old w _ b hb;have hnw:(w.alloc (.cells arr e)).heap[w.heap.size]? =some (.cells arr e (0,0)):=heap_alloc_new w _;have hnew:∀j,rd (w.alloc (.cells arr e)) w.heap.size j=arr[j]? :=fun j=>aN hnw j;have hrd:∀b j,(rd w b j).isSome→rd (w.alloc (.cells arr e)) b j=rd w b j:=fun b j h=>dh (hold b (eY h)) j;have hkeep:Keeps S w S' (w.alloc (.cells arr e)):=⟨fun b j h=>⟨.inl h,hrd b j (himm b j h)⟩,fun b j h=>by rw[hrd b j h];exact h⟩
 refine⟨_,S',rfl,⟨fun b j hs=>?_,hkeep,?_,⟨rfl,rfl,rfl,by simp,fun b hb=>eZ (hold b hb)⟩,hold,fun b j hb hs=>?_⟩⟩
 ·rcases hs with h|⟨rfl,h⟩
  ·rw[hrd b j (himm b j h)];exact himm b j h
  ·rw[hnew,ahT (by omega)];rfl
 ·refine .isl _ _ _ _ _ _ hc (fun j hj=>.inr ⟨rfl,by rw[aic];exact hj⟩) (fun j hj=>?_) (fun e=>by cases e) (fun k e=>by cases e)
  have:=hr j hj S' (w.alloc (.cells arr e));rw[ahW]at this;rw[aic,rdv,hnew];exact this
 ·rcases hs with h|⟨h,_⟩
  ·exact h
  ·omega
theorem G8 {H:Hp} {k off n:Nat} {K:PV→List Nat→Prop} (h:xY H (.rsl k off n) K):∃q a,K q a∧∀{S N:Imm} {w:World} {ι:Ix} {H':Hp} {v:Value},Keeps S w N w→(∀k∈a,∀c fz b,ay H' k=some (.cells c fz)→ι.o k=some b→∀j,j<c.ncell→N b j)→Mem S w ι H'→(∀k∈a,ay H' k=ay H k)→Rep S w ι (.rsl k off n) v→Rep N w noI q v:=by
 unfold xY at h;simp only at h;rw[aX]at h;obtain⟨ob,hob,h⟩:=h;split at h
 ·rename_i c fz
  obtain⟨d,h,d1,d2,d3,d4⟩:=yO h;rw[dZ]at h;obtain⟨hn,h⟩:=h;refine⟨_,_,h,fun{S N w ι H' v} hK hN M ha hr=>?_⟩;have hob':ay H' k=some (.cells c fz):=(ha k (by simp)).trans hob
  have conv:∀b,ι.o k=some b→∀j,j<d.ncell→N b (0+j)∧Rep N w noI (d.get j) (rdv w b (0+j)):=fun b hb j hj=>
   ⟨hN k (by simp) c fz b hob' hb (0+j) (by omega),(d4 j (by omega) (M.lies hob' hb j (by omega)).2).mono hK _ (.refl _)⟩
  cases hr with
  |rsl _ _ _ _ b cap hk hc _=>
   have:=nH (S:=N) (w:=w) (c:=d) (b:=b) (off:=0) (fun j hj=>(conv b hk j hj).1) (fun j hj=>(conv b hk j hj).2) (x:=off) (y:=off+n) (by omega) hn (cap:=cap) (by omega) noI
   rw[d1]at this;simpa using this
  |rslz _ _ _ b o hk=>exact iY _ (by rw[iO _ hn];omega) (.inr ⟨b,o,rfl⟩) noI
 ·exact h.elim
theorem wS {H:Hp} {p:PV} {K:PV→List Nat→Prop} (h:uN H p K):∃q a,K q a∧∀{S N:Imm} {w:World} {ι:Ix} {H':Hp} {v:Value},Keeps S w N w→(∀k∈a,∀c fz b,ay H' k=some (.cells c fz)→ι.o k=some b→∀j,j<c.ncell→N b j)→Mem S w ι H'→(∀k∈a,ay H' k=ay H k)→Rep S w ι p v→Rep N w noI q v:=by
 unfold uN at h;split at h
 ·rename_i k off n
  exact G8 h
 ·split at h
  ·rename_i q hq
   rw[bH]at h;exact⟨_,_,h,fun{S N w ι H' v} hK hN M ha hr=>(gu hq hr).mono hK _ (.refl _)⟩
  ·exact⟨_,_,h,fun{S N w ι H' v} hK hN M ha hr=>.any _ _⟩
theorem E5 {H:Hp}:∀{ps:List PV} {K:List PV→List Nat→Prop},sJ H ps K→∃qs a,K qs a∧qs.length=ps.length∧∀{S N:Imm} {w:World} {ι:Ix} {H':Hp},Keeps S w N w→(∀k∈a,∀c fz b,ay H' k=some (.cells c fz)→ι.o k=some b→∀j,j<c.ncell→N b j)→Mem S w ι H'→(∀k∈a,ay H' k=ay H k)→∀i,i<ps.length→∀v,Rep S w ι (aD ps i) v→Rep N w noI (aD qs i) v:=by
 intro ps;induction ps with
 |nil=>intro K h;exact⟨_,_,h,rfl,fun _ _ M _ i hi=>by simp at hi⟩
 |cons p r ih=>
  intro K h;obtain⟨q,a,h,hq⟩:=wS h;obtain⟨qs,as,h,hl,hs⟩:=ih h;refine⟨_,_,h,by simp[hl],fun{S N w ι H'} hK hN M ha i hi v hr=>?_⟩
  cases i with
  |zero=>exact hq hK (fun k hk=>hN k (by simp[hk])) M (fun k hk=>ha k (by simp[hk])) hr
  |succ i=>exact hs hK (fun k hk=>hN k (by simp[hk])) M (fun k hk=>ha k (by simp[hk])) i (by simpa using hi) v hr
def Ot (H:Hp) (p:PV) (K:PV→List Nat→Prop):Prop:=
 match p with
 |.agg cs=>sJ H cs fun us a=>K (.agg us) a
 |p=>uN H p K
theorem Ko {H:Hp} {p:PV} {K:PV→List Nat→Prop} (h:Ot H p K):∃q a,K q a∧∀{S N:Imm} {w:World} {ι:Ix} {H':Hp} {v:Value},Keeps S w N w→(∀k∈a,∀c fz b,ay H' k=some (.cells c fz)→ι.o k=some b→∀j,j<c.ncell→N b j)→Mem S w ι H'→(∀k∈a,ay H' k=ay H k)→Rep S w ι p v→Rep N w noI q v:=by
 unfold Ot at h;split at h
 ·rename_i cs
  obtain⟨us,a,h,hl,hs⟩:=E5 h;refine⟨_,_,h,fun{S N w ι H' v} hK hN M ha hr=>?_⟩;cases hr with
  |agg _ _ vs hl' hh=>exact .agg _ _ _ (hl.trans hl') fun i hi=>hs hK hN M ha i (by omega) _ (hh i (by omega))
 ·exact wS h
def He (H:Hp):List PV→(List PV→List Nat→Prop)→Prop
 | [],K=>K [] []
 |p::r,K=>Ot H p fun q a=>He H r fun qs as=>K (q::qs) (a++as)
theorem Hf {H:Hp}:∀{ps:List PV} {K:List PV→List Nat→Prop},He H ps K→∃qs a,K qs a∧qs.length=ps.length∧∀{S N:Imm} {w:World} {ι:Ix} {H':Hp},Keeps S w N w→(∀k∈a,∀c fz b,ay H' k=some (.cells c fz)→ι.o k=some b→∀j,j<c.ncell→N b j)→Mem S w ι H'→(∀k∈a,ay H' k=ay H k)→∀i,i<ps.length→∀v,Rep S w ι (aD ps i) v→Rep N w noI (aD qs i) v:=by
 intro ps;induction ps with
 |nil=>intro K h;exact⟨_,_,h,rfl,fun _ _ M _ i hi=>by simp at hi⟩
 |cons p r ih=>
  intro K h;obtain⟨q,a,h,hq⟩:=Ko h;obtain⟨qs,as,h,hl,hs⟩:=ih h;refine⟨_,_,h,by simp[hl],fun{S N w ι H'} hK hN M ha i hi v hr=>?_⟩
  cases i with
  |zero=>exact hq hK (fun k hk=>hN k (by simp[hk])) M (fun k hk=>ha k (by simp[hk])) hr
  |succ i=>exact hs hK (fun k hk=>hN k (by simp[hk])) M (fun k hk=>ha k (by simp[hk])) i (by simpa using hi) v hr
def FC (p q:PV):Bool:=
 match p with
 |.int _ a=>match q with
  |.int _ b=>match decide (a=b)with|true=>false|false=>true
  |.isl _ _=>true
  |.rsl _ _ _=>true
  |.nils=>true
  |.str _=>true
  |.bp _=>true
  |.bool _=>true
  |_=>false
 |.isl _ _=>match q with
  |.int _ _=>true
  |.str _=>true
  |.bp _=>true
  |.bool _=>true
  |_=>false
 |.str _=>match q with
  |.int _ _=>true
  |.isl _ _=>true
  |.rsl _ _ _=>true
  |.nils=>true
  |.bp _=>true
  |.bool _=>true
  |_=>false
 |.bp _=>match q with
  |.int _ _=>true
  |.isl _ _=>true
  |.rsl _ _ _=>true
  |.nils=>true
  |.str _=>true
  |_=>false
 |_=>false
theorem Kq {p q:PV} (h:FC p q=true) {S S':Imm} {w w':World} {ι ι':Ix} {v:Value} (h1:Rep S w ι p v) (h2:Rep S' w' ι' q v):False:=by
 cases p<;>simp only[FC]at h<;>try(cases h;done)
 all_goals(cases q<;>simp only at h<;>try(cases h;done))
 all_goals first|(cases h1<;>cases h2<;>done)|skip
 cases h1;cases h2
 simp at h
def Bc (c d:CL):Bool:=match c.ncell with
 |0=>true
 |_=>(ahX (d.ncell+1-c.ncell)).all fun off=>(ahX c.ncell).any fun j=>FC (c.get j) (d.get (off+j))
theorem Rm {c d:CL} (h:Bc c d=true) (h0:0<c.ncell) {off:Nat} (ho:off+c.ncell≤d.ncell):∃j,j<c.ncell∧FC (c.get j) (d.get (off+j))=true:=by
 unfold Bc at h;split at h
 ·omega
 rw[List.all_eq_true]at h;have:=h off (ajF.2 (by omega))
 rw[List.any_eq_true]at this;obtain⟨j,hj,hd⟩:=this;exact⟨j,ajF.1 hj,hd⟩
def okA (H:Hp):List Nat→CL→Bool
 | [],_=>true
 |k::r,c=>match ay H k with
  |some (.cells d _)=>(match Bc c d with|true=>okA H r c|false=>false)
  |_=>okA H r c
theorem acR {H:Hp} {c:CL}:∀{a:List Nat},okA H a c=true→∀k∈a,∀d fz,ay H k=some (.cells d fz)→Bc c d=true:=by
 intro a;induction a with
 |nil=>intro _ k hk;simp at hk
 |cons x a ih=>
  intro h k hk d fz hd;unfold okA at h;rcases ajg.1 hk with rfl|hk
  ·rw[hd]at h
   simp only at h;split at h
   ·assumption
   ·cases h
  ·split at h
   ·split at h
    ·exact ih h k hk d fz hd
    ·cases h
   ·exact ih h k hk d fz hd
theorem Ro {H H':Hp} {c:CL}:∀{a:List Nat},(∀k∈a,ay H' k=ay H k)→okA H a c=true→okA H' a c=true:=by
 intro a;induction a with
 |nil=>intro _ _;rfl
 |cons x a ih=>
  intro hh h;unfold okA at h⊢;rw[hh x (List.mem_cons_self ..)];split at h
  ·split at h
   ·exact ih (fun k hk=>hh k (ajx _ hk)) h
   ·cases h
  ·exact ih (fun k hk=>hh k (ajx _ hk)) h
def zw (S:Imm) (ι:Ix) (H:Hp) (a:List Nat):Imm:=fun b j=>S b j∨∃k c fz,k∈a∧ay H k=some (.cells c fz)∧ι.o k=some b∧j<c.ncell
theorem Bd {S:Imm} {w:World} {ι:Ix} {H:Hp} {a:List Nat}:Keeps S w (zw S ι H a) w:=⟨fun b j h=>⟨.inl h,rfl⟩,fun b j h=>h⟩
theorem U6 {S:Imm} {w:World} {ι:Ix} {H:Hp} {a:List Nat} (M:Mem S w ι H) (b j:Nat) (h:zw S ι H a b j):(rd w b j).isSome:=by
 rcases h with h|⟨k,c,fz,_,h1,h2,h3⟩
 ·exact M.imm b j h
 ·have:=(M.lies h1 h2 j h3).1;simpa using this
def newS (S S':Imm) (w:World):Imm:=fun b j=>S b j∨(S' b j∧w.heap.size≤b)
structure Lk (S:Imm) (w:World) (ι:Ix) (H0 H:Hp) (a:List Nat) (S':Imm) (w':World):Prop where
 ag:∀k∈a,ay H k=ay H0 k
 mem:Mem S w ι H
 old:∀b j,b<w.heap.size→S' b j→zw S ι H a b j
 rd:∀b j,zw S ι H a b j→rd w' b j=rd w b j
theorem U7 {S S':Imm} {w w':World} {ι:Ix} {H H':Hp} {a:List Nat} (L:Lk S w ι H H' a S' w') {c:CL} (hok:okA H a c=true) {b off:Nat}
 (hs:∀j,j<c.ncell→S' b (off+j)) (hr:∀j,j<c.ncell→Rep S' w' noI (c.get j) (rdv w' b (off+j))):∀j,j<c.ncell→newS S S' w b (off+j):=by
 have hok:=Ro L.ag hok;intro j hj;rcases ahP b w.heap.size with hb|hb
 ·by_cases hSj:S b (off+j)
  ·exact .inl hSj
  ·exfalso
   rcases L.old b _ hb (hs j hj)with h|⟨k,d,fz,hka,hk,hkb,hkj⟩
   ·exact hSj h
   cases fz with
   |true=>
    obtain⟨b',h1,h2⟩:=L.mem.obj k _ hk;rw[hkb]at h1;cases h1
    exact hSj (h2 _ hkj).1
   |false=>
    obtain⟨b',arr,e,g1,g2,g3,g4,g5⟩:=L.mem.obj k _ hk;rw[hkb]at g1;cases g1
    have hall:∀i,i<c.ncell→off+i<d.ncell:=by
     intro i hi;rcases L.old b _ hb (hs i hi)with h|⟨k',d',fz',hka',hk',hkb',hkj'⟩
     ·exact absurd h (g5 _)
     cases fz' with
     |true=>
      obtain⟨b2,h1,h2⟩:=L.mem.obj k' _ hk';rw[hkb']at h1;cases h1
      exact absurd (h2 _ hkj').1 (g5 _)
     |false=>
      have:k=k':=L.mem.dist k k' _ _ b hk hk' hkb hkb';subst this;rw[hk]at hk';cases hk'
      exact hkj'
    have hle:off+c.ncell≤d.ncell:=by have:=hall (c.ncell-1) (by omega);omega
    obtain⟨i,hi,hd⟩:=Rm (acR hok k hka d false hk) (by omega) hle
    have h1:=hr i hi;have h2:=(L.mem.lies hk hkb (off+i) (by omega)).2
    rw[aic]at h2;rw[rdv,L.rd b (off+i) (.inr ⟨k,d,false,hka,hk,hkb,by omega⟩),←rdv]at h1
    exact Kq hd h1 h2
 ·exact .inr ⟨hs j hj,hb⟩
def zx:PV→Bool
 |.int _ _=>true
 |.bool _=>true
 |.bp _=>true
 |.str _=>true
 |.any=>true
 |_=>false
theorem zy {p:PV} (h:zx p=true) {S S':Imm} {w w':World} {ι ι':Ix} {v:Value} (hr:Rep S w ι p v):Rep S' w' ι' p v:=by
 cases p<;>simp only[zx]at h<;>first|(cases h;done)|(cases hr;constructor)
def yc:List (List PV)→Bool
 | []=>true
 |r::rs=>match r.all zx with|true=>yc rs|false=>false
theorem Kr:∀{rs:List (List PV)},yc rs=true→∀i j,zx (aD (rs.getD i []) j)=true:=by
 intro rs;induction rs with
 |nil=>intro _ i j;cases j<;>simp[aD,zx]
 |cons r rs ih=>
  intro h i j;unfold yc at h;split at h
  ·rename_i hr
   cases i with
   |succ i=>exact ih h i j
   |zero=>
    have:∀(l:List PV) j,l.all zx=true→zx (aD l j)=true:=by
     intro l;induction l with
     |nil=>intro j _;cases j<;>rfl
     |cons x l ihl=>
      intro j hl;rw[List.all_cons,aia]at hl;cases j with
      |zero=>exact hl.1
      |succ j=>exact ihl j hl.2
    exact this r j hr
  ·cases h
def kp1 (H:Hp) (a:List Nat) (p:PV):PV:=
 match p with
 |.int k n=>.int k n
 |.bool b=>.bool b
 |.bp b=>.bp b
 |.str s=>.str s
 |.nils=>.nils
 |.isl c t=>match t with
  |.none=>match c with
   |.ints k l=>match okA H a (.ints k l)with|true=>.isl (.ints k l) .none|false=>.any
   |.bools l=>match okA H a (.bools l)with|true=>.isl (.bools l) .none|false=>.any
   |.recs m rs=>match yc rs with
    |true=>(match okA H a (.recs m rs)with|true=>.isl (.recs m rs) .none|false=>.any)
    |false=>.any
   |_=>.any
  |_=>.any
 |_=>.any
theorem uP {S S':Imm} {w w':World} {ι ι':Ix} {H H':Hp} {a:List Nat} (L:Lk S w ι H H' a S' w') {c d:CL} (hok:okA H a c=true) (e1:d.ncell=c.ncell) (e2:d.cnt=c.cnt)
 (hc:∀j,j<c.ncell→∀v,Rep S' w' noI (c.get j) v→Rep (newS S S' w) w' noI (d.get j) v) {v:Value} (hr:Rep S' w' noI (.isl c .none) v):Rep (newS S S' w) w' ι' (.isl d .none) v:=by
 cases hr with
 |islnil _ _ _ h=>exact .islnil _ _ _ (e2.trans h)
 |isl _ _ _ b off cap h1 hs h hf ho=>
  have hn:=U7 L hok hs h;rw[←e2];refine .isl _ _ _ _ _ _ (by omega) (fun j hj=>hn j (by omega)) (fun j hj=>hc j (by omega) _ (h j (by omega))) (fun e=>by cases e) (fun k e=>by cases e)
theorem wT {S S':Imm} {w w':World} {ι ι':Ix} {H H':Hp} {a:List Nat} (L:Lk S w ι H H' a S' w') {p:PV} {v:Value} (hr:Rep S' w' noI p v):Rep (newS S S' w) w' ι' (kp1 H a p) v:=by
 cases p with
 |int k n=>cases hr;exact .int _ _ _
 |bool b=>cases hr;exact .bool _ _
 |bp b=>cases hr;exact .bp _ _
 |str s=>cases hr;exact .str _ _
 |nils=>cases hr;exact .nils _
 |isl c t=>
  unfold kp1;simp only;cases t with
  |none=>
   cases c with
   |ints k l=>
    simp only;split
    ·exact uP L (by assumption) rfl rfl (fun j hj v hv=>zy rfl hv) hr
    ·exact .any _ _
   |bools l=>
    simp only;split
    ·exact uP L (by assumption) rfl rfl (fun j hj v hv=>zy rfl hv) hr
    ·exact .any _ _
   |recs m rs=>
    simp only;split
    ·split
     ·exact uP L (by assumption) rfl rfl (fun j hj v hv=>zy (Kr (by assumption) _ _) hv) hr
     ·exact .any _ _
    ·exact .any _ _
   |_=>exact .any _ _
  |_=>exact .any _ _
 |_=>exact .any _ _
def sK (H:Hp) (a:List Nat) (k:IntKind):List (List Int)→List PV
 | []=>[]
 |x::r=>kp1 H a (.isl (.ints k x) .none)::sK H a k r
theorem Ou {H:Hp} {a:List Nat} {k:IntKind}:∀(xs:List (List Int)),(sK H a k xs).length=xs.length∧∀i,i<xs.length→aD (sK H a k xs) i=kp1 H a (.isl (.ints k (xs.getD i [])) .none):=by
 intro xs;induction xs with
 |nil=>exact⟨rfl,fun i hi=>by simp at hi⟩
 |cons x r ih=>
  refine⟨by simp[sK,ih.1],fun i hi=>?_⟩
  cases i with
  |zero=>rfl
  |succ i=>exact ih.2 i (by simpa using hi)
def kp2 (H:Hp) (a:List Nat) (p:PV):PV:=
 match p with
 |.isl c t=>match t with
  |.none=>match c with
   |.rows k xs=>match okA H a (.rows k xs)with|true=>.isl (.pv (sK H a k xs)) .none|false=>.any
   |c=>kp1 H a (.isl c .none)
  |_=>.any
 |p=>kp1 H a p
theorem Er {S S':Imm} {w w':World} {ι ι':Ix} {H H':Hp} {a:List Nat} (L:Lk S w ι H H' a S' w') {p:PV} {v:Value} (hr:Rep S' w' noI p v):Rep (newS S S' w) w' ι' (kp2 H a p) v:=by
 cases p with
 |isl c t=>
  unfold kp2;simp only;cases t with
  |none=>
   cases c with
   |rows k xs=>
    simp only;split
    ·obtain⟨g1,g2⟩:=Ou (H:=H) (a:=a) (k:=k) xs
     refine uP L (by assumption) (by simp only[CL.ncell];exact g1) (by simp only[CL.cnt];exact g1) (fun j hj v hv=>?_) hr
     show Rep _ _ _ (aD (sK H a k xs) j) v;rw[g2 j hj];exact wT L hv
    ·exact .any _ _
   |_=>exact wT L hr
  |_=>exact .any _ _
 |_=>exact wT L hr
def Hg (H:Hp) (a:List Nat):List PV→List PV
 | []=>[]
 |x::r=>kp2 H a x::Hg H a r
theorem zA {H:Hp} {a:List Nat} (l:List PV):(Hg H a l).length=l.length∧∀i,i<l.length→aD (Hg H a l) i=kp2 H a (aD l i):=by
 induction l with
 |nil=>exact⟨rfl,fun i hi=>by simp at hi⟩
 |cons x xs ih=>exact⟨by simp[Hg,ih.1],fun i hi=>by cases i with|zero=>rfl|succ i=>exact ih.2 i (by simpa using hi)⟩
def kpA (H:Hp) (a:List Nat) (p:PV):PV:=
 match p with
 |.agg cs=>.agg (Hg H a cs)
 |p=>kp2 H a p
theorem Es {S S':Imm} {w w':World} {ι ι':Ix} {H H':Hp} {a:List Nat} (L:Lk S w ι H H' a S' w') {p:PV} {v:Value} (hr:Rep S' w' noI p v):Rep (newS S S' w) w' ι' (kpA H a p) v:=by
 cases p with
 |agg cs=>
  cases hr with
  |agg _ _ vs hl hh=>
   refine .agg _ _ _ ((zA cs).1.trans hl) fun i hi=>?_;rw[(zA cs).1]at hi;rw[(zA cs).2 i hi];exact Er L (hh i hi)
 |_=>exact Er L hr
def Hl (H:Hp) (a:List Nat):List PV→List PV
 | []=>[]
 |x::r=>kpA H a x::Hl H a r
theorem zB {H:Hp} {a:List Nat} (l:List PV):(Hl H a l).length=l.length∧∀i,i<l.length→aD (Hl H a l) i=kpA H a (aD l i):=by
 induction l with
 |nil=>exact⟨rfl,fun i hi=>by simp at hi⟩
 |cons x xs ih=>exact⟨by simp[Hl,ih.1],fun i hi=>by cases i with|zero=>rfl|succ i=>exact ih.2 i (by simpa using hi)⟩
def kpK (H:Hp) (a:List Nat) (v:PV) (K:PV→Prop):Prop:=
 match v with
 |.tup vs=>bN (Hl H a vs) fun us=>K (.tup us)
 |p=>bM (kpA H a p) K
theorem Rp {H:Hp} {a:List Nat} {v:PV} {K:PV→Prop} (h:kpK H a v K):∃u,K u∧∀{S S':Imm} {w w':World} {ι ι':Ix} {H':Hp} {val:Value},Lk S w ι H H' a S' w'→Rep S' w' noI v val→Rep (newS S S' w) w' ι' u val:=by
 cases v with
 |tup vs=>
  unfold kpK at h;simp only at h;rw[bg]at h;refine⟨_,h,fun L hr=>?_⟩;cases hr with
  |tup _ _ us hl hh=>
   refine .tup _ _ _ ((zB vs).1.trans hl) fun i hi=>?_;rw[(zB vs).1]at hi;rw[(zB vs).2 i hi];exact Es L (hh i hi)
 |_=>
  unfold kpK at h;simp only at h;rw[bH]at h;exact⟨_,h,fun L hr=>Es L hr⟩
def lq (C:PSp):CT:=fun args n H K=>He H args fun xs a=>bN (dI xs) fun xs=>C xs fun v=>kpK H a v fun u=>K u [] a []
theorem jg {P:Program} {g:FuncId} {C:PSp} (h:POK P g C):COK P g (lq C):=by
 intro args n H K hk;unfold lq at hk;obtain⟨xs,a,hk,hl,hs⟩:=Hf hk;rw[bg]at hk;obtain⟨v,hk,hent,hv⟩:=h _ _ hk;obtain⟨u,hk,hp⟩:=Rp hk;refine⟨u,[],a,[],hk,hent,fun S w ι H' vs hgb M hr ha _=>?_⟩;have hN:∀k∈a,∀c fz b,ay H' k=some (.cells c fz)→ι.o k=some b→∀j,j<c.ncell→zw S ι H' a b j:=fun k hk c fz b h1 h2 j h3=>.inr ⟨k,c,fz,hk,h1,h2,h3⟩;have hA:bF (zw S ι H' a) w noI (dI xs) vs:=⟨(bB xs).1.trans (hl.trans hr.1),fun i hi=>(bB xs).2 i (hs Bd hN M ha i (by rw[(bB xs).1]at hi;omega) _ (hr.2 i (by rw[(bB xs).1]at hi;omega)))⟩
 refine(hv (zw S ι H' a) w vs (nk Bd (.refl _) hgb) (U6 M) hA).mono ?_
 rintro e w' ⟨val,S',rfl,o⟩
 have hno:∀k ob b,ay H' k=some ob→ob.has ι k b→b<w.heap.size:=fun k ob b ho hb=>(M.obj k ob ho).lt hb;have L:Lk S w ι H H' a S' w':=⟨ha,M,fun b j hb hs=>o.immN b j hb hs,fun b j hn=>(o.keeps.imm b j hn).2⟩;have hk0:Keeps S w (newS S S' w) w':=⟨fun b j hs=>⟨.inl hs,(o.keeps.imm b j (.inl hs)).2⟩,o.keeps.cells⟩;refine⟨val,newS S S' w,ι,rfl,⟨fun k ob ho=>(M.obj k ob ho).mono hk0 (.refl _) o.below (fun b hb=>o.same b (hno k ob b ho hb)) (fun _=>rfl) rfl (fun b j hb hs=>?_),M.liveO,M.liveT,M.dist,fun b j hs=>?_⟩,
  .refl _,hk0,hp L o.rep,fun p=>⟨o.below,fun b hb _=>o.same b hb,hk0,fun b j hb hs=>?_,fun b h=>.inl h,fun _ _ _ h=>h,fun _ _ b n h=>⟨b,n,h,.inl ⟨rfl,ahO _⟩⟩⟩⟩
 ·rcases hs with hs|⟨_,hs⟩
  ·exact hs
  ·have:=hno k ob b ho hb;omega
 ·rcases hs with hs|⟨hs,_⟩
  ·rw[(hk0.imm b j hs).2];exact M.imm b j hs
  ·exact o.imm b j hs
 ·rcases hs with hs|⟨_,hs⟩
  ·exact .inl hs
  ·omega
end Go.Eng
