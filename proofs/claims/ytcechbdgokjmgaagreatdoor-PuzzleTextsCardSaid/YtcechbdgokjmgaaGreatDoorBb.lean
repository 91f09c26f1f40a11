/- The base of the claims of this seat: an engine that walks through functions with symbolic values, its soundness, and contracts of the functions that every law calls. Conditions stand in the contracts. -/
import Derived.Lib.ConvBytes
import Derived.MapKept
import Derived.OrdersIn
import Derived.LoopNIn
import Derived.RangeFuncLeaves
import Derived.Test.YtcechbdgokjmgaaGreatDoorBa
open Array renaming getD_eq_getD_getElem?→aej,getElem?_eq_getElem→aeg,getElem?_push→aef,length_toList→aeO,getElem?_eq_none→aec,size_append→ae3,size_map→ae4,getElem?_append→ae5,getElem?_map→ae6,getElem?_toList→ae8,range→ae9,getElem?_append_left→afj,getElem?_append_right→afk,empty_append→afn,toList_inj→afq,ext→afr,getElem_push_lt→afw,getElem_push_eq→afy,getElem?_setIfInBounds→afB,getElem?_eq_some_iff→ad1,getElem?_replicate→afM
open Bool renaming and_eq_true→aeA,false_eq_true→ad7,not_false→aeV,or_eq_true→afs,not→afJ
open Classical renaming not_not→ae2
open Int renaming toNat_natCast→afg
open List renaming getD_cons_zero→ae1,getD_eq_getElem?_getD→aeo,getElem?_map→ae7,range→ael,getElem?_toArray→afc,getElem?_cons_zero→afd,getElem?_cons_succ→afe,length_cons→ad4,getElem?_append→afh,getElem?_append_right→afi,getElem_of_mem→aeu,getElem?_range→afm,getElem?_replicate→afo,length_eq_zero_iff→aft,length_append→afu,length_nil→adY,getElem_append_left→afv,getElem_append_right→afx,getElem_cons_zero→afz,find?→afA,mem_cons→afD,pairwise_cons→afE,pairwise_append→afF,all_eq_true→afI,range'→afK,range_eq_range'→afL
open Nat renaming le_refl→aea,zero_add→aeC,zero_mul→ad9,add_mul→aeJ,le_of_ble_eq_true→aeK,eq_of_beq_eq_true→aeB,mod_lt→afa,div_lt_iff_lt_mul→aeT,le_mul_of_pos_right→afb,mul_one→aeL,mul_le_mul→aff,eq_zero_or_pos→aee,lt_or_ge→aeb,mul_le_mul_right→aeI,mul_comm→aeD,add_zero→adZ,mod_one→afp,sub_self→aeM,testBit→afG,beq→aew,ne_of_beq_eq_false→afH
open Option renaming getD_some→afl,map_some→aei,bind_some→afC
namespace Go.Eng
open Go.RowKit
set_option linter.unusedSimpArgs false
set_option linter.unusedVariables false
variable {P:Program} {r:Option Nat} {τ:TypeId→Option TE}
theorem Mem.newImm {S:Imm} {w:World} {ι:Ix} {H:Hp} (M:Mem S w ι H) {c:CL} {arr:Array Value} {e:TypeId} (hn:c.ncell≤arr.size)
 (hc:∀j,j<c.ncell→Rep S w noI (c.get j) (arr.getD j undef)):
 ∃S',Mem S' {w with heap:=w.heap.push (.cells arr e)} ι H∧Keeps S w S' {w with heap:=w.heap.push (.cells arr e)}∧
  (∀j,j<c.ncell→S' w.heap.size j)∧(∀j,j<c.ncell→Rep S' {w with heap:=w.heap.push (.cells arr e)} noI (c.get j) (rdv {w with heap:=w.heap.push (.cells arr e)} w.heap.size j))∧
  ∀p,Tr p S w ι H S' {w with heap:=w.heap.push (.cells arr e)} ι H:=by
 let w':World:={w with heap:=w.heap.push (.cells arr e)}
 let S':Imm:=fun b j=>S b j∨(b=w.heap.size∧j<c.ncell)
 have hk0:=jN M.imm (w:=w) (.cells arr e);have hkeep:Keeps S w S' w':=⟨fun b j h=>⟨.inl h,(hk0.imm b j h).2⟩,hk0.cells⟩;have hnew:∀j,rd w' w.heap.size j=arr[j]? :=fun j=>aN (fC w _) j;have hrep:∀j,j<c.ncell→Rep S' w' noI (c.get j) (rdv w' w.heap.size j):=fun j hj=>by
  have:=(hc j hj).mono hkeep _ (.refl _);rw[aej]at this;rw[rdv,hnew];exact this
 have hlt:∀k o b,ay H k=some o→o.has ι k b→b<w.heap.size:=fun k o b ho hb=>(M.obj k o ho).lt hb;refine⟨S',⟨?_,M.liveO,M.liveT,M.dist,?_⟩,hkeep,fun j hj=>.inr ⟨rfl,hj⟩,hrep,fun p=>⟨jM _ _ (fu _ _),fun b hb _=>gI hb,hkeep,?_,fun b h=>.inl h,fun k _ b h=>h,fun k _ b n h=>⟨b,n,h,.inl ⟨rfl,aea _⟩⟩⟩⟩
 ·intro k o ho
  refine(M.obj k o ho).mono hkeep (.refl _) (jM _ _ (fu _ _)) (fun b hb=>gI (hlt k o b ho hb)) (fun _=>rfl) rfl (fun b j hb hs=>?_);rcases hs with h|⟨h,_⟩
  ·exact h
  ·have:=hlt k o b ho hb;omega
 ·intro b j hs
  rcases hs with h|⟨rfl,h⟩
  ·rw[(hkeep.imm b j h).2];exact M.imm b j h
  ·rw[hnew,aeg (by omega)];rfl
 ·intro b j hb hs
  rcases hs with h|⟨h,_⟩
  ·exact .inl h
  ·omega
theorem tq {o:Oper} {ρ:Operand→PV} {H0:Hp} {c:CL} {accs:List Nat} (hd:∀c,o.op≠ .defer c)
 (h:∀(S:Imm) (w:World) (ι:Ix) (H:Hp) (a:Act),Mem S w ι H→(∀x∈o.op.operands.toList,Rep S w ι (ρ x) (a.eval x))→(∀k∈accs,ay H k=ay H0 k)→
  ∃arr e,(execOp a.eval o).run P w=.ok (.value (.slice (some ⟨w.heap.size,0,none⟩) c.cnt c.cnt)) {w with heap:=w.heap.push (.cells arr e)}∧c.ncell≤arr.size∧(∀j,j<c.ncell→Rep S w noI (c.get j) (arr.getD j undef))):
 bB P r o ρ H0 (.isl c .full) [] accs []:=by
 intro S w ι H a next Q M hr ha hn hk;obtain⟨arr,e,h1,h2,h3⟩:=h S w ι H a M hr ha;obtain⟨S',M',K,hs,hh,T⟩:=M.newImm h2 h3 (e:=e);refine dU hd h1 (hk _ S' _ ι M' (.refl _) K ?_ T);exact .isl _ _ _ _ _ _ (aea _) (fun j hj=>by rw[aeC];exact hs j hj) (fun j hj=>by rw[aeC];exact hh j hj) (fun _=>rfl) (fun k e=>by cases e)
theorem fE {p q:PV} (h:eF p=some q) {S:Imm} {w:World} {ι:Ix} {v:Value} (hr:Rep S w ι p v):Rep S w noI q v:=by
 cases p with
 |isl c t=>
  have key:∀t',(t'=.full→t=.full)→(∀k,t'≠ .own k)→Rep S w noI (.isl c t') v:=by
   intro t' h1 h2;cases hr with
   |islnil _ _ _ hc=>exact .islnil _ _ _ hc
   |isl _ _ _ b off cap hc hs hh hf ho=>exact .isl _ _ _ _ _ _ hc hs hh (fun e=>hf (h1 e)) (fun k e=>absurd e (h2 k))
  cases t<;>cases h<;>exact key _ (by simp) (by simp)
 |ip c o=>cases h;cases hr with|ip _ _ _ b o' hs hh=>exact .ip _ _ _ _ _ hs hh
 |fn f us vs=>
  simp only[eF]at h;split at h
  ·rename_i h1
   split at h
   ·rename_i h2
    cases h
    cases hr with
    |fn _ _ _ _ us' vs' hk hl hu hv=>exact .fn _ _ _ _ _ _ hk hl (fun i hi=>kY h1 i hi (hu i hi)) (fun i hi=>kY h2 i hi (hv i hi))
   ·cases h
  ·cases h
 |ipe c i j=>cases h;cases hr with|ipe _ _ _ _ b o' hs hh=>exact .ipe _ _ _ _ _ _ hs hh
 |_=>first|(cases h;cases hr;constructor)|(simp[eF]at h)
theorem kg:∀{ps qs:List PV},kW ps=some qs→qs.length=ps.length∧∀i,i<ps.length→∀{S:Imm} {w:World} {ι:Ix} {v:Value},Rep S w ι (aC ps i) v→Rep S w noI (aC qs i) v:=by
 intro ps;induction ps with
 |nil=>intro qs h;simp[kW]at h;subst h;exact⟨rfl,fun i hi=>by simp at hi⟩
 |cons p ps ih=>
  intro qs h;unfold kW at h;split at h
  ·rename_i y hy
   split at h
   ·rename_i ys hys
    cases h
    obtain⟨h1,h2⟩:=ih hys;refine⟨by simp[h1],fun i hi=>?_⟩
    cases i with
    |zero=>intro S w ι v hr;exact fE hy hr
    |succ i=>exact h2 i (by simpa using hi)
   ·cases h
  ·cases h
theorem tC {k:IntKind}:∀{ps:List PV} {xs:List Int},qw k ps=some xs→xs.length=ps.length∧∀i,i<ps.length→∀{S:Imm} {w:World} {ι:Ix} {v:Value},Rep S w ι (aC ps i) v→Rep S w noI (.int k (xs.getD i 0)) v:=by
 intro ps;induction ps with
 |nil=>intro qs h;simp[qw]at h;subst h;exact⟨rfl,fun i hi=>by simp at hi⟩
 |cons p ps ih=>
  intro qs h;unfold qw at h;split at h
  ·rename_i e;cases e
  ·rename_i k' n r e
   cases e
   split at h
   ·rename_i hk
    have hk:=of_decide_eq_true hk;subst hk;split at h
    ·rename_i ys hys
     cases h
     obtain⟨h1,h2⟩:=ih hys;refine⟨by simp[h1],fun i hi=>?_⟩
     cases i with
     |zero=>intro S w ι v hr;cases hr;exact .int _ _ _
     |succ i=>intro S w ι v hr;simpa using h2 i (by simpa using hi) hr
    ·cases h
   ·cases h
  ·cases h
theorem sM:∀{ps:List PV} {xs:List Bool},lQ ps=some xs→xs.length=ps.length∧∀i,i<ps.length→∀{S:Imm} {w:World} {ι:Ix} {v:Value},Rep S w ι (aC ps i) v→Rep S w noI (.bp (xs.getD i false)) v:=by
 intro ps;induction ps with
 |nil=>intro qs h;simp[lQ]at h;subst h;exact⟨rfl,fun i hi=>by simp at hi⟩
 |cons p ps ih=>
  intro qs h;unfold lQ at h;split at h
  ·rename_i e;cases e
  ·rename_i n r e
   cases e
   split at h
   ·rename_i ys hys
    cases h
    obtain⟨h1,h2⟩:=ih hys;refine⟨by simp[h1],fun i hi=>?_⟩
    cases i with
    |zero=>intro S w ι v hr;cases hr;exact .bp _ _
    |succ i=>intro S w ι v hr;simpa using h2 i (by simpa using hi) hr
   ·cases h
  ·rename_i n r e
   cases e
   split at h
   ·rename_i ys hys
    cases h
    obtain⟨h1,h2⟩:=ih hys;refine⟨by simp[h1],fun i hi=>?_⟩
    cases i with
    |zero=>intro S w ι v hr;cases hr;exact .bp _ _
    |succ i=>intro S w ι v hr;simpa using h2 i (by simpa using hi) hr
   ·cases h
  ·cases h
theorem Ec:∀{ps:List PV} {xs:List ByteArray},strsOf ps=some xs→xs.length=ps.length∧∀i,i<ps.length→∀{S:Imm} {w:World} {ι:Ix} {v:Value},Rep S w ι (aC ps i) v→Rep S w noI (.str (xs.getD i .empty)) v:=by
 intro ps;induction ps with
 |nil=>intro qs h;simp[strsOf]at h;subst h;exact⟨rfl,fun i hi=>by simp at hi⟩
 |cons p ps ih=>
  intro qs h;unfold strsOf at h;split at h
  ·rename_i e;cases e
  ·rename_i n r e
   cases e
   split at h
   ·rename_i ys hys
    cases h
    obtain⟨h1,h2⟩:=ih hys;refine⟨by simp[h1],fun i hi=>?_⟩
    cases i with
    |zero=>intro S w ι v hr;cases hr;exact .str _ _
    |succ i=>intro S w ι v hr;simpa using h2 i (by simpa using hi) hr
   ·cases h
  ·cases h
theorem Rep.toNoI {S:Imm} {w:World} {ι:Ix} {c:CL} {v:Value} (h:Rep S w ι (.isl c .none) v):Rep S w noI (.isl c .none) v:=fE (p:=.isl c .none) rfl h
theorem Ed {k:IntKind}:∀{ps:List PV} {xs:List (List Int)},rowsOf k ps=some xs→xs.length=ps.length∧∀i,i<ps.length→∀{S:Imm} {w:World} {ι:Ix} {v:Value},Rep S w ι (aC ps i) v→Rep S w noI (.isl (.ints k (xs.getD i [])) .none) v:=by
 intro ps;induction ps with
 |nil=>intro qs h;simp[rowsOf]at h;subst h;exact⟨rfl,fun i hi=>by simp at hi⟩
 |cons p ps ih=>
  intro qs h;unfold rowsOf at h;split at h
  ·rename_i e;cases e
  ·rename_i k' n t r e
   cases e
   split at h
   ·rename_i hk
    have hk:=of_decide_eq_true hk;subst hk;split at h
    ·rename_i ys hys
     cases h
     obtain⟨h1,h2⟩:=ih hys;refine⟨by simp[h1],fun i hi=>?_⟩
     cases i with
     |zero=>intro S w ι v hr;exact hr.drop.toNoI
     |succ i=>intro S w ι v hr;simpa using h2 i (by simpa using hi) hr
    ·cases h
   ·cases h
  ·rename_i r e
   cases e
   split at h
   ·rename_i ys hys
    cases h
    obtain⟨h1,h2⟩:=ih hys;refine⟨by simp[h1],fun i hi=>?_⟩
    cases i with
    |zero=>intro S w ι v hr;cases hr;exact .islnil _ _ _ rfl
    |succ i=>intro S w ι v hr;simpa using h2 i (by simpa using hi) hr
   ·cases h
  ·cases h
theorem Ku {z:Value} {els:List PV} {K:CL→Prop} (h:QF z els K):∃c,K c∧c.esz=1∧c.cnt=els.length∧
 ∀i,i<els.length→∀{S:Imm} {w:World} {ι:Ix} {v:Value},Rep S w ι (aC els i) v→Rep S w noI (c.get i) v:=by
 have pvc:(match kW els with|some l=>K (.pv l)|none=>False)→∃c,K c∧c.esz=1∧c.cnt=els.length∧
  ∀i,i<els.length→∀{S:Imm} {w:World} {ι:Ix} {v:Value},Rep S w ι (aC els i) v→Rep S w noI (c.get i) v:=by
  intro h;split at h
  ·rename_i l hl
   obtain⟨h1,h2⟩:=kg hl;exact⟨_,h,rfl,h1,h2⟩
  ·exact h.elim
 unfold QF at h;split at h
 ·split at h
  ·rename_i l hl
   obtain⟨h1,h2⟩:=tC hl;exact⟨_,h,rfl,h1,h2⟩
  ·exact h.elim
 ·split at h
  ·rename_i l hl
   obtain⟨h1,h2⟩:=sM hl;exact⟨_,h,rfl,h1,h2⟩
  ·exact h.elim
 ·split at h
  ·rename_i l hl
   obtain⟨h1,h2⟩:=Ec hl;exact⟨_,h,rfl,h1,h2⟩
  ·exact h.elim
 ·split at h
  ·rename_i l hl
   obtain⟨h1,h2⟩:=Ed hl;exact⟨_,h,rfl,h1,h2⟩
  ·exact pvc h
 ·exact pvc h
theorem wW (n:Nat):(kD n).length=n:=by
 induction n with
 |zero=>rfl
 |succ n ih=>simp[kD,ih]
theorem Ee (n i:Nat):aC (kD n) i=.any:=by
 induction n generalizing i with
 |zero=>rfl
 |succ n ih=>cases i with
  |zero=>rfl
  |succ i=>exact ih i
theorem nT (m:Nat):∀(n:Nat) (l:List PV),(chunks m n l).length=n:=by
 intro n;induction n with
 |zero=>intro l;rfl
 |succ n ih=>intro l;simp[chunks,ih]
theorem Kv (m:Nat):∀(n:Nat) (l:List PV) (i q:Nat),i<n→q<m→aC ((chunks m n l).getD i []) q=aC l (i*m+q):=by
 intro n;induction n with
 |zero=>intro l i q h;omega
 |succ n ih=>
  intro l i q h hq;cases i with
  |zero=>simp only[chunks,ae1,ad9,aeC];exact BO _ _ _ hq
  |succ i=>
   simp only[chunks,List.getD_cons_succ];rw[ih _ i q (by omega) hq,BN]
   congr 1;rw[aeJ];omega
theorem NU {l:List PV} {i:Nat} (h:l.length≤i):aC l i=.any:=by
 induction l generalizing i with
 |nil=>rfl
 |cons x xs ih=>cases i with
  |zero=>simp at h
  |succ i=>exact ih (by simpa using h)
theorem Ef:∀(rs:List (List PV)),nZ rs→∀i,eF.inlF (rs.getD i [])=true:=by
 intro rs;induction rs with
 |nil=>intro _ i;simp[eF.inlF]
 |cons r rs ih=>
  intro h i;cases i with
  |zero=>exact h.1
  |succ i=>simpa using ih h.2 i
theorem G5 {o:AO} {m:Nat} {K:RC→Prop} (h:Kc o m K):∃c rc,o=.cells c false∧c.cnt=m∧0<m∧(∀b,rc.at b=c)∧
 (∀j,j<c.ncell→∀{S:Imm} {w:World} {ι:Ix} {v:Value},Rep S w ι (c.get j) v→Rep S w noI (c.get j) v)∧K rc:=by
 unfold Kc at h;split at h
 ·split at h
  ·exact h.elim
  ·split at h
   ·exact⟨_,_,rfl,h.1.1.symm,h.1.2,fun _=>rfl,fun j _ S w ι v hv=>by cases hv;exact .int _ _ _,h.2⟩
   ·rename_i e rs
    refine⟨_,_,rfl,h.1.1.symm,h.1.2.1,fun _=>rfl,fun j hj S w ι v hv=>?_,h.2⟩;simp only[CL.get]at hv⊢;by_cases hl:j % e<(rs.getD (j / e) []).length
    ·exact kY (Ef _ h.1.2.2 _) _ hl hv
    ·rw[NU (by omega)];exact .any _ _
   ·exact h.elim
 ·exact h.elim
theorem Mem.newImmF {S:Imm} {w w':World} {ι:Ix} {H:Hp} (M:Mem S w ι H) {c:CL} {arr:Array Value} {e:TypeId} {fz:Nat × Nat} (hn:c.ncell≤arr.size)
 (hc:∀j,j<c.ncell→Rep S w noI (c.get j) (arr.getD j undef)) (hh:w'.heap=w.heap.push (.cells arr e fz)) (hos:w'.os=w.os) (htp:w'.tape=w.tape) (hou:w'.output=w.output):
 ∃S',Mem S' w' ι H∧Keeps S w S' w'∧(∀j,j<c.ncell→S' w.heap.size j)∧(∀j,j<c.ncell→Rep S' w' noI (c.get j) (rdv w' w.heap.size j))∧∀p,Tr p S w ι H S' w' ι H:=by
 let S':Imm:=fun b j=>S b j∨(b=w.heap.size∧j<c.ncell)
 have hold:∀b,b<w.heap.size→w'.heap[b]? =w.heap[b]? :=fun b hb=>by rw[hh,aef,if_neg (by omega)]
 have hnw:w'.heap[w.heap.size]? =some (.cells arr e fz):=by rw[hh];simp
 have hbel:Bel w w':=⟨hos,htp,hou,by rw[hh];simp,fun b hb=>eu (hold b hb)⟩
 have hrd:∀b j,(rd w b j).isSome→rd w' b j=rd w b j:=fun b j h=>cB (hold b (dZ h)) j;have hkeep:Keeps S w S' w':=⟨fun b j h=>⟨.inl h,hrd b j (M.imm b j h)⟩,fun b j h=>by rw[hrd b j h];exact h⟩
 have hnew:∀j,rd w' w.heap.size j=arr[j]? :=fun j=>aN hnw j;have hrep:∀j,j<c.ncell→Rep S' w' noI (c.get j) (rdv w' w.heap.size j):=fun j hj=>by
  have:=(hc j hj).mono hkeep _ (.refl _);rw[aej]at this;rw[rdv,hnew];exact this
 have hlt:∀k o b,ay H k=some o→o.has ι k b→b<w.heap.size:=fun k o b ho hb=>(M.obj k o ho).lt hb;refine⟨S',⟨?_,M.liveO,M.liveT,M.dist,?_⟩,hkeep,fun j hj=>.inr ⟨rfl,hj⟩,hrep,fun p=>⟨hbel,fun b hb _=>hold b hb,hkeep,?_,fun b h=>.inl h,fun k _ b h=>h,fun k _ b n h=>⟨b,n,h,.inl ⟨rfl,aea _⟩⟩⟩⟩
 ·intro k o ho
  refine(M.obj k o ho).mono hkeep (.refl _) hbel (fun b hb=>hold b (hlt k o b ho hb)) (fun _=>rfl) rfl (fun b j hb hs=>?_);rcases hs with h|⟨h,_⟩
  ·exact h
  ·have:=hlt k o b ho hb;omega
 ·intro b j hs
  rcases hs with h|⟨rfl,h⟩
  ·rw[(hkeep.imm b j h).2];exact M.imm b j h
  ·rw[hnew,aeg (by omega)];rfl
 ·intro b j hb hs
  rcases hs with h|⟨h,_⟩
  ·exact .inl h
  ·omega
theorem G6 (hτ:aV P τ) {md rf CP YP} {o:Oper} {ρ:Operand→PV} {H:Hp} {n:Nat} {s d:TypeId} {x:Operand} (ho:o.op=.convert s d x) {K:KR}
 (h:opK τ md rf CP YP ρ H n o.dst o.op K):∃v sets accs news,K v sets accs news∧bB P r o ρ H v sets accs news:=by
 by_cases hno:∀ts td,τ s=some ts→τ d=some td→cvN τ ts td≠1
 ·exact Kq hτ ho hno h
 rw[ho]at h;simp only[opK,bX]at h;obtain⟨ts,hts,td,htd,h⟩:=h;have h1:cvN τ ts td=1:=ae2.1 fun e=>hno fun ts' td' a b=>by
  rw[hts]at a;rw[htd]at b;cases a;cases b;exact e
 rw[h1]at h;simp only at h;obtain⟨e,te,hd,he,hu⟩:=VE h1;split at h
 ·rename_i b hb
  refine⟨_,_,_,_,h,fun S w ι H' a next Q M hr ha hn hk=>?_⟩;have hx:=hr x (by simp[ho,Op.operands])
  rw[hb]at hx;have hv:a.eval x=.string b:=by generalize a.eval x=v at hx;cases hx;rfl
  have hrun:=Lib.run_convert_string_bytes (P:=P) w s d e b (hτ.und s ts hts) ((hτ.und d td htd).trans (congrArg some hd)) ((hτ.und e te he).trans (congrArg some hu));have hlen:(dB b).length=b.size:=by unfold dB;rw[List.length_map,aeO];rfl
  have hheap:(Lib.bytesWorld w e b).heap=w.heap.push (.cells (Lib.bytesCells w e b) e ((Lib.bytesCells w e b).size,(Lib.bytesCells w e b).size+1)):=by
   apply Array.ext_getElem?;intro j;rcases Nat.lt_trichotomy j w.heap.size with hj|hj|hj
   ·rw[Lib.bytesWorld_at_old w e b j hj,aef,if_neg (by omega)]
   ·subst hj;rw[Lib.bytesWorld_at_new];simp
   ·rw[aec (by rw[Lib.bytesWorld_size];omega),aec (by simp;omega)]
  have hg:=grownCap_ge w b.size 0 e;obtain⟨S',M',K',hs',hh',T'⟩:=M.newImmF (c:=.ints .u8 (dB b)) (w':=Lib.bytesWorld w e b) (arr:=Lib.bytesCells w e b) (by simp only[CL.ncell,hlen,Lib.bytesCells];rw[ae3,ae4];exact Nat.le_add_right b.data.size _) (fun j hj=>by
   simp only[CL.ncell,hlen]at hj;have:(Lib.bytesCells w e b).getD j undef=.int .u8 ((dB b).getD j 0):=by
    have hj':j<b.data.size:=hj;have e1:b.data[j]? =some b.data[j]:=aeg hj';rw[aej,Lib.bytesCells,ae5,ae4,if_pos hj',ae6,e1,aeo,dB,ae7,ae8,e1];rfl
   rw[this];exact .int _ _ _) hheap (by unfold Lib.bytesWorld World.freeze;split<;>rfl) (by unfold Lib.bytesWorld World.freeze;split<;>rfl) (by unfold Lib.bytesWorld World.freeze;split<;>rfl)
  refine dU (fun c e=>by rw[ho]at e;cases e) (w':=Lib.bytesWorld w e b) (val:=.slice (some ⟨w.heap.size,0,none⟩) b.size (grownCap w b.size 0 e)) (by simp only[execOp,ho];rw[hv];exact dH hrun) (hk _ S' _ ι M' (.refl _) K' ?_ T')
  have:=Rep.isl (S:=S') (w:=Lib.bytesWorld w e b) ι (.ints .u8 (dB b)) .none w.heap.size 0 (grownCap w b.size 0 e) (by simp only[CL.cnt,hlen];exact hg) (fun j hj=>by rw[aeC];exact hs' j hj) (fun j hj=>by rw[aeC];exact hh' j hj) (fun e=>by cases e) (fun k e=>by cases e)
  simpa only[CL.cnt,hlen]using this
 ·exact h.elim
theorem wX (hτ:aV P τ) {md rf CP YP} {o:Oper} {ρ:Operand→PV} {H:Hp} {n:Nat} {t:TypeId} {len:Nat} {parts:Array (Nat × Operand)} (ho:o.op=.buildSlice t len parts) {K:KR}
 (h:opK τ md rf CP YP ρ H n o.dst o.op K):∃v sets accs news,K v sets accs news∧bB P r o ρ H v sets accs news:=by
 rw[ho]at h;simp only[opK,bX,aL,NH]at h;obtain⟨te,ht,h⟩:=h;have hd:∀c,o.op≠ .defer c:=fun c e=>by rw[ho]at e;cases e
 split at h
 ·rename_i e hu
  obtain⟨te',ht',hsz,h⟩:=h;have hsz:=aeK hsz;split at h
  ·rename_i cs hcs
   have run:∀{S:Imm} {w:World} {ι:Ix} {a:Act},(∀x∈o.op.operands.toList,Rep S w ι (ρ x) (a.eval x))→∃arr,bC S w ι cs arr∧cs.length=len*te'.size∧
    (execOp a.eval o).run P w=.ok (.value (.slice (some ⟨w.heap.size,0,none⟩) len len)) {w with heap:=w.heap.push (.cells arr e)}:=by
    intro S w ι a hr;have hparts:∀x∈parts.toList,Rep S w ι (ρ x.2) (a.eval x.2):=by
     intro x hx;exact hr x.2 (by simp[ho,Op.operands];exact⟨x.1,by simpa using hx⟩)
    have hfill:∀zc:Array Value,zc.size=len*te'.size→∃vs',Instr.fill (fun i=>some (i*te'.size,te'.size)) zc (parts.map fun x=>(x.1,a.eval x.2)).toList=some vs'∧bC S w ι cs vs':=by
     intro zc hzs;obtain⟨vs',h1,h2⟩:=qN (S:=S) (w:=w) (ι:=ι) (ρ:=ρ) (a:=a) (place:=fun i=>some (i*te'.size,te'.size)) (F:=fun l ps=>jv l te'.size ps) (fun l=>by simp[jv])
      (fun l i v rest cs hh=>qO l i v rest cs hh) parts.toList _ cs zc hparts hcs ⟨by rw[wW,hzs],fun i hi=>by rw[Ee];exact .any _ _⟩
     exact⟨vs',by simpa using h1,h2⟩
    have hlen:cs.length=len*te'.size:=by
     have:∀(ps:List (Nat × PV)) (l cs:List PV),jv l te'.size ps=some cs→cs.length=l.length:=by
      intro ps;induction ps with
      |nil=>intro l cs hh;simp[jv]at hh;rw[hh]
      |cons x xs ih=>
       intro l cs hh;obtain⟨i,v⟩:=x;obtain⟨o',sz,ds,_,_,_,h4,_⟩:=qO (S:=S) (w:=w) (ι:=ι) l i v xs cs hh;rw[ih _ _ h4,kX]
     rw[this _ _ _ hcs,wW]
    have pre:∀X,(∀{w':World},(Instr.buildSlice t len (parts.map fun x=>(x.1,a.eval x.2))).run P w=.ok X w'→(execOp a.eval o).run P w=.ok (.value X) w'):=by
     intro X w' hX;simp only[execOp,ho];exact dH hX
    by_cases h0:len*te'.size=0
    ·obtain⟨vs',h1,h2⟩:=hfill ((ae9 (len*te'.size)).map fun x=>(#[]:Array Value)[x % (#[]:Array Value).size]!) (by simp)
     refine⟨vs',h2,hlen,pre _ ?_⟩;simp only[Instr.buildSlice,Sem.run_bind,run_underlying (hτ.und _ _ ht),hu,Result.andThen,bK hτ ht'];rw[if_neg (by omega),Sem.run_ite,if_pos h0]
     simp only[Sem.run_bind,Sem.run_pure,Result.andThen,h1];simp[newRow,Result.andThen]
    ·obtain⟨vs',h1,h2⟩:=hfill ((ae9 (len*te'.size)).map fun x=>te'.zero.cells[x % te'.zero.cells.size]!) (by simp)
     refine⟨vs',h2,hlen,pre _ ?_⟩;simp only[Instr.buildSlice,Sem.run_bind,run_underlying (hτ.und _ _ ht),hu,Result.andThen,bK hτ ht'];rw[if_neg (by omega),Sem.run_ite,if_neg h0]
     simp only[Sem.run_bind,Sem.run_pure,Result.andThen,fV hτ ht',h1];simp[newRow,Result.andThen]
   split at h
   ·rename_i a m hrl
    have hcs1:cs=[.rsl a 0 m]:=by
     unfold NK at hrl;split at hrl
     ·split at hrl
      ·split at hrl
       ·cases hrl;rfl
       ·cases hrl
      ·cases hrl
     ·cases hrl
    rw[bg,aeA]at h;obtain⟨⟨es,el⟩,ob,hob,h⟩:=h;have es:=aeB es;have el:=aeB el;subst el;obtain⟨c,rc,hobc,hm,hm0,hrc,hno,h⟩:=G5 h;rw[cZ]at h;refine⟨_,_,_,_,h.2,?_⟩;intro S w ι H' a' next Q M hr ha hn hk;have hob':=(ha a (by simp)).trans (hob.trans (by rw[hobc]))
    have hnn:=hn n (by simp)
    obtain⟨arr,h1,h2,h3⟩:=run hr;rw[hcs1]at h1 h2;have h0:=h1.2 0 (by simp)
    simp only[aC]at h0;obtain⟨x0,hx0⟩:∃x0,arr.getD 0 undef=x0:=⟨_,rfl⟩;rw[hx0]at h0;have hsz1:arr.size=1:=by have:=h1.1;simp at this;omega
    cases h0 with
    |rslz=>omega
    |rsl _ _ _ _ b cap hkb hc hrd=>
     have hw2:∃w':World,w'={w with heap:=w.heap.push (.cells arr e)}:=⟨_,rfl⟩;obtain⟨w',hw'⟩:=hw2;rw[←hw']at h3;have hheap:w'.heap=w.heap.push (.cells arr e):=by rw[hw']
     have hbelow:Bel w w':=by rw[hw'];exact jM _ _ (fu _ _)
     obtain⟨X,M',le,K',T⟩:=M.absorb hob' hnn hkb (rc:=rc) hrc (fun j hj v hv=>hno j hj hv) (arr:=arr) (e:=e) (by omega) (cap:=cap) (by omega) (by rw[hx0,hm]) hheap hbelow
     have hio:(ι.setm n w.heap.size X).o n=some w.heap.size:=by simp[Ix.setm]
     refine dU hd h3 (hk _ S w' _ M' le K' (.rsl _ _ _ _ _ _ hio (aea _) (fun _ j hj=>?_)) T);have hat:w'.heap[w.heap.size]? =some (.cells arr e (0,0)):=by rw[hheap];simp
     rw[aN hat,aeg (by omega)];rfl
   split at h
   ·split at h
    ·rename_i ds hds
     obtain⟨i1,i2⟩:=kg hds;have hm:=aeK h.1;have hrec:∀{S:Imm} {w:World} {ι:Ix} {arr:Array Value},bC S w ι cs arr→cs.length=len*te'.size→∀j,j<(CL.recs te'.size (chunks te'.size len ds)).ncell→
      Rep S w noI ((CL.recs te'.size (chunks te'.size len ds)).get j) (arr.getD j undef):=by
      intro S w ι arr ha hl j hj;simp only[CL.ncell,nT]at hj;have hq:j % te'.size<te'.size:=afa _ hm;have hd':j / te'.size<len:=by rw[aeT hm];exact hj
      simp only[CL.get];rw[Kv _ _ _ _ _ hd' hq,Nat.div_add_mod'];exact i2 j (by omega) (ha.2 j (by omega))
     have h:=h.2;split at h
     ·rw[cZ]at h
      refine⟨_,_,_,_,h.2,kN hd fun S w ι H' a M hr ha=>?_⟩;obtain⟨arr,h1,h2,h3⟩:=run hr;have e1:=h1.1;exact⟨_,arr,e,h3,by simp[CL.ncell,nT];omega,fun j hj=>(hrec h1 h2 j hj).up ι,fun S' w' ι' hi hw=>.rsl _ _ _ _ _ _ hi (aea _) (fun _ j hj=>by
       have:=afb len hm;rw[aN hw,aeg (by omega)];rfl)⟩
     ·refine⟨_,_,_,_,h,tq hd fun S w ι H' a M hr ha=>?_⟩
      obtain⟨arr,h1,h2,h3⟩:=run hr;have e1:=h1.1;exact⟨arr,e,by simpa [CL.cnt,nT]using h3,by simp[CL.ncell,nT];omega,hrec h1 h2⟩
    ·exact h.elim
   ·obtain⟨c,h,c1,c2,c3⟩:=Ku h
    have hm:=aeB h.1;have hcn:c.ncell=cs.length:=by rw[bN,c1,c2,aeL]
    have h:=h.2;split at h
    ·rw[cZ]at h
     refine⟨_,_,_,_,h.2,kN hd fun S w ι H' a M hr ha=>?_⟩;obtain⟨arr,h1,h2,h3⟩:=run hr;have e1:=h1.1;exact⟨_,arr,e,h3,by omega,fun j hj=>(c3 j (by omega) (h1.2 j (by omega))).up ι,fun S' w' ι' hi hw=>.rsl _ _ _ _ _ _ hi (aea _) (fun _ j hj=>by
      rw[hm,aeL]at h2;rw[aN hw,aeg (by omega)];rfl)⟩
    ·refine⟨_,_,_,_,h,tq hd fun S w ι H' a M hr ha=>?_⟩
     obtain⟨arr,h1,h2,h3⟩:=run hr;have e1:=h1.1;have e2:c.cnt=len:=by rw[c2,h2,hm,aeL]
     exact⟨arr,e,by rw[e2];exact h3,by omega,fun j hj=>c3 j (by omega) (h1.2 j (by omega))⟩
  ·exact h.elim
 ·exact h.elim
variable {P:Program} {r:Option Nat} {τ:TypeId→Option TE}
theorem eT {w:World} {b off n size len cap:Nat} (h:∀j,j<n*size→(rd w b (off+j)).isSome):
 (Builtin.firstCells size n (.slice (some ⟨b,off,none⟩) len cap)).run P w=.ok ((ael (n*size)).map fun j=>rdv w b (off+j)).toArray w:=by
 simp only[Builtin.firstCells];exact run_loadCells P h
theorem lG {w:World} {a:Option Addr} {size len cap:Nat}:(Builtin.firstCells size 0 (.slice a len cap)).run P w=.ok #[] w:=by
 cases a with
 |none=>rfl
 |some a=>simp only[Builtin.firstCells,ad9];rfl
theorem run_firstCells_none {w:World} {n size len cap:Nat}:(Builtin.firstCells size n (.slice none len cap)).run P w=.ok #[] w:=rfl
theorem NV (n:Nat) (c:Nat) (h:c<n):Builtin.growBy n 4 c≤3*n+2000:=by
 simp only[Builtin.growBy];split
 ·omega
 ·split
  ·omega
  ·split
   ·omega
   ·split<;>omega
theorem yK {n c:Nat} (h:c<n):Builtin.nextslicecap n c≤3*n+2000:=by
 unfold Builtin.nextslicecap;split
 ·omega
 ·split
  ·omega
  ·exact NV n c h
theorem run_append_grow (hτ:aV P τ) {t u ty e:TypeId} {tt tu te:TE} (ht:τ t=some tt) (hu:τ u=some tu) (he:τ e=some te) (hd:tt.und=.slice e) {e':TypeId} (hd':tu.und=.slice e') {w:World}
 {base:Option Addr} {sLen sCap n:Nat} {xb:Option Addr} {xc:Nat} (hgrow:sCap<sLen+n) (hbd:sLen+n≤1073741824) (hby:te.bytes≤65536) {old new:Array Value}
 (hold:(Builtin.firstCells te.size sLen (.slice base sLen sCap)).run P {w with drawn:=w.drawn+1}=.ok old {w with drawn:=w.drawn+1})
 (hnew:(Builtin.firstCells te.size n (.slice xb n xc)).run P {w with drawn:=w.drawn+1}=.ok new {w with drawn:=w.drawn+1}):
 ∃cap',sLen+n≤cap'∧(Builtin.append_ #[t,u] ty #[.slice base sLen sCap,.slice xb n xc]).run P w=
  .ok (.slice (some ⟨w.heap.size,0,none⟩) (sLen+n) cap') {({w with drawn:=w.drawn+1}:World)with heap:=w.heap.push (.cells (old++new++Builtin.zeroCells te.zero.cells (cap'-(sLen+n))) e)}:=by
 obtain⟨i,hi,hz,hs,hb⟩:=jc hτ he w;obtain⟨i2,hi2,hz2,hs2,hb2⟩:=jc hτ he {w with drawn:=w.drawn+1};have hcap:=yK hgrow;refine⟨(Question.appendCap (sLen+n) sCap e).cut (w.tape w.drawn (.appendCap (sLen+n) sCap e)),by simp[Question.cut],?_⟩
 simp only[Builtin.append_,afc,afd,afe,Sem.run_bind,run_underlying (hτ.und _ _ ht),hd,Result.andThen,bK hτ he,run_underlying (hτ.und _ _ hu),hd',Sem.run_pure,ad7,if_false,Builtin.lenOf];simp only[aeV,if_true];rw[Sem.run_ite,if_neg (by omega)]
 simp only[Sem.run_bind,hi,Result.andThen,hb];rw[Sem.run_ite,if_neg (by simp[IntKind.max,IntKind.signed,IntKind.bits];omega)]
 simp only[Sem.run_bind,Sem.run_pure,Result.andThen,hi,hb];rw[Sem.run_ite,if_neg (by
  have:Builtin.nextslicecap (sLen+n) sCap*te.bytes≤3221227472*65536:=aff (by omega) hby
  omega)]
 simp only[Sem.run_bind,run_choose,Question.forced,ad7,if_false,Result.andThen,hi2,hb2,run_askRoom,hold,hnew,aeV,if_true,fV hτ he,newRow,run_newObj,Sem.run_pure]
theorem yL (hτ:aV P τ) {t u ty e:TypeId} {tt tu te:TE} (ht:τ t=some tt) (hu:τ u=some tu) (he:τ e=some te) (hd:tt.und=.slice e) {k:IntKind} (hd':tu.und=.int k) {w:World}
 {n:Nat} (hn:0<n∧n≤1000000) (hby:te.bytes≤65536) (h1:te.size=1):
 ∃cap',n≤cap'∧(Builtin.append_ #[t,u] ty #[.slice none 0 0,.int .i64 (n:Int)]).run P w=
  .ok (.slice (some ⟨w.heap.size,0,none⟩) n cap') {({w with drawn:=w.drawn+1}:World)with heap:=w.heap.push (.cells (#[]++Builtin.zeroCells te.zero.cells n++Builtin.zeroCells te.zero.cells (cap'-n)) e)}:=by
 obtain⟨i,hi,hz,hs,hb⟩:=jc hτ he w;obtain⟨i2,hi2,hz2,hs2,hb2⟩:=jc hτ he {w with drawn:=w.drawn+1};have hcap:=yK (n:=n) (c:=0) hn.1;have hw:IntKind.i64.wrap (n:Int)=n:=by simp[IntKind.wrap,IntKind.signed,IntKind.bits];omega
 have hmul:n*te.bytes≤1000000*65536:=aff hn.2 hby;refine⟨(Question.appendCap n 0 e).cut (w.tape w.drawn (.appendCap n 0 e)),by simp[Question.cut],?_⟩
 simp only[Builtin.append_,afc,afd,afe,Sem.run_bind,run_underlying (hτ.und _ _ ht),hd,Result.andThen,bK hτ he,run_underlying (hτ.und _ _ hu),hd',Sem.run_pure,if_true,asInt,asIntOf,hw];rw[Sem.run_ite,if_neg (by omega)]
 simp only[Sem.run_bind,hi,Result.andThen,hb];rw[Sem.run_ite,if_neg (by omega)]
 simp only[Sem.run_bind,Sem.run_pure,Result.andThen,afg,aeC];rw[Sem.run_ite,if_neg (by omega)]
 simp only[Sem.run_bind,hi,Result.andThen,hb];rw[Sem.run_ite,if_neg (by simp[IntKind.max,IntKind.signed,IntKind.bits];omega)]
 simp only[Sem.run_bind,Sem.run_pure,Result.andThen,hi,hb];rw[Sem.run_ite,if_neg (by
  have:Builtin.nextslicecap n 0*te.bytes≤3002000*65536:=aff (by omega) hby
  omega)]
 have hz:¬n*te.size=0:=by rw[h1];omega
 simp only[Sem.run_bind,run_choose,Question.forced,ad7,if_false,Result.andThen,hi2,hb2,run_askRoom,run_firstCells_none,Bool.not_true,hz,fV hτ he,newRow,run_newObj,Sem.run_pure]
theorem jP (hτ:aV P τ) {t u ty e:TypeId} {tt tu te:TE} (ht:τ t=some tt) (hu:τ u=some tu) (he:τ e=some te) (hd:tt.und=.slice e) {e':TypeId} (hd':tu.und=.slice e') {w w':World}
 {base:Option Addr} {sLen sCap n:Nat} {xb:Option Addr} {xc:Nat} (hfit:sLen+n≤sCap) {new:Array Value}
 (hnew:(Builtin.firstCells te.size n (.slice xb n xc)).run P w=.ok new w)
 (hst:((match base with|some a=>storeCells (a.add (sLen*te.size)) new.toList|none=>pure ()):Sem Unit).run P w=.ok () w'):
 (Builtin.append_ #[t,u] ty #[.slice base sLen sCap,.slice xb n xc]).run P w=.ok (.slice base (sLen+n) sCap) w':=by
 simp only[Builtin.append_,afc,afd,afe,Sem.run_bind,run_underlying (hτ.und _ _ ht),hd,Result.andThen,bK hτ he,run_underlying (hτ.und _ _ hu),hd',Sem.run_pure,ad7,if_false,Builtin.lenOf];rw[Sem.run_ite,if_pos hfit];simp only[Sem.run_bind,aeV,if_true,hnew,Result.andThen];cases base with
 |none=>simp at hst;subst hst;rfl
 |some a=>simp only at hst;simp only[Sem.run_bind,hst,Result.andThen,Sem.run_pure]
theorem Mem.tokStep {S:Imm} {w w':World} {ι:Ix} {H:Hp} (M:Mem S w ι H) {k b esz hw':Nat} {arr':Array Value} {e:TypeId}
 (below:Bel w w') (other:∀b',b'<w.heap.size→b'≠b→w'.heap[b']? =w.heap[b']?) (here:w'.heap[b]? =some (.cells arr' e (0,0))) (hpos:0<hw') (hsz:hw'*esz≤arr'.size)
 (hk:ay H k=none∨∃hw,ay H k=some (.tok esz hw))
 (hle:∀b0 hw,ι.t k=some (b0,hw)→(b=b0∧hw≤hw')∨hw<hw')
 (hb:w.heap.size≤b∨∃hw arr e0,ay H k=some (.tok esz hw)∧ι.t k=some (b,hw)∧w.heap[b]? =some (.cells arr e0 (0,0))∧arr.size≤arr'.size∧∀j,j<hw*esz→arr'[j]? =arr[j]?):
 ∃S',Mem S' w' (ι.sett k b hw') (aR H k (.tok esz hw'))∧Keeps S w S' w'∧ι.le (ι.sett k b hw')∧(∀j,j<hw'*esz→S' b j)∧∀p,Tr p S w ι H S' w' (ι.sett k b hw') (aR H k (.tok esz hw')):=by
 let S':Imm:=fun b' j=>S b' j∨(b'=b∧j<hw'*esz)
 have hnotO:ι.o k=none:=by
  cases eo:ι.o k with
  |none=>rfl
  |some x=>
   obtain⟨o,g1,g2⟩:=M.liveO k x eo;rcases hk with h|⟨hw,h⟩
   ·rw[h]at g1;cases g1
   ·rw[h]at g1;cases g1;simp[AO.isTok]at g2
 have hSb:∀j,S b j→∃hw arr e0,w.heap[b]? =some (.cells arr e0 (0,0))∧arr.size≤arr'.size∧j<hw*esz∧hw≤hw'∧∀j,j<hw*esz→arr'[j]? =arr[j]? :=by
  intro j hs;have hlt:=dZ (M.imm b j hs);rcases hb with h|⟨hw,arr,e0,h1,h2,h3,h4,h5⟩
  ·omega
  ·obtain⟨g1,g2⟩:=M.obj k _ h1
   rcases aee hw with hz|hz
   ·rw[g1 hz]at h2;cases h2
   ·obtain⟨b',arr2,e2,q1,q2,q3⟩:=g2 hz
    rw[h2]at q1;cases q1
    have:=hle b hw h2;exact⟨hw,arr,e0,h3,h4,q3 j hs,by omega,h5⟩
 have keeps:Keeps S w S' w':=by
  refine⟨fun b' j hs=>⟨.inl hs,?_⟩,fun b' j hs=>?_⟩
  ·by_cases eb:b'=b
   ·subst eb
    obtain⟨hw,arr,e0,h3,h4,h5,h6,h7⟩:=hSb j hs;rw[aN here,aN h3];exact h7 j h5
   ·exact cB (other b' (dZ (M.imm b' j hs)) eb) j
  ·by_cases eb:b'=b
   ·subst eb
    have hlt:=dZ hs;rcases hb with h|⟨hw,arr,e0,h1,h2,h3,h4,h5⟩
    ·omega
    ·rw[aN h3]at hs
     rw[aN here];have:j<arr.size:=by
      rcases aeb j arr.size with h1|h1
      ·exact h1
      ·rw[aec h1]at hs;simp at hs
     rw[aeg (by omega)];rfl
   ·rw[cB (other b' (dZ hs) eb) j];exact hs
 have le:ι.le (ι.sett k b hw'):=⟨fun _ _ h=>h,fun k' b0 hw h=>by
  by_cases ek:k'=k
  ·subst ek
   refine⟨b,hw',by simp[Ix.sett],?_⟩
   rcases hle b0 hw h with⟨h1,h2⟩|h1
   ·exact .inl ⟨h1,h2⟩
   ·exact .inr h1
  ·exact⟨b0,hw,by simp[Ix.sett,ek,h],.inl ⟨rfl,aea _⟩⟩⟩
 have hbl:∀b',(AO.tok esz hw').has (ι.sett k b hw') k b'↔b'=b:=fun b'=>by simp[AO.has,Ix.sett,eq_comm]
 obtain⟨M',T⟩:=M.step (S':=S') (b:=b) (k:=k) (o':=.tok esz hw') below other keeps (fun b' j h=>by rcases h with h|⟨h,_⟩;exact .inl h;exact .inr h)
  (fun j h=>by
   rw[aN here];have:j<arr'.size:=by
    rcases h with h|⟨_,h⟩
    ·obtain⟨hw,arr,e0,h3,h4,h5,h6,h7⟩:=hSb j h
     have:hw*esz≤hw'*esz:=aeI _ h6;omega
    ·omega
   rw[aeg this];rfl)
  le (fun _ _=>rfl) (fun k' h=>by simp[Ix.sett,h]) rfl
  (by
   rcases hb with h|⟨hw,arr,e0,h1,h2,h3,h4,h5⟩
   ·exact .inl h
   ·exact .inr ⟨_,h1,rfl,_,h2⟩)
  hbl (fun _=>by simpa [Ix.sett]using hnotO) (fun h=>by simp[AO.isTok]at h)
  ⟨fun hz=>by omega,fun _=>⟨b,arr',e,by simp[Ix.sett],here,fun j h=>by
   rcases h with h|⟨_,h⟩
   ·obtain⟨hw,arr,e0,h3,h4,h5,h6,h7⟩:=hSb j h
    have:hw*esz≤hw'*esz:=aeI _ h6;omega
   ·exact h⟩⟩
 exact⟨S',M',keeps,le,fun j hj=>.inr ⟨rfl,hj⟩,T⟩
theorem Mem.virgin {S:Imm} {w:World} {ι:Ix} {H:Hp} (M:Mem S w ι H) {k:Nat} (hk:ay H k=none) (esz:Nat):
 Mem S w ι (aR H k (.tok esz 0))∧∀p,Tr p S w ι H S w ι (aR H k (.tok esz 0)):=by
 have hno:=M.none_o hk;have hnt:=M.none_t hk;have get:∀k' o,ay (aR H k (.tok esz 0)) k'=some o→(k'=k∧o=.tok esz 0)∨(k'≠k∧ay H k'=some o):=by
  intro k' o h;rw[aY]at h;by_cases e:k'=k
  ·subst e;simp at h;exact .inl ⟨rfl,h.symm⟩
  ·rw[if_neg e]at h;exact .inr ⟨e,h⟩
 have up:∀k' o,ay H k'=some o→ay (aR H k (.tok esz 0)) k'=some o:=by
  intro k' o h;rw[aY];by_cases e:k'=k
  ·subst e;rw[hk]at h;cases h
  ·rw[if_neg e];exact h
 have own:∀b,owned ι (aR H k (.tok esz 0)) b→owned ι H b:=by
  rintro b ⟨k',o,h1,h2,h3⟩
  rcases get k' o h1 with⟨rfl,rfl⟩|⟨_,h⟩
  ·simp[AO.has,hnt]at h3
  ·exact⟨k',o,h,h2,h3⟩
 refine⟨⟨?_,?_,?_,?_,M.imm⟩,fun p=>⟨Bel.refl _,fun _ _ _=>rfl,.refl _ _,fun _ _ _ h=>.inl h,fun b h=>.inl (own b h),fun _ _ _ h=>h,fun _ _ b n h=>⟨b,n,h,.inl ⟨rfl,aea _⟩⟩⟩⟩
 ·intro k' o h
  rcases get k' o h with⟨rfl,rfl⟩|⟨_,h⟩
  ·exact⟨fun _=>hnt,fun h=>by omega⟩
  ·exact M.obj k' o h
 ·intro k' b h
  obtain⟨o,h1,h2⟩:=M.liveO k' b h;exact⟨o,up k' o h1,h2⟩
 ·intro k' x h
  obtain⟨o,h1,h2⟩:=M.liveT k' x h;exact⟨o,up k' o h1,h2⟩
 ·intro k1 k2 o1 o2 b h1 h2 hb1 hb2
  rcases get k1 o1 h1 with⟨rfl,rfl⟩|⟨_,h1⟩
  ·simp[AO.has,hnt]at hb1
  ·rcases get k2 o2 h2 with⟨rfl,rfl⟩|⟨_,h2⟩
   ·simp[AO.has,hnt]at hb2
   ·exact M.dist k1 k2 o1 o2 b h1 h2 hb1 hb2
theorem G7:∀(rs:List (List PV)),nZ rs→∀i,eF.inlF (rs.getD i [])=true:=by
 intro rs;induction rs with
 |nil=>intro _ i;rfl
 |cons x r ih=>
  intro h i;cases i with
  |zero=>exact h.1
  |succ i=>simpa using ih h.2 i
theorem jC {c:CL} {K:CL→Prop} (h:oI c K):∃d,K d∧d.esz=c.esz∧d.ncell=c.ncell∧∀j,j<c.ncell→∀{S:Imm} {w:World} {ι:Ix} {v:Value},Rep S w ι (c.get j) v→Rep S w noI (d.get j) v:=by
 unfold oI at h;split at h
 ·exact⟨_,h,rfl,rfl,fun j hj S w ι v hr=>by cases hr;exact .int _ _ _⟩
 ·exact⟨_,h,rfl,rfl,fun j hj S w ι v hr=>by cases hr;exact .bp _ _⟩
 ·exact⟨_,h,rfl,rfl,fun j hj S w ι v hr=>by cases hr;exact .str _ _⟩
 ·exact⟨_,h,rfl,rfl,fun j hj S w ι v hr=>hr.toNoI⟩
 ·split at h
  ·rename_i ds hds
   obtain⟨h1,h2⟩:=kg hds;exact⟨_,h,rfl,h1,fun j hj S w ι v hr=>h2 j hj hr⟩
  ·exact h.elim
 ·rename_i m rs
  refine⟨_,h.2,rfl,rfl,fun j hj S w ι v hr=>?_⟩;simp only[CL.get]at hr⊢;by_cases hl:j % m<(rs.getD (j / m) []).length
  ·exact kY (G7 rs h.1 _) _ hl hr
  ·have:aC (rs.getD (j / m) []) (j % m)=.any:=by
    generalize rs.getD (j / m) []=l at hl
    generalize j % m=q at hl
    induction l generalizing q with
    |nil=>rfl
    |cons x xs ih=>cases q with
     |zero=>simp at hl
     |succ q=>exact ih q (by simpa using hl)
   rw[this];exact .any _ _
 ·exact h.elim
def Src (S:Imm) (w:World) (d:CL) (vx:Value):Prop:=
 ∃ad cap,vx=.slice ad d.cnt cap∧∃vals:Array Value,vals.size=d.ncell∧(∀j,j<d.ncell→Rep S w noI (d.get j) (vals.getD j undef))∧
  ∀(P:Program) (w':World),w'.heap=w.heap→(Builtin.firstCells d.esz d.cnt vx).run P w'=.ok vals w'
theorem mJ {S:Imm} {w:World} {d:CL} {b off cap:Nat} (h:∀j,j<d.ncell→(rd w b (off+j)).isSome) (hr:∀j,j<d.ncell→Rep S w noI (d.get j) (rdv w b (off+j))):
 Src S w d (.slice (some ⟨b,off,none⟩) d.cnt cap):=by
 refine⟨_,_,rfl,((ael d.ncell).map fun j=>rdv w b (off+j)).toArray,by simp,fun j hj=>?_,fun P w' hw=>?_⟩
 ·have:=hr j hj
  simpa [aej,hj]using this
 ·have e:∀j,rd w' b j=rd w b j:=fun j=>by simp[rd,hw]
  have:=eT (P:=P) (w:=w') (b:=b) (off:=off) (n:=d.cnt) (size:=d.esz) (len:=d.cnt) (cap:=cap) (fun j hj=>by rw[e];exact h j (by rw[bN];exact hj))
  rw[this,bN];simp only[rdv,e]
theorem IX {S:Imm} {w:World} {d:CL} {a:Option Addr} (h:d.cnt=0):Src S w d (.slice a 0 0):=by
 have hn:d.ncell=0:=by rw[bN,h,ad9]
 exact⟨a,0,by rw[h], #[],by rw[hn];rfl,fun j hj=>by omega,fun P w' hw=>by rw[h];exact lG⟩
theorem kZ {H:Hp} {x:PV} {K:CL→List Nat→Prop} (h:wT H x K):∃d acc,K d acc∧∀{S:Imm} {w:World} {ι:Ix} {H':Hp} {vx:Value},Mem S w ι H'→(∀k∈acc,ay H' k=ay H k)→Rep S w ι x vx→Src S w d vx:=by
 unfold wT at h;split at h
 ·rename_i c t
  refine⟨_,_,h,fun M ha hr=>?_⟩;cases hr with
  |islnil _ _ _ hc=>exact IX hc
  |isl _ _ _ b off cap hc hs hh hf ho=>exact mJ (fun j hj=>M.imm _ _ (hs j hj)) hh
 ·rename_i k off n
  rw[bg]at h;obtain⟨o,ho,h⟩:=h;split at h
  ·rename_i c fz
   obtain⟨d,h,d1,d2,d3⟩:=jC h;simp only[fU,dS,aL]at h;obtain⟨h1,h2,h3⟩:=h;have h2:=aeB h2;have hcnt:(d.sub off (off+n)).cnt=n:=by rw[iy _ h1];omega
   have hnc:(d.sub off (off+n)).ncell=n:=by rw[bN,hcnt,IV,h2,aeL]
   have hdn:d.ncell=d.cnt:=by rw[bN,h2,aeL]
   refine⟨_,_,h3,fun M ha hr=>?_⟩;rename_i S w ι H' vx;have ho':=(ha k (by simp)).trans ho
   cases hr with
   |rslz _ _ _ b o' hk=>
    have:=mJ (S:=S) (w:=w) (d:=d.sub off (off+0)) (b:=b) (off:=o') (cap:=0) (fun j hj=>by omega) (fun j hj=>by omega)
    rw[hcnt]at this;exact this
   |rsl _ _ _ _ b cap hk hc _=>
    have hl:=M.lies ho' hk;have:=mJ (S:=S) (w:=w) (d:=d.sub off (off+n)) (b:=b) (off:=off) (cap:=cap)
     (fun j hj=>by have:=(hl (off+j) (by omega)).1;rwa [aeC]at this)
     (fun j hj=>by
      rw[IW d (by rw[h2,aeL];omega),h2,aeL]
      have:=d3 (off+j) (by omega) (hl (off+j) (by omega)).2
      rwa [aeC]at this)
    rw[hcnt]at this;exact this
  ·exact h.elim
 ·exact h.elim
theorem mK (l m:List PV):∀j,(j<l.length→aC (l++m) j=aC l j)∧aC (l++m) (l.length+j)=aC m j:=by
 induction l with
 |nil=>intro j;exact⟨fun h=>by simp at h,by simp⟩
 |cons x xs ih=>
  intro j;refine⟨fun h=>?_,?_⟩
  ·cases j with
   |zero=>rfl
   |succ j=>exact(ih j).1 (by simpa using h)
  ·rw[ad4,show xs.length+1+j=(xs.length+j)+1 by omega]
   exact(ih j).2
theorem qP {c d:CL} {K:CL→Prop} (h:DV c d K):∃e,K e∧e.esz=c.esz∧d.esz=c.esz∧e.cnt=c.cnt+d.cnt∧(∀j,j<c.ncell→e.get j=c.get j)∧∀j,j<d.ncell→e.get (c.ncell+j)=d.get j:=by
 unfold DV at h;split at h
 ·exact⟨_,h,rfl,rfl,by simp[CL.cnt],fun j hj=>((mK _ _ j).1 hj),fun j hj=>(mK _ _ j).2⟩
 ·rw[aL]at h
  have e:=of_decide_eq_true h.1;subst e;exact⟨_,h.2,rfl,rfl,by simp[CL.cnt],fun j hj=>by simp only[CL.ncell]at hj;simp[CL.get,afh,hj],fun j hj=>by simp[CL.get,CL.ncell,afi]⟩
 ·exact⟨_,h,rfl,rfl,by simp[CL.cnt],fun j hj=>by simp only[CL.ncell]at hj;simp[CL.get,afh,hj],fun j hj=>by simp[CL.get,CL.ncell,afi]⟩
 ·exact⟨_,h,rfl,rfl,by simp[CL.cnt],fun j hj=>by simp only[CL.ncell]at hj;simp[CL.get,afh,hj],fun j hj=>by simp[CL.get,CL.ncell,afi]⟩
 ·rw[aL]at h
  have e:=of_decide_eq_true h.1;subst e;exact⟨_,h.2,rfl,rfl,by simp[CL.cnt],fun j hj=>by simp only[CL.ncell]at hj;simp[CL.get,afh,hj],fun j hj=>by simp[CL.get,CL.ncell,afi]⟩
 ·rename_i m xs m' ys
  rw[aL]at h;have e:=aeB h.1;subst e;refine⟨_,h.2,rfl,rfl,by simp[CL.cnt],fun j hj=>?_,fun j hj=>?_⟩
  ·simp only[CL.ncell]at hj
   have hm:0<m:=by rcases aee m with h|h;(subst h;simp at hj);exact h
   have:j / m<xs.length:=by rw[aeT hm];exact hj
   simp[CL.get,afh,this]
  ·simp only[CL.ncell]at hj⊢
   have hm:0<m:=by rcases aee m with h|h;(subst h;simp at hj);exact h
   simp only[CL.get];rw[show(xs.length*m+j) / m=xs.length+j / m by rw[aeD,Nat.mul_add_div hm],show(xs.length*m+j) % m=j % m by rw[aeD,Nat.mul_add_mod]]
   simp[afi]
 ·exact h.elim
variable {P:Program} {r:Option Nat} {τ:TypeId→Option TE}
theorem jQ {ι:Ix} {H H':Hp} (h:∀k,ay H k=ay H' k) (b:Nat):owned ι H b↔owned ι H' b:=by
 simp only[owned,h]
theorem Mem.congr {S:Imm} {w:World} {ι:Ix} {H H':Hp} (h:∀k,ay H k=ay H' k) (M:Mem S w ι H):Mem S w ι H':=
 ⟨fun k o ho=>M.obj k o ((h k).trans ho),fun k b hb=>by obtain⟨o,h1,h2⟩:=M.liveO k b hb;exact⟨o,(h k).symm.trans h1,h2⟩,
  fun k b hb=>by obtain⟨o,h1,h2⟩:=M.liveT k b hb;exact⟨o,(h k).symm.trans h1,h2⟩,
  fun k k' o o' b h1 h2=>M.dist k k' o o' b ((h k).trans h1) ((h k').trans h2),M.imm⟩
theorem Tr.congr {p:Nat} {S S':Imm} {w w':World} {ι ι':Ix} {H H' H1:Hp} (h:∀k,ay H k=ay H1 k) (t:Tr p S w ι H S' w' ι' H'):Tr p S w ι H1 S' w' ι' H':=
 ⟨t.below,fun b hb ho=>t.same b hb (fun h'=>ho ((jQ h b).1 h')),t.keeps,fun b j hb hs=>Or.imp id (fun h'=>(jQ h b).1 h') (t.immN b j hb hs),
  fun b ho=>Or.imp (fun h'=>(jQ h b).1 h') id (t.own b ho),t.protO,t.protT⟩
theorem Tr.congr' {p:Nat} {S S':Imm} {w w':World} {ι ι':Ix} {H H' H1:Hp} (h:∀k,ay H' k=ay H1 k) (t:Tr p S w ι H S' w' ι' H'):Tr p S w ι H S' w' ι' H1:=
 ⟨t.below,t.same,t.keeps,t.immN,fun b ho=>t.own b ((jQ h b).2 ho),t.protO,t.protT⟩
theorem BP {H:Hp} {k:Nat} {o:AO} (h:ay H k=some o) (k':Nat):ay H k'=ay (aR H k o) k':=by
 rw[aY];by_cases e:k'=k
 ·subst e;simp[h]
 ·simp[e]
def gX (P:Program) (S:Imm) (w:World) (ι:Ix) (H:Hp) (s:Sem Value) (v:PV) (sets:List (Nat × AO)):Prop:=
 ∃val S' w' ι',s.run P w=.ok val w'∧Mem S' w' ι' (aX H sets)∧ι.le ι'∧Keeps S w S' w'∧Rep S' w' ι' v val∧∀p,Tr p S w ι H S' w' ι' (aX H sets)
theorem gX.same {S:Imm} {w:World} {ι:Ix} {H:Hp} {s:Sem Value} {v:PV} {val:Value} (M:Mem S w ι H) (h:s.run P w=.ok val w) (hr:Rep S w ι v val):gX P S w ι H s v []:=
 ⟨val,S,w,ι,h,M,.refl _,.refl _ _,hr,fun p=>.refl _ _ _ _ _⟩
theorem gX.again {S:Imm} {w:World} {ι:Ix} {H:Hp} {s:Sem Value} {v:PV} {val:Value} {k:Nat} {ob:AO} (hk:ay H k=some ob) (M:Mem S w ι H) (h:s.run P w=.ok val w) (hr:Rep S w ι v val):gX P S w ι H s v [(k,ob)]:=
 ⟨val,S,w,ι,h,M.congr (BP hk),.refl _,.refl _ _,hr,fun p=>(Tr.refl _ _ _ _ _).congr' (BP hk)⟩
theorem gX.virgin {S:Imm} {w:World} {ι:Ix} {H:Hp} {s:Sem Value} {v:PV} {val:Value} {k:Nat} (hk:ay H k=none) (esz:Nat) (M:Mem S w ι H) (h:s.run P w=.ok val w) (hr:Rep S w ι v val):gX P S w ι H s v [(k,.tok esz 0)]:=
 ⟨val,S,w,ι,h,(M.virgin hk esz).1,.refl _,.refl _ _,hr,(M.virgin hk esz).2⟩
structure Row (S:Imm) (w:World) (esz:Nat) (n:Nat) (g:Nat→PV) (vs:Value) (vals:Array Value):Prop where
 size:vals.size=n*esz
 rep:∀j,j<n*esz→Rep S w noI (g j) (vals.getD j undef)
 run:∀(P:Program) (w':World),w'.heap=w.heap→(Builtin.firstCells esz n vs).run P w'=.ok vals w'
theorem wY (hτ:aV P τ) {t u ty e:TypeId} {tt tu te:TE} (ht:τ t=some tt) (hu:τ u=some tu) (he:τ e=some te) (hd:tt.und=.slice e) {e':TypeId} (hd':tu.und=.slice e')
 {S:Imm} {w:World} {ι:Ix} {H:Hp} (M:Mem S w ι H) {k:Nat} (hk:ay H k=none∨∃hw,ay H k=some (.tok te.size hw)) {base xb:Option Addr} {cn sCap dn xc:Nat}
 (hlt:∀b0 hw,ι.t k=some (b0,hw)→hw<cn+dn) (hgrow:sCap<cn+dn) (hbd:cn+dn≤1073741824) (hby:te.bytes≤65536) {E:CL} (hE:E.cnt=cn+dn) (hEs:E.esz=te.size)
 {old new:Array Value} (ho:Row S w te.size cn E.get (.slice base cn sCap) old) (hn:Row S w te.size dn (fun j=>E.get (cn*te.size+j)) (.slice xb dn xc) new):
 gX P S w ι H (Builtin.append_ #[t,u] ty #[.slice base cn sCap,.slice xb dn xc]) (.isl E (.own k)) [(k,.tok te.size (cn+dn))]:=by
 obtain⟨cap',hcap,hrun⟩:=run_append_grow (ty:=ty) hτ ht hu he hd hd' hgrow hbd hby (ho.run P {w with drawn:=w.drawn+1} rfl) (hn.run P {w with drawn:=w.drawn+1} rfl);have hEn:E.ncell=(cn+dn)*te.size:=by rw[bN,hE,hEs]
 have hzc:te.zero.cells.size=te.size:=hτ.zsz _ _ he;have e1:∀{arr:Array Value} {e0:TypeId},({({w with drawn:=w.drawn+1}:World)with heap:=w.heap.push (.cells arr e0)}:World).heap=w.heap.push (.cells arr e0):=rfl;generalize hzz:Builtin.zeroCells te.zero.cells (cap'-(cn+dn))=zz at hrun
 have hzs:zz.size=(cap'-(cn+dn))*te.size:=by
  rw[←hzz];simp[Builtin.zeroCells,hzc]
 have hsz:(old++new++zz).size=cap'*te.size:=by
  simp only[ae3,ho.size,hn.size,hzs,←aeJ];congr 1;omega
 have hle:(cn+dn)*te.size≤cap'*te.size:=aeI _ hcap;generalize hw':({({w with drawn:=w.drawn+1}:World)with heap:=w.heap.push (.cells (old++new++zz) e)}:World)=w' at hrun
 have hheap:w'.heap=w.heap.push (.cells (old++new++zz) e):=by rw[←hw']
 have hbelow:Bel w w':=by
  refine .block w.heap.size (by rw[←hw']) (by rw[←hw']) (by rw[←hw']) (by rw[←hw'];simp) (fun b' hb'=>by rw[hheap,aef,if_neg hb']) (by rw[aec (aea _)];exact lJ) (by rw[hheap];simp;exact fu _ _)
 have hnew:w'.heap[w.heap.size]? =some (.cells (old++new++zz) e (0,0)):=by rw[hheap];simp
 obtain⟨S',M',K',L',hS,T⟩:=M.tokStep (k:=k) (b:=w.heap.size) (esz:=te.size) (hw':=cn+dn) hbelow (fun b' hb' _=>by rw[hheap,aef];rw[if_neg (by omega)]) hnew (by omega) (by omega) hk
  (fun b0 hw h=>.inr (hlt b0 hw h)) (.inl (aea _))
 refine⟨_,S',w',_,hrun,M',L',K',?_,T⟩;have hval:∀j,j<(cn+dn)*te.size→Rep S w noI (E.get j) (rdv w' w.heap.size j):=by
  intro j hj;rw[rdv,aN hnew];by_cases h:j<cn*te.size
  ·have:=ho.rep j h
   rw[aej]at this;rw[afj (by simp only[ae3,ho.size];omega),afj (by rw[ho.size];omega)]
   exact this
  ·have h2:j-cn*te.size<dn*te.size:=by rw[aeJ]at hj;omega
   have:=hn.rep (j-cn*te.size) h2;rw[aej,show cn*te.size+(j-cn*te.size)=j by omega]at this
   rw[afj (by simp only[ae3,ho.size,hn.size];omega),afk (by rw[ho.size];omega),ho.size]
   exact this
 have:=Rep.isl (S:=S') (w:=w') (ι.sett k w.heap.size (cn+dn)) E (.own k) w.heap.size 0 cap' (by omega) (fun j hj=>by rw[aeC];exact hS j (by omega))
  (fun j hj=>by rw[aeC];exact(hval j (by omega)).mono K' _ (.refl _)) (fun h=>by cases h)
  (fun k' h=>by
   cases h
   exact .inr ⟨w.heap.size,cn+dn,by simp[Ix.sett],by omega,.inl ⟨rfl,rfl,fun j hj=>by
    rw[aN hnew,aeg (by rw[hsz,←hEs];exact hj)];rfl⟩⟩)
 rw[hE]at this;exact this
theorem Src.row {S:Imm} {w:World} {d:CL} {vx:Value} (h:Src S w d vx):∃ad cap vals,vx=.slice ad d.cnt cap∧Row S w d.esz d.cnt d.get (.slice ad d.cnt cap) vals:=by
 obtain⟨ad,cap,rfl,vals,h1,h2,h3⟩:=h;exact⟨ad,cap,vals,rfl,⟨by rw[h1,bN],fun j hj=>h2 j (by rw[bN];exact hj),h3⟩⟩
theorem yM {S:Imm} {w:World} {ι:Ix} {H:Hp} (M:Mem S w ι H) {c:CL} {t:Tok} {v:Value} (h:Rep S w ι (.isl c t) v):Src S w c v:=by
 cases h with
 |islnil _ _ _ hc=>exact IX hc
 |isl _ _ _ b off cap hc hs hh hf ho=>exact mJ (fun j hj=>M.imm _ _ (hs j hj)) hh
theorem G8 {m:Nat}:∀(rs:List (List PV)),zQ m rs→∀i,i<rs.length→mR (rs.getD i [])=true∧(rs.getD i []).length=m:=by
 intro rs;induction rs with
 |nil=>intro _ i hi;simp at hi
 |cons r rs ih=>
  intro h i hi;cases i with
  |zero=>have:=h.1;rw[aeA]at this;exact⟨this.2,aeB this.1⟩
  |succ i=>simpa using ih h.2 i (by simpa using hi)
theorem Eh {d:CL} {K:Prop} (h:J7 d K):K∧∀j,j<d.ncell→one (d.get j)=true:=by
 unfold J7 at h;split at h
 ·rw[aL]at h
  exact⟨h.2,fun j hj=>nQ _ h.1 j hj⟩
 ·exact⟨h,fun j _=>rfl⟩
 ·exact⟨h,fun j _=>rfl⟩
 ·exact⟨h,fun j _=>rfl⟩
 ·exact⟨h,fun j _=>rfl⟩
 ·rename_i m rs
  refine⟨h.2,fun j hj=>?_⟩;simp only[CL.ncell]at hj;have hm:0<m:=by rcases aee m with h|h;(subst h;simp at hj);exact h
  have h1:j / m<rs.length:=by rw[aeT hm];exact hj
  obtain⟨g1,g2⟩:=G8 rs h.1 _ h1;exact nQ _ g1 _ (by rw[g2];exact afa _ hm)
 ·exact h.elim
theorem VH (hτ:aV P τ) {t u ty e:TypeId} {tt tu te:TE} (ht:τ t=some tt) (hu:τ u=some tu) (he:τ e=some te) (hd:tt.und=.slice e) {e':TypeId} (hd':tu.und=.slice e')
 {S:Imm} {w:World} {ι:Ix} {H:Hp} (M:Mem S w ι H) {k hw b:Nat} (hk:ay H k=some (.tok te.size hw)) (hb:ι.t k=some (b,hw)) {xb:Option Addr} {cap dn xc:Nat}
 (hfit:hw+dn≤cap) (hcells:∀j,j<cap*te.size→(rd w b j).isSome) (hpos:0<hw) {E:CL} (hE:E.cnt=hw+dn) (hEs:E.esz=te.size)
 (hold:∀j,j<hw*te.size→S b j∧Rep S w noI (E.get j) (rdv w b j)) {new:Array Value} (hone:∀j,j<dn*te.size→one (E.get (hw*te.size+j))=true)
 (hn:Row S w te.size dn (fun j=>E.get (hw*te.size+j)) (.slice xb dn xc) new):
 gX P S w ι H (Builtin.append_ #[t,u] ty #[.slice (some ⟨b,0,none⟩) hw cap,.slice xb dn xc]) (.isl E (.own k)) [(k,.tok te.size (hw+dn))]:=by
 have hEn:E.ncell=(hw+dn)*te.size:=by rw[bN,hE,hEs]
 obtain⟨_,g⟩:=M.obj k _ hk;obtain⟨b',arr,e0,g1,g2,g3⟩:=g hpos;rw[hb]at g1;cases g1
 have hsz:cap*te.size≤arr.size:=by
  rcases aee (cap*te.size)with h|h
  ·omega
  ·have:=hcells (cap*te.size-1) (by omega)
   rw[aN g2]at this;rcases aeb (cap*te.size-1) arr.size with h1|h1
   ·omega
   ·rw[aec h1]at this;simp at this
 have hle:(hw+dn)*te.size≤cap*te.size:=aeI _ hfit;have hadd:(hw+dn)*te.size=hw*te.size+dn*te.size:=aeJ _ _ _;have honeV:∀v∈new.toList,v.oneCell'=true:=by
  intro v hv;obtain⟨i,hi,rfl⟩:=aeu hv;have hi':i<dn*te.size:=by rw[←hn.size];simpa using hi
  have:=(hn.rep i hi').oneCell (hone i hi');simpa [aej,aeg (show i<new.size by simpa using hi)]using this
 obtain⟨w',r1,uu⟩:=dW P new.toList (o:=hw*te.size) (i:=0) g2 honeV (by simp[hn.size];omega)
 have hput:∀j,(putRow arr (hw*te.size+0) new.toList).getD j undef=if hw*te.size≤j∧j<hw*te.size+dn*te.size then new.getD (j-hw*te.size) undef else arr.getD j undef:=by
  intro j;rw[iP _ _ _ _ (by simp[hn.size];omega)]
  simp only[adZ,aeO,hn.size];congr 1;simp[aej]
 have hsz':(putRow arr (hw*te.size+0) new.toList).size=arr.size:=dX _ _ _;obtain⟨S',M',K',L',hS,T⟩:=M.tokStep (k:=k) (b:=b) (esz:=te.size) (hw':=hw+dn) uu.below (fun b' _ hb'=>uu.other b' hb') uu.here (by omega) (by omega) (.inr ⟨hw,hk⟩)
  (fun b0 hw0 h=>by rw[hb]at h;cases h;exact .inl ⟨rfl,by omega⟩) (.inr ⟨hw,arr,e0,hk,hb,g2,by omega,fun j hj=>by
   have:=hput j;rw[if_neg (by omega)]at this
   have hj1:j<arr.size:=by omega
   simp only[aej,aeg hj1,aeg (show j<(putRow arr (hw*te.size+0) new.toList).size by omega),afl]at this
   rw[aeg hj1,aeg (by omega),this]⟩)
 have hrun:=jP (ty:=ty) (w':=w') hτ ht hu he hd hd' (base:=some ⟨b,0,none⟩) (sLen:=hw) (sCap:=cap) hfit (hn.run P w rfl) (by simpa [dN]using r1)
 refine⟨_,S',w',_,hrun,M',L',K',?_,T⟩;have:=Rep.isl (S:=S') (w:=w') (ι.sett k b (hw+dn)) E (.own k) b 0 cap (by omega) (fun j hj=>by rw[aeC];exact hS j (by omega))
  (fun j hj=>by
   rw[aeC];by_cases h:j<hw*te.size
   ·obtain⟨h1,h2⟩:=hold j h
    have:=h2.mono K' _ (.refl _);rw[rdv,(K'.imm b j h1).2];exact this
   ·have h2:j-hw*te.size<dn*te.size:=by omega
    have:=(hn.rep _ h2).mono K' _ (.refl _);rw[show hw*te.size+(j-hw*te.size)=j by omega]at this
    have h3:=hput j;rw[if_pos (by omega)]at h3
    rw[rdv,aN uu.here,←aej,h3];exact this) (fun h=>by cases h)
  (fun k' h=>by
   cases h
   exact .inr ⟨b,hw+dn,by simp[Ix.sett],by omega,.inl ⟨rfl,rfl,fun j hj=>K'.cells _ _ (hcells j (by rw[←hEs];exact hj))⟩⟩)
 rw[hE]at this;exact this
theorem Rep.islSlice {S:Imm} {w:World} {ι:Ix} {c:CL} {t:Tok} {v:Value} (h:Rep S w ι (.isl c t) v):∃ad cap,v=.slice ad c.cnt cap:=by
 cases h with
 |islnil _ _ _ hc=>exact⟨_,0,by rw[hc]⟩
 |isl _ _ _ b off cap=>exact⟨_,_,rfl⟩
theorem Rep.islCap {S:Imm} {w:World} {ι:Ix} {c:CL} {t:Tok} {v:Value} (h:Rep S w ι (.isl c t) v):∃ad cap,v=.slice ad c.cnt cap∧c.cnt≤cap:=by
 cases h with
 |islnil _ _ _ hc=>exact⟨_,0,by rw[hc],by omega⟩
 |isl _ _ _ b off cap hc=>exact⟨_,_,rfl,hc⟩
theorem Rep.rslSlice {S:Imm} {w:World} {ι:Ix} {k off n:Nat} {v:Value} (h:Rep S w ι (.rsl k off n) v):∃ad cap,v=.slice ad n cap:=by
 cases h<;>exact⟨_,_,rfl⟩
theorem mV (hτ:aV P τ) {t u ty e:TypeId} {tt tu te:TE} (ht:τ t=some tt) (hu:τ u=some tu) (he:τ e=some te) (hd:tt.und=.slice e) {e':TypeId} (hd':tu.und=.slice e') (hby:te.bytes≤65536)
 {H:Hp} {n:Nat} {s x:PV} {K:KR} (h:lT te H n s x K):
 ∃v sets accs news,K v sets accs news∧∀{S:Imm} {w:World} {ι:Ix} {H':Hp} {vs vx:Value},Mem S w ι H'→Rep S w ι s vs→Rep S w ι x vx→(∀k∈accs,ay H' k=ay H k)→(∀k∈news,ay H' k=none)→
  gX P S w ι H' (Builtin.append_ #[t,u] ty #[vs,vx]) v sets:=by
 have nil0:∀{base:Option Addr} {sLen sCap:Nat} (w:World),sLen≤sCap→∀{xb:Option Addr} {xc:Nat},(Builtin.firstCells te.size 0 (.slice xb 0 xc)).run P w=.ok #[] w→
  (Builtin.append_ #[t,u] ty #[.slice base sLen sCap,.slice xb 0 xc]).run P w=.ok (.slice base sLen sCap) w:=by
  intro base sLen sCap w hle xb xc hf;have:=jP (ty:=ty) (w':=w) hτ ht hu he hd hd' (base:=base) (sLen:=sLen) (sCap:=sCap) (n:=0) (xb:=xb) (xc:=xc) (by omega) hf (by cases base<;>rfl)
  simpa using this
 have row0:∀{S:Imm} {w:World} {esz:Nat} {g:Nat→PV} {vx:Value} {vals:Array Value},Row S w esz 0 g vx vals→(Builtin.firstCells esz 0 vx).run P w=.ok #[] w:=by
  intro S w esz g vx vals h;have:=h.run P w rfl;have hs:=h.size;rw[ad9]at hs;rw[Array.eq_empty_of_size_eq_zero hs]at this;exact this
 unfold lT IE at h;split at h
 ·
  split at h
  ·refine⟨_,_,_,_,h,fun M hs hx ha hn=>?_⟩
   cases hs;cases hx
   exact .same M (nil0 _ (aea _) rfl) (.nils _)
  ·obtain⟨d,acc,h,hd0⟩:=kZ h
   simp only[dS,fU,cZ,aL]at h;obtain⟨hfr,hbd,hez,hK⟩:=h;have hez:=aeB hez;refine⟨_,_,_,_,hK,fun M hs hx ha hn=>?_⟩;rename_i S w ι H' vs vx;have hno:=hn n (by simp)
   have hsrc:=hd0 M ha hx;obtain⟨ad,cap,vals,rfl,hrow⟩:=hsrc.row;cases hs
   by_cases h0:d.cnt=0
   ·rw[h0]at hrow⊢
    rw[hez];rw[hez]at hrow;exact .virgin hno _ M (nil0 _ (aea _) (row0 hrow)) (.islnil _ _ _ h0)
   ·have:=wY (ty:=ty) hτ ht hu he hd hd' M (k:=n) (.inl hno) (base:=none) (xb:=ad) (cn:=0) (sCap:=0) (dn:=d.cnt) (xc:=cap) (fun b0 hw hh=>by rw[M.none_t hno]at hh;cases hh) (by omega) (by omega) hby
     (E:=d) (by omega) hez (old:= #[]) ⟨by simp,fun j hj=>by simp at hj,fun P w' hw=>rfl⟩ (new:=vals) (by
      rw[hez]at hrow;refine⟨hrow.size,fun j hj=>?_,hrow.run⟩;rw[ad9,aeC];exact hrow.rep j hj)
    rw[aeC]at this;rw[hez];exact this
 ·rename_i c tk
  split at h
  ·
   simp only[dS,fU,aL]at h;obtain⟨hbd,hez,hK⟩:=h;refine⟨_,_,_,_,hK,fun M hs hx ha hn=>?_⟩;cases hx
   obtain⟨ad,cap,e1,hcap⟩:=hs.islCap;subst e1;exact .same M (nil0 _ hcap rfl) hs.drop
  ·have h':=kZ h
   clear h;obtain⟨d,acc,h,hd0⟩:=h';split at h
   ·
    rename_i k;rw[bg]at h;obtain⟨ob,hob,h⟩:=h;split at h
    ·rename_i m hw
     simp only[dS,fU,aL]at h;obtain⟨hhw,hm,h⟩:=h;have hm:=aeB hm;obtain⟨h,hone⟩:=Eh h;obtain⟨E,h,a1,a2,a3,a4,a5⟩:=qP h;try simp only[dS,fU,aL]at h
     obtain⟨hbd,hez,hK⟩:=h;have hez:=aeB hez;refine⟨_,_,_,_,hK,fun M hs hx ha hn=>?_⟩;rename_i S w ι H' vs vx;have hobj:=(ha k (by simp)).trans hob
     have hsrc:=hd0 M (fun k' hk'=>ha k' (by simp[hk'])) hx
     obtain⟨ad,xcap,vals,rfl,hrow⟩:=hsrc.row;have hde:d.esz=te.size:=by omega
     have hce:c.esz=te.size:=by omega
     rw[hde]at hrow;have hm':m=te.size:=by omega
     subst hm';obtain⟨o1,o2⟩:=M.obj k _ hobj;have hcn:c.ncell=c.cnt*te.size:=by rw[bN,hce]
     have hdn:d.ncell=d.cnt*te.size:=by rw[bN,hde]
     have hrow':Row S w te.size d.cnt (fun j=>E.get (c.cnt*te.size+j)) (.slice ad d.cnt xcap) vals:=
      ⟨hrow.size,fun j hj=>by rw[←hcn,a5 j (by omega)];exact hrow.rep j hj,hrow.run⟩
     have hold:∀{base cap},Row S w te.size c.cnt c.get (.slice base c.cnt cap) (vals)∨True→True:=fun _=>trivial;have grow:∀{base:Option Addr} {cap:Nat},Rep S w ι (.isl c (.own k)) (.slice base c.cnt cap)→cap<c.cnt+d.cnt→0<d.cnt→
      gX P S w ι H' (Builtin.append_ #[t,u] ty #[.slice base c.cnt cap,.slice ad d.cnt xcap]) (.isl E (.own k)) [(k,.tok te.size (hw+d.cnt))]:=by
      intro base cap hr hlt hpos;obtain⟨ad2,cap2,vals2,e1,hrow2⟩:=(yM M hr).row;cases e1
      rw[hce]at hrow2;have:=wY (ty:=ty) hτ ht hu he hd hd' M (k:=k) (.inr ⟨hw,hobj⟩) (base:=base) (xb:=ad) (cn:=c.cnt) (sCap:=cap) (dn:=d.cnt) (xc:=xcap) (fun b0 hw0 hh=>by
       rcases aee hw with hz|hz
       ·rw[o1 hz]at hh;cases hh
       ·obtain⟨b',arr,e0,g1,g2,g3⟩:=o2 hz
        rw[hh]at g1;cases g1;omega) hlt (by omega) hby (E:=E) a3 hez (old:=vals2)
       ⟨hrow2.size,fun j hj=>by rw[a4 j (by omega)];exact hrow2.rep j hj,hrow2.run⟩ hrow'
      rw[←hhw]at this⊢;exact this
     cases hs with
     | @islnil _ _ _ a0 hc=>
      by_cases h0:d.cnt=0
      ·rw[h0]at hrow⊢
       refine .again hobj M (nil0 _ (aea _) (row0 hrow)) (.islnil _ _ _ (by omega))
      ·have:=grow (base:=a0) (cap:=0) (by rw[hc];exact .islnil _ _ _ hc) (by omega) (by omega)
       rw[hc]at this;exact this
     |isl _ _ _ b off cap hc hss hh hf ho=>
      have hr:=Rep.isl (S:=S) (w:=w) ι c (.own k) b off cap hc hss hh hf ho;by_cases hfit:c.cnt+d.cnt≤cap
      ·by_cases h0:d.cnt=0
       ·rw[h0]at hrow⊢
        refine .again hobj M (nil0 _ hc (row0 hrow)) ?_;have hEc:E.cnt=c.cnt:=by omega
        have hEn:E.ncell=c.ncell:=by rw[bN,bN,hEc,a1]
        have:=Rep.isl (S:=S) (w:=w) ι E (.own k) b off cap (by omega) (fun j hj=>hss j (by omega)) (fun j hj=>by rw[a4 j (by omega)];exact hh j (by omega)) (fun h=>by cases h)
         (fun k' hk'=>by rw[hEc,a1];exact ho k' hk')
        rw[hEc]at this;exact this
       ·rcases ho k rfl with hz|⟨b1,n1,g1,g2,g3⟩
        ·omega
        ·rcases aee hw with hz|hz
         ·rw[o1 hz]at g1;cases g1
         ·obtain⟨b',arr,e0,q1,q2,q3⟩:=o2 hz
          rw[g1]at q1;cases q1
          rcases g3 with⟨rfl,rfl,g3⟩|g3
          ·subst hhw
           refine VH (ty:=ty) hτ ht hu he hd hd' M hobj g1 hfit (fun j hj=>g3 j (by rw[hce];exact hj)) hz a3 hez (fun j hj=>?_) (fun j hj=>?_) hrow'
           ·rw[a4 j (by omega)]
            have h1:=hss j (by omega)
            have h2:=hh j (by omega)
            rw[aeC]at h1 h2;exact⟨h1,h2⟩
           ·rw[←hcn,a5 j (by omega)];exact hone j (by omega)
          ·omega
      ·exact grow hr (by omega) (by omega)
    ·exact h.elim
   ·
    simp only[dS,fU]at h;obtain⟨hor,h⟩:=h;obtain⟨E,h,a1,a2,a3,a4,a5⟩:=qP h;simp only[dS,fU,aL,cZ]at h;obtain⟨hfr,hbd,hez,hK⟩:=h;have hez:=aeB hez;refine⟨_,_,_,_,hK,fun M hs hx ha hn=>?_⟩;rename_i S w ι H' vs vx;have hno:=hn n (by simp)
    have hsrc:=hd0 M ha hx;obtain⟨ad,xcap,vals,rfl,hrow⟩:=hsrc.row;have hde:d.esz=te.size:=by omega
    have hce:c.esz=te.size:=by omega
    rw[hde]at hrow;have hcn:c.ncell=c.cnt*te.size:=by rw[bN,hce]
    have hdn:d.ncell=d.cnt*te.size:=by rw[bN,hde]
    have hrow':Row S w te.size d.cnt (fun j=>E.get (c.cnt*te.size+j)) (.slice ad d.cnt xcap) vals:=
     ⟨hrow.size,fun j hj=>by rw[←hcn,a5 j (by omega)];exact hrow.rep j hj,hrow.run⟩
    have hcap:∃base,vs=.slice base c.cnt c.cnt:=by
     cases hs with
     |islnil _ _ _ hc=>exact⟨_,by rw[hc]⟩
     |isl _ _ _ b off cap hc hss hh hf ho=>exact⟨_,by rw[hf rfl]⟩
    obtain⟨base,rfl⟩:=hcap;obtain⟨ad2,cap2,vals2,e1,hrow2⟩:=(yM M hs).row;cases e1
    rw[hce]at hrow2;rw[hez,a3];by_cases h0:d.cnt=0
    ·have hc0:c.cnt=0:=by omega
     have hE0:E.cnt=0:=by omega
     rw[h0]at hrow⊢;rw[show c.cnt+0=0 by omega]
     refine .virgin hno _ M (nil0 _ (aea _) (row0 hrow)) ?_;have key:∀vs:Value,Rep S w ι (.isl c .full) vs→Rep S w ι (.isl E (.own n)) vs:=by
      intro vs hs;cases hs with
      |islnil _ _ _ hc=>exact .islnil _ _ _ hE0
      |isl _ _ _ b off cap hc hss hh hf ho=>
       have:=Rep.isl (S:=S) (w:=w) ι E (.own n) b off 0 (by omega) (fun j hj=>by rw[bN,hE0]at hj;omega) (fun j hj=>by rw[bN,hE0]at hj;omega) (fun h=>by cases h) (fun _ _=>.inl rfl)
       rw[hE0]at this;rw[hf rfl,hc0];exact this
     exact key _ hs
    ·exact wY (ty:=ty) hτ ht hu he hd hd' M (k:=n) (.inl hno) (base:=base) (xb:=ad) (cn:=c.cnt) (sCap:=c.cnt) (dn:=d.cnt) (xc:=xcap) (fun b0 hw hh=>by rw[M.none_t hno]at hh;cases hh) (by omega) (by omega) hby
      (E:=E) a3 hez (old:=vals2) ⟨hrow2.size,fun j hj=>by rw[a4 j (by omega)];exact hrow2.rep j hj,hrow2.run⟩ hrow'
   ·exact h.elim
 ·exact h.elim
variable {P:Program} {r:Option Nat} {τ:TypeId→Option TE}
abbrev dead:AO:=.cells (.pv []) true
theorem Mem.cells_t {S:Imm} {w:World} {ι:Ix} {H:Hp} (M:Mem S w ι H) {k:Nat} {o:AO} (h:ay H k=some o) (ho:o.isTok=false):ι.t k=none:=by
 cases et:ι.t k with
 |none=>rfl
 |some x=>obtain⟨o',g1,g2⟩:=M.liveT k x et;rw[h]at g1;cases g1;rw[ho]at g2;cases g2
theorem Mem.move {S:Imm} {w:World} {ι:Ix} {H:Hp} (M:Mem S w ι H) {k n b:Nat} {c:CL} (hk:ay H k=some (.cells c false)) (hn:ay H n=none) (hb:ι.o k=some b):
 Mem S w (ι.seto n b) (aR (aR H k dead) n (.cells c false))∧ι.le (ι.seto n b)∧∀p,Tr p S w ι H S w (ι.seto n b) (aR (aR H k dead) n (.cells c false)):=by
 have hno:=M.none_o hn;have hle:ι.le (ι.seto n b):=jg hno;have hkn:k≠n:=fun e=>by subst e;rw[hk]at hn;cases hn
 have get:∀k',ay (aR (aR H k dead) n (.cells c false)) k'=if k'=n then some (.cells c false)else if k'=k then some dead else ay H k':=fun k'=>by rw[aY,aY]
 have so:∀k',k'≠n→(ι.seto n b).o k'=ι.o k':=fun k' e=>by simp[Ix.seto,e]
 have sn:(ι.seto n b).o n=some b:=by simp[Ix.seto]
 have hhas:∀k' o b',k'≠n→(AO.has (ι.seto n b) k' o b'↔AO.has ι k' o b'):=by
  intro k' o b' e;have et:(ι.seto n b).t k'=ι.t k':=rfl;have ex:(ι.seto n b).x k'=ι.x k':=rfl;cases o<;>simp only[AO.has,so k' e,et,ex]
 refine⟨⟨fun k' o ho=>?_,fun k' b' h=>?_,fun k' x h=>?_,fun k1 k2 o1 o2 b' h1 h2 b1 b2=>?_,M.imm⟩,hle,fun p=>⟨.refl _,fun _ _ _=>rfl,.refl _ _,fun _ _ _ h=>.inl h,?_,fun k' _ b' h=>hle.o k' b' h,fun k' _ b' n' h=>hle.t k' b' n' h⟩⟩
 ·rw[get]at ho
  split at ho
  ·rename_i e;subst e;cases ho
   obtain⟨b0,arr,e0,g1,g2,g3,g4,g5⟩:=M.obj k _ hk;rw[hb]at g1;cases g1
   exact⟨b,arr,e0,sn,g2,g3,fun j hj=>(g4 j hj).mono (.refl _ _) _ hle,g5⟩
  ·rename_i e
   split at ho
   ·rename_i e2;subst e2;cases ho
    exact⟨b,by rw[so _ e];exact hb,fun j hj=>by simp[CL.ncell]at hj⟩
   ·exact(M.obj k' o ho).mono (.refl _ _) hle (.refl _) (fun _ _=>rfl) (fun _=>rfl) rfl (fun _ _ _ h=>h)
 ·rw[get]
  by_cases e:k'=n
  ·rw[if_pos e];exact⟨_,rfl,rfl⟩
  ·rw[if_neg e]
   rw[so _ e]at h;by_cases e2:k'=k
   ·rw[if_pos e2];exact⟨_,rfl,rfl⟩
   ·rw[if_neg e2];exact M.liveO k' b' h
 ·rw[get]
  have h:ι.t k'=some x:=h;by_cases e:k'=n
  ·subst e;have h2:ι.t k'=some x:=h;rw[M.none_t hn]at h2;cases h2
  ·rw[if_neg e]
   by_cases e2:k'=k
   ·subst e2;have h2:ι.t k'=some x:=h;rw[M.cells_t hk rfl]at h2;cases h2
   ·rw[if_neg e2];exact M.liveT k' x h
 ·rw[get]at h1 h2
  have main:∀k2 o2,k2≠n→(if k2=k then some dead else ay H k2)=some o2→AO.has (ι.seto n b) k2 o2 b→False:=by
   intro k2 o2 e h2 b2;split at h2
   ·cases h2;exact b2.elim
   ·rename_i e2
    rw[hhas _ _ _ e]at b2;exact e2 (M.dist k2 k o2 _ b h2 hk b2 hb)
  by_cases e1:k1=n
  ·subst e1
   rw[if_pos rfl]at h1;cases h1
   simp only[AO.has,sn]at b1;cases b1
   by_cases e2:k2=k1
   ·exact e2.symm
   ·rw[if_neg e2]at h2;exact(main k2 o2 e2 h2 b2).elim
  ·rw[if_neg e1]at h1
   by_cases e2:k2=n
   ·subst e2
    rw[if_pos rfl]at h2;cases h2
    simp only[AO.has,sn]at b2;cases b2
    exact(main k1 o1 e1 h1 b1).elim
   ·rw[if_neg e2]at h2
    rw[hhas _ _ _ e1]at b1;rw[hhas _ _ _ e2]at b2;split at h1
    ·cases h1;exact b1.elim
    ·split at h2
     ·cases h2;exact b2.elim
     ·exact M.dist k1 k2 o1 o2 b' h1 h2 b1 b2
 ·rintro b' ⟨k',o,h1,h2,h3⟩
  rw[get]at h1;split at h1
  ·rename_i e;subst e;cases h1
   simp only[AO.has,sn]at h3;cases h3
   exact .inl ⟨k,_,hk,rfl,hb⟩
  ·rename_i e
   rw[hhas _ _ _ e]at h3;split at h1
   ·cases h1;exact h3.elim
   ·exact .inl ⟨k',o,h1,h2,h3⟩
theorem Mem.drop {S:Imm} {w:World} {ι:Ix} {H:Hp} (M:Mem S w ι H) {k:Nat} {c:CL} (hk:ay H k=some (.cells c false)):
 Mem S w ι (aR H k dead)∧∀p,Tr p S w ι H S w ι (aR H k dead):=by
 obtain⟨b,arr,e,h1,h2,h3,h4,h5⟩:=M.obj k _ hk;exact M.step1 (b:=b) (.refl _) (fun _ _ _=>rfl) (.refl _ _) (fun b' j h=>.inl h) (fun j hs=>absurd hs (h5 j)) (.refl _) (fun _ _=>rfl) (fun _ _=>rfl) rfl
  (.inr ⟨_,hk,rfl,h1⟩) (fun b' h=>h.elim) (by simp[AO.isTok]) (fun _=>M.cells_t hk rfl) ⟨b,h1,fun j hj=>by simp[CL.ncell]at hj⟩
theorem Mem.new' {S:Imm} {w w':World} {ι:Ix} {H:Hp} (M:Mem S w ι H) {k:Nat} (hk:ay H k=none) {c:CL} {arr:Array Value} {e:TypeId} (hheap:w'.heap=w.heap.push (.cells arr e)) (hbelow:Bel w w')
 (hn:c.ncell≤arr.size) (hc:∀j,j<c.ncell→Rep S w ι (c.get j) (arr.getD j undef)):
 Mem S w' (ι.seto k w.heap.size) (aR H k (.cells c false))∧Keeps S w S w'∧∀p,Tr p S w ι H S w' (ι.seto k w.heap.size) (aR H k (.cells c false)):=by
 have ho:=M.none_o hk;have old:∀b',b'<w.heap.size→w'.heap[b']? =w.heap[b']? :=fun b' hb'=>by rw[hheap,aef,if_neg (by omega)]
 have hkeep:Keeps S w S w':=by
  have:∀b j,(rd w b j).isSome→rd w' b j=rd w b j:=fun b j h=>cB (old b (dZ h)) j;exact⟨fun b j h=>⟨h,this b j (M.imm b j h)⟩,fun b j h=>by rw[this b j h];exact h⟩
 have hnoS:∀j,¬S w.heap.size j:=fun j hs=>by have:=dZ (M.imm _ _ hs);omega
 have:=M.step (b:=w.heap.size) (w':=w') (S':=S) (k:=k) (o':=.cells c false) (ι':=ι.seto k w.heap.size) hbelow (fun b' hb' _=>old b' hb') hkeep (fun b' j h=>.inl h) (fun j h=>absurd h (hnoS j))
  (jg ho) (fun k' h=>by simp[Ix.seto,h]) (fun _ _=>rfl) rfl (.inl (aea _)) (fun b'=>by simp[AO.has,Ix.seto,eq_comm]) (by simp[AO.isTok]) (fun _=>M.none_t hk)
  ⟨w.heap.size,arr,e,by simp[Ix.seto],by rw[hheap];simp,hn,fun j hj=>(hc j hj).mono hkeep _ (jg ho),hnoS⟩
 exact⟨this.1,hkeep,this.2⟩
theorem BQ (hτ:aV P τ) {t u ty e:TypeId} {tt tu te:TE} (ht:τ t=some tt) (hu:τ u=some tu) (he:τ e=some te) (hd:tt.und=.slice e) {e':TypeId} (hd':tu.und=.slice e')
 {S:Imm} {w:World} {ι:Ix} {H:Hp} (M:Mem S w ι H) {n:Nat} (hno:ay H n=none) {base xb:Option Addr} {cn sCap dn xc:Nat}
 (hgrow:sCap<cn+dn) (hbd:cn+dn≤1073741824) (hby:te.bytes≤65536) (h1:te.size=1) {E:CL} (hE:E.cnt=cn+dn) (hEs:E.esz=1)
 {old new:Array Value} (ho:Row S w te.size cn E.get (.slice base cn sCap) old) (hn:Row S w te.size dn (fun j=>E.get (cn*te.size+j)) (.slice xb dn xc) new):
 gX P S w ι H (Builtin.append_ #[t,u] ty #[.slice base cn sCap,.slice xb dn xc]) (.rsl n 0 (cn+dn)) [(n,.cells E false)]:=by
 obtain⟨cap',hcap,hrun⟩:=run_append_grow (ty:=ty) hτ ht hu he hd hd' hgrow hbd hby (ho.run P {w with drawn:=w.drawn+1} rfl) (hn.run P {w with drawn:=w.drawn+1} rfl);have hEn:E.ncell=cn+dn:=by rw[bN,hE,hEs,aeL]
 have hzc:te.zero.cells.size=te.size:=hτ.zsz _ _ he;generalize hzz:Builtin.zeroCells te.zero.cells (cap'-(cn+dn))=zz at hrun
 have hzs:zz.size=cap'-(cn+dn):=by
  rw[←hzz];simp[Builtin.zeroCells,hzc,h1]
 have os:=ho.size;have ns:=hn.size;rw[h1,aeL]at os ns;have hsz:(old++new++zz).size=cap':=by
  simp only[ae3,os,ns,hzs];omega
 generalize hw':({({w with drawn:=w.drawn+1}:World)with heap:=w.heap.push (.cells (old++new++zz) e)}:World)=w' at hrun
 have hheap:w'.heap=w.heap.push (.cells (old++new++zz) e):=by rw[←hw']
 have hbelow:Bel w w':=by
  refine .block w.heap.size (by rw[←hw']) (by rw[←hw']) (by rw[←hw']) (by rw[←hw'];simp) (fun b' hb'=>by rw[hheap,aef,if_neg hb']) (by rw[aec (aea _)];exact lJ) (by rw[hheap];simp;exact fu _ _)
 obtain⟨M',K',T⟩:=M.new' hno (c:=E) hheap hbelow (by omega) (fun j hj=>by
  rw[hEn]at hj;by_cases h:j<cn
  ·have:=ho.rep j (by rw[h1];omega)
   rw[aej]at this⊢;rw[afj (by simp only[ae3,os];omega),afj (by omega)]
   exact this.up ι
  ·have:=hn.rep (j-cn) (by rw[h1];omega)
   rw[h1,aeL,aej,show cn+(j-cn)=j by omega]at this
   rw[aej,afj (by simp only[ae3,os,ns];omega),afk (by omega),os]
   exact this.up ι)
 refine⟨_,S,w',_,hrun,M',jg (M.none_o hno),K',?_,T⟩;exact .rsl _ _ _ _ _ _ (by simp[Ix.seto]) hcap (fun _ j hj=>by
  rw[aN (arr:=old++new++zz) (e:=e) (f:=(0,0)) (by rw[hheap];simp),aeg (by rw[hsz];exact hj)];rfl)
theorem yN (hτ:aV P τ) {t u ty e:TypeId} {tt tu te:TE} (ht:τ t=some tt) (hu:τ u=some tu) (he:τ e=some te) (hd:tt.und=.slice e) {e':TypeId} (hd':tu.und=.slice e') (hby:te.bytes≤65536)
 {H:Hp} {n:Nat} {x:PV} {K:KR} (h:vL te H n x K) {s0:PV} (hs0:s0=.nils∨∃c,s0=.isl c .full∧c.cnt=0):
 ∃v sets accs news,K v sets accs news∧∀{S:Imm} {w:World} {ι:Ix} {H':Hp} {vs vx:Value},Mem S w ι H'→Rep S w ι s0 vs→Rep S w ι x vx→(∀k∈accs,ay H' k=ay H k)→(∀k∈news,ay H' k=none)→
  gX P S w ι H' (Builtin.append_ #[t,u] ty #[vs,vx]) v sets:=by
 unfold vL at h;obtain⟨d,acc,h,hd0⟩:=kZ h;simp only[dS,fU,cZ,aL,aeA]at h;obtain⟨⟨hpos,hbd⟩,⟨e1,e2⟩,hfr,hK⟩:=h;have e1:=aeB e1;have e2:=aeB e2;refine⟨_,_,_,_,hK,fun{S w ι H' vs vx} M hs hx ha hn=>?_⟩;have hno:=hn n (by simp)
 have hsrc:=hd0 M ha hx;obtain⟨ad,cap,vals,rfl,hrow⟩:=hsrc.row;obtain⟨base,rfl,hfc⟩:∃base,vs=.slice base 0 0∧∀(P':Program) w',(Builtin.firstCells te.size 0 (.slice base 0 0)).run P' w'=.ok #[] w':=by
  rcases hs0 with rfl|⟨c,rfl,hc⟩
  ·cases hs;exact⟨_,rfl,fun _ _=>rfl⟩
  ·cases hs with
   |islnil=>exact⟨_,rfl,fun _ _=>lG⟩
   |isl _ _ _ b off cap hcc hs h hf ho=>
    rw[hf rfl,hc];refine⟨_,rfl,fun P' w'=>?_⟩;have:=eT (P:=P') (w:=w') (b:=b) (off:=off) (n:=0) (size:=te.size) (len:=0) (cap:=0) (fun j hj=>by omega)
    simpa using this
 have h1:te.size=1:=by omega
 have:=BQ (ty:=ty) hτ ht hu he hd hd' M (n:=n) hno (base:=base) (xb:=ad) (cn:=0) (sCap:=0) (dn:=d.cnt) (xc:=cap) (by omega) (by omega) hby h1
  (E:=d) (by omega) e2 (old:= #[]) ⟨by simp,fun j hj=>by simp at hj,fun P' w' hw=>hfc P' w'⟩ (new:=vals) (by
   rw[e1]at hrow;refine⟨hrow.size,fun j hj=>?_,hrow.run⟩;rw[ad9,aeC];exact hrow.rep j hj)
 rw[aeC]at this;exact this
theorem Kw (hτ:aV P τ) {t u ty e:TypeId} {tt tu te:TE} (ht:τ t=some tt) (hu:τ u=some tu) (he:τ e=some te) (hd:tt.und=.slice e) {e':TypeId} (hd':tu.und=.slice e') (hby:te.bytes≤65536)
 {H:Hp} {n k off m:Nat} {x:PV} {K:KR} (h:zR te H n k off m x K):
 ∃v sets accs news,K v sets accs news∧∀{S:Imm} {w:World} {ι:Ix} {H':Hp} {vs vx:Value},Mem S w ι H'→Rep S w ι (.rsl k off m) vs→Rep S w ι x vx→(∀k∈accs,ay H' k=ay H k)→(∀k∈news,ay H' k=none)→
  gX P S w ι H' (Builtin.append_ #[t,u] ty #[vs,vx]) v sets:=by
 unfold zR at h;obtain⟨c,acc,hA,hc0⟩:=kZ h;clear h;obtain⟨d,acc',hB,hd0⟩:=kZ hA;clear hA;rw[bg]at hB;obtain⟨ob,hob,hC⟩:=hB;split at hC
 ·rename_i c1
  simp only[dS,fU,aL,aeA]at hC;obtain⟨⟨hpos,hbd⟩,⟨⟨e0,e1⟩,e2⟩,hD⟩:=hC;have e0:=aeB e0;have e1:=aeB e1;have e2:=aeB e2;subst e0;obtain⟨hE,hone⟩:=Eh hD;obtain⟨E,hF,a1,a2,a3,a4,a5⟩:=qP hE;rw[cZ]at hF;obtain⟨hfr,hK⟩:=hF;refine⟨_,_,_,_,hK,fun M hs hx ha hn=>?_⟩;rename_i S w ι H' vs vx;have hno:=hn n (by simp)
  have hobj:=(ha k (by simp)).trans hob
  have hsrc:=hd0 M (fun k' hk'=>ha k' (by simp[hk'])) hx
  obtain⟨ad,xcap,vals,rfl,hrow⟩:=hsrc.row;have hsrc2:=hc0 M (fun k' hk'=>ha k' (by simp[hk'])) hs
  obtain⟨ad2,cap,vals2,e3,hrow2⟩:=hsrc2.row;have h1:te.size=1:=by omega
  have hcm:c.cnt=m:=by
   obtain⟨ad',cap',e5⟩:=hs.rslSlice;rw[e3]at e5;cases e5;rfl
  have hcn:c.ncell=m:=by rw[bN,e2,aeL,hcm]
  have hdn:d.ncell=d.cnt:=by rw[bN,a2,e2,aeL]
  have hEn:E.ncell=m+d.cnt:=by rw[bN,a3,a1,e2,aeL,hcm]
  have hkn:n≠k:=fun e=>by subst e;rw[hobj]at hno;cases hno
  rw[a2,e2]at hrow;rw[e2]at hrow2;subst e3;rw[hcm]at hs hrow2⊢;have rowD:Row S w te.size d.cnt (fun j=>E.get (m*te.size+j)) (.slice ad d.cnt xcap) vals:=
   ⟨by rw[h1];exact hrow.size,fun j hj=>by rw[h1]at hj;rw[h1,aeL,←hcn,a5 j (by omega)];exact hrow.rep j hj,by rw[h1];exact hrow.run⟩
  have rowC:Row S w te.size m E.get (.slice ad2 m cap) vals2:=
   ⟨by rw[h1];exact hrow2.size,fun j hj=>by rw[h1]at hj;rw[a4 j (by omega)];exact hrow2.rep j hj,by rw[h1];exact hrow2.run⟩
  by_cases hfit:m+d.cnt≤cap
  ·
   have hin:∃b,ad2=some ⟨b,0,none⟩∧ι.o k=some b∧∀j,j<cap→(rd w b j).isSome:=by
    cases hs with
    |rsl _ _ _ _ b cap hk hc hr=>exact⟨b,rfl,hk,hr rfl⟩
    |rslz _ _ _ b o hk=>omega
   obtain⟨b,rfl,hkb,hrd⟩:=hin;obtain⟨M1,L1,T1⟩:=M.move hobj hno hkb;have hob1:ay (aR (aR H' k dead) n (.cells c1 false)) n=some (.cells c1 false):=by rw[aY];simp
   have hb1:(ι.seto n b).o n=some b:=by simp[Ix.seto]
   obtain⟨b',arr,e4,g1,g2,g3,g4,g5⟩:=M.obj k _ hobj;rw[hkb]at g1;cases g1
   have hcap:cap≤arr.size:=by
    have:=hrd (cap-1) (by omega)
    rw[aN g2]at this;rcases aeb (cap-1) arr.size with h1|h1
    ·omega
    ·rw[aec h1]at this;simp at this
   have vs:=hrow.size;rw[aeL]at vs;have honeV:∀v∈vals.toList,v.oneCell'=true:=by
    intro v hv;obtain⟨i,hi,rfl⟩:=aeu hv;have hi':i<d.cnt:=by rw[←vs];simpa using hi
    have:=(hrow.rep i (by omega)).oneCell (hone i (by omega))
    simpa [aej,aeg (show i<vals.size by simpa using hi)]using this
   obtain⟨w',r1,uu⟩:=dW P vals.toList (o:=m) (i:=0) g2 honeV (by simp[vs];omega)
   have hput:∀j,(putRow arr (m+0) vals.toList).getD j undef=if m≤j∧j<m+d.cnt then vals.getD (j-m) undef else arr.getD j undef:=by
    intro j;rw[iP _ _ _ _ (by simp[vs];omega)]
    simp only[adZ,aeO,vs];congr 1;simp[aej]
   have hsz':(putRow arr (m+0) vals.toList).size=arr.size:=dX _ _ _;have hrun:=jP (ty:=ty) (w':=w') hτ ht hu he hd hd' (base:=some ⟨b,0,none⟩) (sLen:=m) (sCap:=cap) hfit (rowD.run P w rfl) (by rw[h1];simpa [dN]using r1)
   have old:∀j,j<m→Rep S w noI (E.get j) (arr.getD j undef):=by
    intro j hj;have hr2:=rowC.rep j (by rw[h1];omega)
    have hh:=rowC.run P w rfl;rw[h1,eT (P:=P) (w:=w) (b:=b) (off:=0) (n:=m) (size:=1) (len:=m) (cap:=cap) (fun j hj=>by rw[aeC];exact hrd j (by omega))]at hh
    cases hh
    rw[aej]at hr2⊢;simp only[aeL,afc,ae7,afm hj,aei,afl,aeC]at hr2;rw[rdv,aN g2]at hr2;exact hr2
   obtain⟨M2,T2⟩:=M1.write (c':=E) hob1 hb1 g2 uu (by omega) (by omega) (fun j hj=>by
    rw[hput];by_cases hj':j<m
    ·rw[if_neg (by omega)];exact(old j hj').up _
    ·rw[if_pos (by omega)]
     have:=rowD.rep (j-m) (by rw[h1];omega)
     rw[h1,aeL,show m+(j-m)=j by omega]at this
     exact this.up _)
   have hg:∀k',ay (aR (aR (aR H' k dead) n (.cells c1 false)) n (.cells E false)) k'=ay (aR (aR H' k dead) n (.cells E false)) k':=fun k'=>by
    simp only[aY];split<;>rfl
   have hK2:Keeps S w S w':=(T2 0).keeps;refine⟨_,S,w',_,hrun,M2.congr hg,L1,hK2,?_,fun p=>((T1 p).trans (T2 p)).congr' hg⟩;exact .rsl _ _ _ _ _ _ hb1 hfit (fun _ j hj=>hK2.cells _ _ (hrd j hj))
  ·obtain⟨M1,T1⟩:=M.drop hobj
   have hno1:ay (aR H' k dead) n=none:=by rw[aY,if_neg hkn];exact hno
   obtain⟨val,S',w',ι',r1,M2,L2,K2,R2,T2⟩:=BQ (ty:=ty) hτ ht hu he hd hd' M1 (n:=n) hno1 (base:=ad2) (xb:=ad) (cn:=m) (sCap:=cap) (dn:=d.cnt) (xc:=xcap) (by omega) hbd hby h1
    (E:=E) (by omega) (by omega) rowC rowD
   exact⟨val,S',w',ι',r1,M2,L2,K2,R2,fun p=>(T1 p).trans (T2 p)⟩
 ·exact hC.elim
theorem Ky (hτ:aV P τ) {t u ty e:TypeId} {tt tu te:TE} (ht:τ t=some tt) (hu:τ u=some tu) (he:τ e=some te) (hd:tt.und=.slice e) {e':TypeId} (hd':tu.und=.slice e') (hby:te.bytes≤65536)
 {H:Hp} {n:Nat} {mu:Bool} {s x:PV} {K:KR} (h:zS mu te H n s x K):
 ∃v sets accs news,K v sets accs news∧∀{S:Imm} {w:World} {ι:Ix} {H':Hp} {vs vx:Value},Mem S w ι H'→Rep S w ι s vs→Rep S w ι x vx→(∀k∈accs,ay H' k=ay H k)→(∀k∈news,ay H' k=none)→
  gX P S w ι H' (Builtin.append_ #[t,u] ty #[vs,vx]) v sets:=by
 unfold zS at h;split at h
 ·exact Kw hτ ht hu he hd hd' hby h
 ·split at h
  ·exact yN hτ ht hu he hd hd' hby h (.inl rfl)
  ·exact mV hτ ht hu he hd hd' hby h
 ·split at h
  ·split at h
   ·rw[dS]at h
    split at h
    ·rename_i c hc
     exact yN hτ ht hu he hd hd' hby h (.inr ⟨_,rfl,aeB hc⟩)
    ·exact mV hτ ht hu he hd hd' hby h
   ·exact mV hτ ht hu he hd hd' hby h
  ·exact mV hτ ht hu he hd hd' hby h
 ·exact mV hτ ht hu he hd hd' hby h
theorem Ei {H:Hp} {x:PV} {d r q:Nat} {rc:RC} (h:DX H x=some (d,r,q,rc)):x=.rsl d 0 r∧ay H d=some (.pmat q rc):=by
 unfold DX at h;split at h
 ·split at h
  ·split at h
   ·rename_i o ho
    split at h
    ·cases h;exact⟨rfl,ho⟩
    ·cases h
   ·cases h
  ·cases h
 ·cases h
theorem He {a b:RC} {m:Nat} {K:RC→Prop} (h:J8 a m b K):∃c,K c∧a.kin b∧c.kin a∧∀i,c.at i=if i<m then a.at i else b.at (i-m):=by
 unfold J8 at h;split at h
 ·split at h
  ·rw[aL]at h
   have e:=of_decide_eq_true h.1;subst e;exact⟨_,h.2,rfl,rfl,fun i=>by simp only[RC.at];split<;>rfl⟩
  ·exact h.elim
 ·split at h
  ·rw[aL]at h
   have e:=aeB h.1;subst e;exact⟨_,h.2,rfl,rfl,fun i=>by simp only[RC.at];split<;>rfl⟩
  ·exact h.elim
theorem wZ {S:Imm} {w:World} {ι:Ix} {H:Hp} (M:Mem S w ι H) {d r b:Nat} {rc:RC} (hd:ay H d=some (.pmat r rc)) (hb:ι.o d=some b):
 ∃arr e,w.heap[b]? =some (.cells arr e (0,0))∧r≤arr.size∧∀i,i<r→∃a n cap,rd w b i=some (.slice a n cap):=by
 obtain⟨all,l,rc',⟨b0,arr,e,p1,p2,p3,p4,p5,p6,p7,p8⟩,pk,pl,pn,pall,pa⟩:=M.obj d _ hd;rw[hb]at p1;cases p1
 refine⟨arr,e,p2,by omega,fun i hi=>?_⟩
 obtain⟨g1,cap,g2,g3⟩:=p8 i (by omega)
 have e2:rd w b i=some (.slice (some ⟨l.getD i 0,0,none⟩) (rc'.at (l.getD i 0)).cnt cap):=by
  rw[aN p2,aeg (by omega),←g3,aej,aeg (by omega)];rfl
 exact⟨_,_,_,e2⟩
theorem qQ (hτ:aV P τ) {e:TypeId} {te:TE} (he:τ e=some te) (h1:te.size=1) (n:Nat):(Builtin.zeroCells te.zero.cells n).size=n:=by
 have:=hτ.zsz _ _ he;simp[Builtin.zeroCells,this,h1]
theorem Kz (hτ:aV P τ) {t u ty e:TypeId} {tt tu te:TE} (ht:τ t=some tt) (hu:τ u=some tu) (he:τ e=some te) (hd:tt.und=.slice e) {e':TypeId} (hd':tu.und=.slice e') (hby:te.bytes≤65536)
 {H:Hp} {n:Nat} {mu:Bool} {s x:PV} {K:KR} (h:zT mu te H n s x K):
 ∃v sets accs news,K v sets accs news∧∀{S:Imm} {w:World} {ι:Ix} {H':Hp} {vs vx:Value},Mem S w ι H'→Rep S w ι s vs→Rep S w ι x vx→(∀k∈accs,ay H' k=ay H k)→(∀k∈news,ay H' k=none)→
  gX P S w ι H' (Builtin.append_ #[t,u] ty #[vs,vx]) v sets:=by
 unfold zT at h;split at h
 ·rename_i d r q rc hsrc
  obtain⟨rfl,hdq⟩:=Ei hsrc;have src:∀{S:Imm} {w:World} {ι:Ix} {H':Hp} {vx:Value},Mem S w ι H'→ay H' d=some (.pmat r rc)→0<r→Rep S w ι (.rsl d 0 r) vx→∃bd xc,vx=.slice (some ⟨bd,0,none⟩) r xc∧ι.o d=some bd∧
   (∀j,j<r*1→(rd w bd (0+j)).isSome)∧∀i,i<r→∃a n cap,rd w bd i=some (.slice a n cap):=by
   intro S w ι H' vx M hg hr0 hx;cases hx with
   |rslz=>omega
   |rsl _ _ _ _ b cap hk hc hr=>
    obtain⟨arr,e1,q1,q2,q3⟩:=wZ M hg hk;exact⟨b,cap,rfl,hk,fun j hj=>by obtain⟨a,n,c,h⟩:=q3 (0+j) (by omega);rw[h];rfl,q3⟩
  unfold IG at h;split at h
  ·rw[aL,cZ]at h
   obtain⟨⟨hrq,hr0,hbd⟩,h1,hfr,hK⟩:=h;have h1:=aeB h1;subst hrq;refine⟨_,_,_,_,hK,fun M hs hx ha hn=>?_⟩;rename_i S w ι H' vs vx;have hno:=hn n (by simp)
   have hg:=(ha d (by simp)).trans hdq
   obtain⟨bd,xc,rfl,hbdk,hsome,hsl⟩:=src M hg hr0 hx;cases hs
   obtain⟨cap',hcap,hrun⟩:=run_append_grow (ty:=ty) hτ ht hu he hd hd' (w:=w) (base:=none) (sLen:=0) (sCap:=0) (n:=r) (xb:=some ⟨bd,0,none⟩) (xc:=xc) (by omega) (by omega) hby
    (old:= #[]) (by simp[Builtin.firstCells]) (by rw[h1];exact eT (P:=P) (w:={w with drawn:=w.drawn+1}) (b:=bd) (off:=0) (n:=r) (size:=1) (len:=r) (cap:=xc) hsome)
   generalize hzz:Builtin.zeroCells te.zero.cells (cap'-(0+r))=zz at hrun
   have hzs:zz.size=cap'-r:=by rw[←hzz,qQ hτ he h1];omega
   generalize hnw:(((ael (r*1)).map fun j=>rdv {w with drawn:=w.drawn+1} bd (0+j)).toArray)=nw at hrun
   have hns:nw.size=r:=by rw[←hnw];simp
   generalize hw':({({w with drawn:=w.drawn+1}:World)with heap:=w.heap.push (.cells (#[]++nw++zz) e)}:World)=w' at hrun
   have hheap:w'.heap=w.heap.push (.cells (#[]++nw++zz) e):=by rw[←hw']
   have hbelow:Bel w w':=by
    refine .block w.heap.size (by rw[←hw']) (by rw[←hw']) (by rw[←hw']) (by rw[←hw'];simp) (fun b' hb'=>by rw[hheap,aef,if_neg hb']) (by rw[aec (aea _)];exact lJ) (by rw[hheap];simp;exact fu _ _)
   have hat:w'.heap[w.heap.size]? =some (.cells (#[]++nw++zz) e (0,0)):=by rw[hheap];simp
   have hasz:(#[]++nw++zz).size=cap':=by simp[hns,hzs];omega
   obtain⟨X,M',le,K',T⟩:=M.matNew hg hno hbdk hbelow hat (fun b hb=>by rw[hheap,aef,if_neg (by omega)]) (by omega) (fun i hi=>by
    obtain⟨a,n2,c2,hrd⟩:=hsl i hi;rw[aej,afj (by simp[hns];exact hi),afn,←hnw]
    simp only[afc,ae7];rw[afm (by omega)]
    simp only[aei,afl,aeC];show some (rdv w bd i)=_;rw[rdv,hrd];rfl)
   have hio:(ι.setm n w.heap.size X).o n=some w.heap.size:=by simp[Ix.setm]
   rw[aeC]at hrun hcap;exact⟨_,S,w',_,hrun,M',le,K',.rsl _ _ _ _ _ _ hio hcap (fun _ j hj=>by rw[aN hat,aeg (by omega)];rfl),T⟩
  ·rename_i k off m
   rw[bg]at h;obtain⟨ob,hob,h⟩:=h;split at h
   ·rename_i m' rc0
    rw[aL]at h;simp only[aeA,Bool.not_eq_true']at h;obtain⟨⟨rfl,hrq,hr0,hbd⟩,⟨⟨h1,e0⟩,hkd⟩,h⟩:=h;have h1:=aeB h1;have e0:=aeB e0;subst hrq;subst e0;have hkd:k≠d:=fun e=>by subst e;simp at hkd
    obtain⟨rc2,h,hkin,hkin2,hrc2⟩:=He h;rw[cZ]at h;refine⟨_,_,_,_,h.2,fun M hs hx ha hn=>?_⟩;rename_i S w ι H' vs vx;have hno:=hn n (by simp)
    have hg:=(ha d (by simp)).trans hdq
    have hgk:=(ha k (by simp)).trans hob
    obtain⟨bd,xc,rfl,hbdk,hsome,hsl⟩:=src M hg hr0 hx;have hk0:∃b o cap,vs=.slice (some ⟨b,o,none⟩) m cap∧ι.o k=some b∧(m+r≤cap→o=0∧∀j,j<cap→(rd w b j).isSome)∧∀j,j<m*1→(rd w b (o+j)).isSome:=by
     cases hs with
     |rslz _ _ _ b o hk=>exact⟨b,o,0,rfl,hk,fun h=>by omega,fun j hj=>by omega⟩
     |rsl _ _ _ _ b cap hk hc hr=>
      obtain⟨arr,e1,q1,q2,q3⟩:=wZ M hgk hk;exact⟨b,0,cap,rfl,hk,fun _=>⟨rfl,hr rfl⟩,fun j hj=>by obtain⟨a,n,c,h⟩:=q3 (0+j) (by omega);rw[h];rfl⟩
    obtain⟨b0,o0,cap,rfl,hb0,hfitc,holds⟩:=hk0;obtain⟨arr0,e1,q1,q2,q3⟩:=wZ M hgk hb0;by_cases hfit:m+r≤cap
    ·obtain⟨rfl,hrd⟩:=hfitc hfit
     have hcap:cap≤arr0.size:=by
      have:=hrd (cap-1) (by omega)
      rw[aN q1]at this;rcases aeb (cap-1) arr0.size with h1|h1
      ·omega
      ·rw[aec h1]at this;simp at this
     generalize hnw:(((ael (r*1)).map fun j=>rdv w bd (0+j)).toArray)=nw
     have hns:nw.size=r:=by rw[←hnw];simp
     have hnv:∀i,i<r→some (nw.getD i undef)=rd w bd i:=fun i hi=>by
      obtain⟨a,n2,c2,hrd2⟩:=hsl i hi;rw[←hnw,aej];simp only[afc,ae7];rw[afm (by omega)]
      simp only[aei,afl,aeC];rw[rdv,hrd2];rfl
     have honeV:∀v∈nw.toList,v.oneCell'=true:=by
      intro v hv;obtain⟨i,hi,rfl⟩:=aeu hv;have hi':i<r:=by simpa [hns]using hi
      obtain⟨a,n2,c2,hrd2⟩:=hsl i hi';have:=hnv i hi';rw[hrd2,aej,aeg (by omega)]at this
      simp only[afl,Option.some.injEq]at this;simp only[Array.getElem_toList];rw[this];rfl
     obtain⟨w',r1,uu⟩:=dW P nw.toList (b:=b0) (o:=m) (i:=0) q1 honeV (by simp[hns];omega)
     have hput:∀j,(putRow arr0 (m+0) nw.toList).getD j undef=if m≤j∧j<m+r then nw.getD (j-m) undef else arr0.getD j undef:=by
      intro j;rw[iP _ _ _ _ (by simp[hns];omega)]
      simp only[adZ,aeO,hns];congr 1;simp[aej]
     have hrun:=jP (ty:=ty) (w':=w') hτ ht hu he hd hd' (base:=some ⟨b0,0,none⟩) (sLen:=m) (sCap:=cap) (n:=r) (xb:=some ⟨bd,0,none⟩) (xc:=xc) hfit (new:=nw)
      (by rw[h1,←hnw];exact eT (P:=P) (w:=w) (b:=bd) (off:=0) (n:=r) (size:=1) (len:=r) (cap:=xc) hsome) (by rw[h1];simpa [dN]using r1)
     have hsz':(putRow arr0 (m+0) nw.toList).size=arr0.size:=dX _ _ _;obtain⟨X,M',le,K',T⟩:=M.matApp (bn:=b0) hgk hg hno hkd hb0 hbdk hkin hkin2 hrc2 uu.below uu.here (fun b _ hb=>uu.other b hb) (.inr ⟨rfl,arr0,e1,q1,by omega⟩) (by omega) (fun i hi=>by
      rw[hput,if_neg (by omega),aN q1,aej,aeg (by omega)];rfl) (fun i hi=>by
      rw[hput,if_pos (by omega),show m+i-m=i by omega];exact hnv i hi)
     have hio:(ι.setm n b0 X).o n=some b0:=by simp[Ix.setm]
     exact⟨_,S,w',_,hrun,M',le,K',.rsl _ _ _ _ _ _ hio hfit (fun _ j hj=>by rw[aN uu.here,aeg (by omega)];rfl),T⟩
    ·obtain⟨cap',hcap,hrun⟩:=run_append_grow (ty:=ty) hτ ht hu he hd hd' (w:=w) (base:=some ⟨b0,o0,none⟩) (sLen:=m) (sCap:=cap) (n:=r) (xb:=some ⟨bd,0,none⟩) (xc:=xc) (by omega) (by omega) hby
      (by rw[h1];exact eT (P:=P) (w:={w with drawn:=w.drawn+1}) (b:=b0) (off:=o0) (n:=m) (size:=1) (len:=m) (cap:=cap) holds)
      (by rw[h1];exact eT (P:=P) (w:={w with drawn:=w.drawn+1}) (b:=bd) (off:=0) (n:=r) (size:=1) (len:=r) (cap:=xc) hsome)
     generalize hzz:Builtin.zeroCells te.zero.cells (cap'-(m+r))=zz at hrun
     have hzs:zz.size=cap'-(m+r):=by rw[←hzz,qQ hτ he h1]
     generalize hod:(((ael (m*1)).map fun j=>rdv {w with drawn:=w.drawn+1} b0 (o0+j)).toArray)=od at hrun
     generalize hnw:(((ael (r*1)).map fun j=>rdv {w with drawn:=w.drawn+1} bd (0+j)).toArray)=nw at hrun
     have hos:od.size=m:=by rw[←hod];simp
     have hns:nw.size=r:=by rw[←hnw];simp
     have ho0:∀i,i<m→o0=0:=fun i hi=>by
      cases hs with
      |rslz=>omega
      |rsl=>rfl
     generalize hw':({({w with drawn:=w.drawn+1}:World)with heap:=w.heap.push (.cells (od++nw++zz) e)}:World)=w' at hrun
     have hheap:w'.heap=w.heap.push (.cells (od++nw++zz) e):=by rw[←hw']
     have hbelow:Bel w w':=by
      refine .block w.heap.size (by rw[←hw']) (by rw[←hw']) (by rw[←hw']) (by rw[←hw'];simp) (fun b' hb'=>by rw[hheap,aef,if_neg hb']) (by rw[aec (aea _)];exact lJ) (by rw[hheap];simp;exact fu _ _)
     have hat:w'.heap[w.heap.size]? =some (.cells (od++nw++zz) e (0,0)):=by rw[hheap];simp
     have hasz:(od++nw++zz).size=cap':=by simp only[ae3,hos,hns,hzs];omega
     obtain⟨X,M',le,K',T⟩:=M.matApp (bn:=w.heap.size) hgk hg hno hkd hb0 hbdk hkin hkin2 hrc2 hbelow hat (fun b hb _=>by rw[hheap,aef,if_neg (by omega)]) (.inl rfl) (by omega) (fun i hi=>by
      obtain⟨a,n2,c2,hrd⟩:=q3 i hi;rw[aej,afj (by simp only[ae3,hos];omega),afj (by omega),←hod]
      simp only[afc,ae7];rw[afm (by omega)]
      simp only[aei,afl,ho0 i hi,aeC];show some (rdv w b0 i)=_;rw[rdv,hrd];rfl) (fun i hi=>by
      obtain⟨a,n2,c2,hrd⟩:=hsl i hi;rw[aej,afj (by simp only[ae3,hos,hns];omega),afk (by omega),hos,show m+i-m=i by omega,←hnw]
      simp only[afc,ae7];rw[afm (by omega)]
      simp only[aei,afl,aeC];show some (rdv w bd i)=_;rw[rdv,hrd];rfl)
     have hio:(ι.setm n w.heap.size X).o n=some w.heap.size:=by simp[Ix.setm]
     exact⟨_,S,w',_,hrun,M',le,K',.rsl _ _ _ _ _ _ hio hcap (fun _ j hj=>by rw[aN hat,aeg (by omega)];rfl),T⟩
   ·exact h.elim
  ·exact h.elim
 ·exact Ky hτ ht hu he hd hd' hby h
theorem BR {z:Value} {n:Nat} {K:CL→Prop} (h:mkK z n K):z.cells= #[z]∧∃d,K d∧d.cnt=n∧d.esz=1∧∀j,j<n→∀{S:Imm} {w:World} {ι:Ix},Rep S w ι (d.get j) z:=by
 unfold mkK at h;split at h
 ·exact⟨rfl,_,h,by simp[CL.cnt],rfl,fun j hj S w ι=>by simp only[CL.get,aeo,afo,if_pos hj,afl];constructor⟩
 ·exact⟨rfl,_,h,by simp[CL.cnt],rfl,fun j hj S w ι=>by simp only[CL.get,aeo,afo,if_pos hj,afl];constructor⟩
 ·exact⟨rfl,_,h,by simp[CL.cnt],rfl,fun j hj S w ι=>by simp only[CL.get,aeo,afo,if_pos hj,afl];constructor⟩
 ·exact⟨rfl,_,h,by simp[CL.cnt],rfl,fun j hj S w ι=>by simp only[CL.get,aeo,afo,if_pos hj,afl];exact .islnil _ _ _ rfl⟩
 ·exact h.elim
theorem KA (hτ:aV P τ) {t u ty e:TypeId} {tt tu te:TE} (ht:τ t=some tt) (hu:τ u=some tu) (he:τ e=some te) (hd:tt.und=.slice e) {q:IntKind} (hd':tu.und=.int q)
 {H:Hp} {n:Nat} {s x:PV} {K:KR} (h:zU te H n s x K):
 ∃v sets accs news,K v sets accs news∧∀{S:Imm} {w:World} {ι:Ix} {H':Hp} {vs vx:Value},Mem S w ι H'→Rep S w ι s vs→Rep S w ι x vx→(∀k∈accs,ay H' k=ay H k)→(∀k∈news,ay H' k=none)→
  gX P S w ι H' (Builtin.append_ #[t,u] ty #[vs,vx]) v sets:=by
 unfold zU at h;split at h
 ·split at h
  ·rename_i m
   simp only[cZ,aL,aeA]at h;obtain⟨hm,⟨e1,e2⟩,hfr,h⟩:=h;have e1:=aeB e1;have e2:=aeK e2;obtain⟨zc,d,hK,d1,d2,d3⟩:=BR h;refine⟨_,_,_,_,hK,fun{S w ι H'} {vs vx} M hs hx ha hn=>?_⟩;have hno:=hn n (by simp)
   cases hs
   cases hx
   obtain⟨m',rfl⟩:∃m':Nat,m=m':=⟨m.toNat,by omega⟩
   simp only[afg]at d1 d3⊢;obtain⟨cap',hcap,hrun⟩:=yL (P:=P) (ty:=ty) (w:=w) hτ ht hu he hd hd' (n:=m') (by omega) e2 e1
   have hEn:d.ncell=m':=by rw[bN,d1,d2,aeL]
   have hzs:∀j,(Builtin.zeroCells te.zero.cells j).size=j:=qQ hτ he e1;generalize hzz:Builtin.zeroCells te.zero.cells (cap'-m')=zz at hrun
   have hzl:zz.size=cap'-m':=by rw[←hzz];exact hzs _
   have hsz:(#[]++Builtin.zeroCells te.zero.cells m'++zz).size=cap':=by
    simp only[ae3,hzs,hzl];simp;omega
   generalize hw':({({w with drawn:=w.drawn+1}:World)with heap:=w.heap.push (.cells (#[]++Builtin.zeroCells te.zero.cells m'++zz) e)}:World)=w' at hrun
   have hheap:w'.heap=w.heap.push (.cells (#[]++Builtin.zeroCells te.zero.cells m'++zz) e):=by rw[←hw']
   have hbelow:Bel w w':=by
    refine .block w.heap.size (by rw[←hw']) (by rw[←hw']) (by rw[←hw']) (by rw[←hw'];simp) (fun b' hb'=>by rw[hheap,aef,if_neg hb']) (by rw[aec (aea _)];exact lJ) (by rw[hheap];simp;exact fu _ _)
   obtain⟨M',K',T⟩:=M.new' hno (c:=d) hheap hbelow (by omega) (fun j hj=>by
    rw[hEn]at hj;have hg:(#[]++Builtin.zeroCells te.zero.cells m'++zz).getD j undef=te.zero:=by
     rw[aej,afj (by simp only[ae3,hzs];simp;exact hj),afn]
     unfold Builtin.zeroCells;rw[ae6,zc];simp[hj];rw[afp];rfl
    rw[hg];exact d3 j hj)
   refine⟨_,S,w',_,hrun,M',jg (M.none_o hno),K',?_,T⟩;exact .rsl _ _ _ _ _ _ (by simp[Ix.seto]) hcap (fun _ j hj=>by
    rw[aN (arr:= #[]++Builtin.zeroCells te.zero.cells m'++zz) (e:=e) (f:=(0,0)) (by rw[hheap];simp),aeg (by rw[hsz];exact hj)];rfl)
  ·exact h.elim
 ·exact h.elim
variable {P:Program} {r:Option Nat} {τ:TypeId→Option TE}
theorem ji {o:Oper} {a:Act} {b:Builtin} {args:Array Operand} {ats:Array TypeId} (ho:o.op=.call ⟨.builtin b,args,ats⟩) {w w':World} {val:Value} {s:Sem Value}
 (hb:∀cs,builtin b ats o.type cs (args.map a.eval)=(do pure (.value (←s)):Sem Next)) (h:s.run P w=.ok val w'):(execOp a.eval o).run P w=.ok (.value val) w':=by
 simp only[execOp,ho,resolve,Sem.run_bind,Sem.run_pure,Result.andThen,invoke];rw[hb];exact dH h
theorem tF (b:Bool):∀(r:List PV) (x:PV) {K:PV→Prop},lU 0 b x r K→∃v,K v∧∀{S:Imm} {w:World} {ι:Ix} {vx:Value} {vs:List Value},Rep S w ι x vx→vs.length=r.length→(∀i,i<r.length→Rep S w ι (aC r i) (vs.getD i undef))→
 ∃val,(vs.foldlM (if b then Builtin.max2 else Builtin.min2) vx:Sem Value).run P w=.ok val w∧Rep S w ι v val:=by
 intro r;induction r with
 |nil=>intro x K h;exact⟨x,h,fun hx hl _=>by simp at hl;subst hl;exact⟨_,rfl,hx⟩⟩
 |cons y r ih=>
  intro x K h;cases x<;>(try exact h.elim)<;>cases y<;>(try exact h.elim)
  ·rename_i k p k' q
   simp only[lU]at h;rw[aL]at h;have hk:=of_decide_eq_true h.1;subst hk;have step:∃m,lU 0 b (.int k m) r K∧∀w,((if b then Builtin.max2 else Builtin.min2) (.int k p) (.int k q):Sem Value).run P w=.ok (.int k m) w:=by
    cases b with
    |true=>
     refine⟨_,h.2,fun w=>?_⟩;simp only[if_true,Builtin.max2,Sem.run_pure];congr 2;split<;>omega
    |false=>
     refine⟨_,h.2,fun w=>?_⟩;simp only[ad7,if_false,Builtin.min2,Sem.run_pure];congr 2;split<;>omega
   obtain⟨m,hm,hrun⟩:=step;obtain⟨v,hK,hs⟩:=ih _ hm;refine⟨v,hK,fun hx hl hr=>?_⟩;rename_i S w ι vx vs;cases vs with
   |nil=>simp at hl
   |cons vy vs=>
    have hy:=hr 0 (by simp)
    simp only[aC,ae1]at hy;cases hx;cases hy
    obtain⟨val,h1,h2⟩:=hs (S:=S) (w:=w) (ι:=ι) (.int _ _ _) (by simpa using hl) (fun i hi=>by simpa [aC]using hr (i+1) (by simpa using hi))
    refine⟨val,?_,h2⟩;rw[List.foldlM_cons,Sem.run_bind,hrun];exact h1
theorem Ct (hτ:aV P τ) {md rf CP YP} {o:Oper} {ρ:Operand→PV} {H:Hp} {n:Nat} {c:Call} {b:Builtin} (ho:o.op=.call c) (hc:c.callee=.builtin b) {K:KR}
 (h:opK τ md rf CP YP ρ H n o.dst o.op K):∃v sets accs news,K v sets accs news∧bB P r o ρ H v sets accs news:=by
 obtain⟨callee,args,ats⟩:=c;simp only at hc;subst hc;rw[ho]at h;simp only[opK]at h;have hd:∀c,o.op≠ .defer c:=fun c e=>by rw[ho]at e;cases e
 have hargs:∀{S:Imm} {w:World} {ι:Ix} {a:Act},(∀x∈o.op.operands.toList,Rep S w ι (ρ x) (a.eval x))→bC S w ι (jW ρ args.toList) (args.map a.eval):=by
  intro S w ι a hr;exact kE args (fun x hx=>hr x (by simp[ho,Op.operands,Call.operands];simpa using hx))
 unfold NI at h;split at h
 ·
  rename_i hb';split at h
  ·rename_i t hats
   rw[bX]at h;obtain⟨te,ht,h⟩:=h;have hats':ats= #[t]:=by rw[←afq];simpa using hats
   subst hats';split at h
   ·rename_i x hx
    have one':∀{S:Imm} {w:World} {ι:Ix} {a:Act},(∀x∈o.op.operands.toList,Rep S w ι (ρ x) (a.eval x))→∃vx,args.map a.eval= #[vx]∧Rep S w ι x vx:=by
     intro S w ι a hr;obtain⟨h1,h2⟩:=hargs hr;rw[hx]at h1 h2;have h0:=h2 0 (by simp)
     refine⟨(args.map a.eval).getD 0 undef,?_,h0⟩;have hsz:(args.map a.eval).size=1:=h1.symm;apply afr
     ·simp[hsz]
     ·intro i hi1 hi2
      have:i=0:=by omega
      subst this;simp[aej,aeg hi1]
    have key:∀{m:Nat},K (.int .i64 m) [] [] []→(∀{S:Imm} {w:World} {ι:Ix} {vx:Value},Rep S w ι x vx→(Builtin.len_ #[t] o.type #[vx]).run P w=.ok (goInt m) w)→
     ∃v sets accs news,K v sets accs news∧bB P r o ρ H v sets accs news:=by
     intro m hK hrun;refine⟨_,_,_,_,hK,aU hd fun S w ι H' a M hr ha=>?_⟩;obtain⟨vx,e1,e2⟩:=one' hr;exact⟨_,ji ho (fun _=>rfl) (by rw[e1];exact hrun e2),.int _ _ _⟩
    split at h
    ·rename_i e hu
     have sl:∀(m:Nat) (vx:Value) (w:World),(∃ad cap,vx=.slice ad m cap)→(Builtin.len_ #[t] o.type #[vx]).run P w=.ok (goInt m) w:=by
      rintro m vx w ⟨ad,cap,rfl⟩
      simp[Builtin.len_,run_underlying (hτ.und _ _ ht),hu,Result.andThen]
     split at h
     ·rw[dS]at h
      exact key h fun hr=>sl _ _ _ hr.islSlice
     ·exact key h fun hr=>sl _ _ _ hr.rslSlice
     ·exact key (m:=0) h fun hr=>sl _ _ _ (by cases hr;exact⟨_,_,rfl⟩)
     ·exact key h fun hr=>sl _ _ _ (by cases hr;exact⟨_,_,rfl⟩)
     ·exact h.elim
    ·rename_i hu
     split at h
     ·exact key h fun hr=>by cases hr;simp[Builtin.len_,run_underlying (hτ.und _ _ ht),hu,Result.andThen]
     ·exact h.elim
    ·rename_i m e hu
     exact key h fun hr=>by simp[Builtin.len_,run_underlying (hτ.und _ _ ht),hu,Result.andThen]
    ·exact h.elim
   ·exact h.elim
  ·exact h.elim
 ·split at h
  ·rename_i s x hx
   split at h
   ·rename_i t u hats
    have hats':ats= #[t,u]:=by rw[←afq];simpa using hats
    subst hats';rw[bX]at h;obtain⟨tt,ht,h⟩:=h;split at h
    ·rename_i e hue
     simp only[bX]at h;obtain⟨te',he,tu,hu,h⟩:=h;split at h
     ·rename_i e' hue'
      rw[aL,aeA]at h;obtain⟨⟨h1,h2⟩,h⟩:=h;obtain⟨v,sets,accs,news,hK,hs⟩:=Kz (P:=P) (ty:=o.type) hτ ht hu he hue hue' (aeK h2) h;refine⟨v,sets,accs,news,hK,fun S w ι H' a next Q M hr ha hn hk=>?_⟩;obtain⟨g1,g2⟩:=hargs hr;rw[hx]at g1 g2;have e1:args.map a.eval= #[(args.map a.eval).getD 0 undef,(args.map a.eval).getD 1 undef]:=by
       have hsz:(args.map a.eval).size=2:=g1.symm;apply afr
       ·simp[hsz]
       ·intro i hi1 hi2
        have:i=0∨i=1:=by omega
        rcases this with rfl|rfl<;>simp only[aej,aeg (show _<(args.map a.eval).size by omega)]<;>rfl
      obtain⟨val,S',w',ι',r1,M',L',K',R',T⟩:=hs M (g2 0 (by simp)) (g2 1 (by simp)) ha hn
      exact dU hd (ji ho (fun _=>rfl) (by rw[e1];exact r1)) (hk val S' w' ι' M' L' K' R' T)
     ·rename_i k' hue'
      obtain⟨v,sets,accs,news,hK,hs⟩:=KA (P:=P) (ty:=o.type) hτ ht hu he hue hue' h;refine⟨v,sets,accs,news,hK,fun S w ι H' a next Q M hr ha hn hk=>?_⟩;obtain⟨g1,g2⟩:=hargs hr;rw[hx]at g1 g2;have e1:args.map a.eval= #[(args.map a.eval).getD 0 undef,(args.map a.eval).getD 1 undef]:=by
       have hsz:(args.map a.eval).size=2:=g1.symm;apply afr
       ·simp[hsz]
       ·intro i hi1 hi2
        have:i=0∨i=1:=by omega
        rcases this with rfl|rfl<;>simp only[aej,aeg (show _<(args.map a.eval).size by omega)]<;>rfl
      obtain⟨val,S',w',ι',r1,M',L',K',R',T⟩:=hs M (g2 0 (by simp)) (g2 1 (by simp)) ha hn
      exact dU hd (ji ho (fun _=>rfl) (by rw[e1];exact r1)) (hk val S' w' ι' M' L' K' R' T)
     ·exact h.elim
    ·exact h.elim
   ·exact h.elim
  ·exact h.elim
 ·
  split at h
  ·rename_i x hx
   split at h
   ·rename_i t hats
    rw[bX]at h;obtain⟨te,ht,h⟩:=h;have hats':ats= #[t]:=by rw[←afq];simpa using hats
    subst hats';split at h
    ·rename_i e hu
     split at h
     ·refine⟨_,_,_,_,h,aU hd fun S w ι H' a M hr ha=>?_⟩
      obtain⟨g1,g2⟩:=hargs hr;rw[hx]at g1 g2;have h0:=g2 0 (by simp)
      have hsz:(args.map a.eval).size=1:=g1.symm;have e1:args.map a.eval= #[(args.map a.eval).getD 0 undef]:=by
       apply afr
       ·simp[hsz]
       ·intro i hi1 hi2
        have:i=0:=by omega
        subst this;simp[aej,aeg hi1]
      simp only[aC]at h0;have h0':(args.map a.eval).getD 0 undef=.slice none 0 0:=by
       generalize(args.map a.eval).getD 0 undef=v at h0
       cases h0;rfl
      refine⟨_,ji ho (fun _=>rfl) (s:=Builtin.cap_ #[t] o.type (args.map a.eval)) (val:=goInt 0) ?_,.int _ _ _⟩;rw[e1,h0'];simp[Builtin.cap_,run_underlying (hτ.und _ _ ht),hu,Result.andThen]
     ·exact h.elim
    ·exact h.elim
   ·exact h.elim
  ·exact h.elim
 ·split at h
  ·rename_i x rr hx
   obtain⟨v,hK,hs⟩:=tF (P:=P) true _ _ h;refine⟨v,_,_,_,hK,aU hd fun S w ι H' a M hr ha=>?_⟩;obtain⟨h1,h2⟩:=hargs hr;rw[hx]at h1 h2;obtain⟨vx,vs,hvs⟩:∃vx vs,(args.map a.eval).toList=vx::vs:=by
    cases e:(args.map a.eval).toList with
    |nil=>rw[←aeO,e]at h1;simp at h1
    |cons vx vs=>exact⟨vx,vs,rfl⟩
   have hget:∀i,(args.map a.eval).getD i undef=(vx::vs).getD i undef:=fun i=>by rw[←hvs];simp[aej]
   have hlen:vs.length=rr.length:=by rw[←aeO,hvs]at h1;simpa using h1.symm
   obtain⟨val,g1,g2⟩:=hs (S:=S) (w:=w) (ι:=ι) (vx:=vx) (vs:=vs) (by have:=h2 0 (by simp);rw[hget]at this;simpa [aC]using this) hlen
    (fun i hi=>by have:=h2 (i+1) (by simp;omega);rw[hget]at this;simpa [aC]using this)
   refine⟨val,ji ho (fun _=>rfl) ?_,g2⟩;simp only[Builtin.max_,hvs];exact g1
  ·exact h.elim
 ·split at h
  ·rename_i x rr hx
   obtain⟨v,hK,hs⟩:=tF (P:=P) false _ _ h;refine⟨v,_,_,_,hK,aU hd fun S w ι H' a M hr ha=>?_⟩;obtain⟨h1,h2⟩:=hargs hr;rw[hx]at h1 h2;obtain⟨vx,vs,hvs⟩:∃vx vs,(args.map a.eval).toList=vx::vs:=by
    cases e:(args.map a.eval).toList with
    |nil=>rw[←aeO,e]at h1;simp at h1
    |cons vx vs=>exact⟨vx,vs,rfl⟩
   have hget:∀i,(args.map a.eval).getD i undef=(vx::vs).getD i undef:=fun i=>by rw[←hvs];simp[aej]
   have hlen:vs.length=rr.length:=by rw[←aeO,hvs]at h1;simpa using h1.symm
   obtain⟨val,g1,g2⟩:=hs (S:=S) (w:=w) (ι:=ι) (vx:=vx) (vs:=vs) (by have:=h2 0 (by simp);rw[hget]at this;simpa [aC]using this) hlen
    (fun i hi=>by have:=h2 (i+1) (by simp;omega);rw[hget]at this;simpa [aC]using this)
   refine⟨val,ji ho (fun _=>rfl) ?_,g2⟩;simp only[Builtin.min_,hvs];exact g1
  ·exact h.elim
 ·exact h.elim
variable {P:Program} {r:Option Nat} {τ:TypeId→Option TE}
def Obj.plain:Obj→Bool
 |.cells _ _ _=>false
 |_=>true
theorem gT {w:World} {b:Nat} {o:Obj} (h:w.heap[b]? =some o) (hp:Obj.plain o=true) (j:Nat):rd w b j=none:=by
 unfold rd;rw[h];cases o<;>simp_all[Obj.plain]
theorem IY {ι:Ix} {k b:Nat} {o:AO} (hT:o.isTok=false) (hE:o.isExt=false) (hX:o.excl=true) (hb:ι.o k=some b) (b':Nat):o.has ι k b'↔b'=b:=by
 have e:o.has ι k b'↔ι.o k=some b':=by
  cases o with
  |cells c fz=>cases fz with
   |true=>simp[AO.excl]at hX
   |false=>exact Iff.rfl
  |_=>first|exact Iff.rfl|(simp[AO.isTok]at hT;done)|(simp[AO.isExt]at hE;done)
 rw[e,hb];exact⟨fun h=>(Option.some.inj h).symm,fun h=>by rw[h]⟩
theorem oM {ι:Ix} {k b:Nat} {o:AO} (h:o.has ι k b):o.excl=true:=by
 cases o with
 |cells c fz=>cases fz with
  |true=>exact h.elim
  |false=>rfl
 |_=>rfl
theorem mW {ι ι1:Ix} {k k1:Nat} {o o1:AO} (eo:ι1.o k1=ι.o k) (et:ι1.t k1=ι.t k) (ex:ι1.x k1=ι.x k) (hT:o1.isTok=o.isTok) (hE:o1.isExt=o.isExt) (hX:o1.excl=o.excl) (b:Nat):o1.has ι1 k1 b↔o.has ι k b:=by
 have key:∀{ι:Ix} {k:Nat} {o:AO},o.has ι k b↔(match o.isTok with|true=>∃n,ι.t k=some (b,n)|false=>match o.isExt with|true=>ι.x k b|false=>match o.excl with|true=>ι.o k=some b|false=>False):=by
  intro ι k o;cases o with
  |cells c fz=>cases fz<;>exact Iff.rfl
  |_=>exact Iff.rfl
 rw[key,key,hT,hE,hX,eo,et,ex]
theorem Ej {ι:Ix} {k b:Nat} {o:AO} (hT:o.isTok=false) (hE:o.isExt=false) (hb:ι.o k=some b) (b':Nat) (h:o.has ι k b'):b'=b:=by
 cases hX:o.excl with
 |true=>exact(IY hT hE hX hb b').1 h
 |false=>cases o with
  |cells c fz=>cases fz with
   |true=>exact h.elim
   |false=>simp[AO.excl]at hX
  |_=>simp[AO.excl]at hX
theorem fJ {o:Obj} (h:Obj.plain o=true):Unf (some o):=by cases o<;>first|(simp[Obj.plain]at h;done)|exact fun _=>rfl
theorem Mem.putObj {S:Imm} {w w':World} {ι:Ix} {H:Hp} (M:Mem S w ι H) {k b:Nat} {o o':AO} {x y:Obj} (ho:ay H k=some o) (hx:o.excl=true) (hoT:o.isTok=false) (hoT':o'.isTok=false) (hoE:o.isExt=false) (hoE':o'.isExt=false)
 (hb:ι.o k=some b) (hw:w.heap[b]? =some x) (hpx:Obj.plain x=true) (hpy:Obj.plain y=true) (below:Bel w w') (here:w'.heap[b]? =some y) (other:∀b',b'≠b→w'.heap[b']? =w.heap[b']?)
 (hobj:∀S',Keeps S w S' w'→gu S' w' ι k o'):Mem S w' ι (aR H k o')∧Keeps S w S w'∧∀p,Tr p S w ι H S w' ι (aR H k o'):=by
 have hbl:o.has ι k b:=(IY hoT hoE hx hb b).2 rfl;have hbl':∀b',o'.has ι k b'→b'=b:=Ej hoT' hoE' hb;have hnS:∀j,¬S b j:=fun j hs=>by have:=M.imm b j hs;rw[gT hw hpx]at this;simp at this
 have hkeep:Keeps S w S w':=by
  refine⟨fun b' j hs=>⟨hs,?_⟩,fun b' j hs=>?_⟩
  ·by_cases e:b'=b
   ·subst e;exact absurd hs (hnS j)
   ·exact cB (other b' e) j
  ·by_cases e:b'=b
   ·subst e;rw[gT hw hpx]at hs;simp at hs
   ·rw[cB (other b' e) j];exact hs
 have ht:ι.t k=none:=by
  cases et:ι.t k with
  |none=>rfl
  |some x=>obtain⟨o,g1,g2⟩:=M.liveT k x et;rw[ho]at g1;cases g1;rw[hoT]at g2;cases g2
 obtain⟨m,t⟩:=M.step1 (b:=b) (k:=k) (o':=o') below (fun b' _ hb'=>other b' hb') hkeep (fun b' j h=>.inl h) (fun j hs=>absurd hs (hnS j)) (.refl _) (fun _ _=>rfl) (fun _ _=>rfl) rfl
  (.inr ⟨o,ho,hx,hbl⟩) hbl' (fun h=>by rw[hoT']at h;cases h) (fun _=>ht) (hobj S hkeep)
 exact⟨m,hkeep,t⟩
theorem Mem.newObj {S:Imm} {w:World} {ι:Ix} {H:Hp} (M:Mem S w ι H) {k:Nat} (hk:ay H k=none) {o':AO} {y:Obj} (hoT:o'.isTok=false) (hoE:o'.isExt=false) (hy:Obj.plain y=true)
 (hobj:∀w',Keeps S w S w'→w'.heap[w.heap.size]? =some y→gu S w' (ι.seto k w.heap.size) k o'):
 Mem S {w with heap:=w.heap.push y} (ι.seto k w.heap.size) (aR H k o')∧∀p,Tr p S w ι H S {w with heap:=w.heap.push y} (ι.seto k w.heap.size) (aR H k o'):=by
 have ho:=M.none_o hk;have hkeep:=jN M.imm (w:=w) y;have hnoS:∀j,¬S w.heap.size j:=fun j hs=>by have:=dZ (M.imm _ _ hs);omega
 refine M.step1 (b:=w.heap.size) (jM _ _ (fJ hy)) (fun b' hb' _=>gI hb') hkeep (fun b' j h=>.inl h) (fun j h=>absurd h (hnoS j))
  (jg ho) (fun k' h=>by simp[Ix.seto,h]) (fun _ _=>rfl) rfl (.inl (aea _)) (Ej hoT hoE (by simp[Ix.seto])) (fun h=>by rw[hoT]at h;cases h) (fun _=>M.none_t hk) (hobj _ hkeep (fC _ _))
theorem Cu {md rf CP YP} {o:Oper} {ρ:Operand→PV} {H:Hp} {n:Nat} {t:TypeId} {x:Option Operand} (ho:o.op=.makeMap t x) {K:KR}
 (h:opK τ md rf CP YP ρ H n o.dst o.op K):∃v sets accs news,K v sets accs news∧bB P r o ρ H v sets accs news:=by
 have hd:∀c,o.op≠ .defer c:=fun c e=>by rw[ho]at e;cases e
 rw[ho]at h;cases x with
 |some x=>exact h.elim
 |none=>
  simp only[opK,cZ]at h;refine⟨_,_,_,_,h.2,fun S w ι H' a next Q M hr ha hn hk=>?_⟩;have hno:=hn n (by simp)
  obtain⟨M',T⟩:=M.newObj (y:=.map #[] 0) (o':=.map []) hno rfl rfl rfl (fun w' hk' hh=>⟨w.heap.size, #[],0,by simp[Ix.seto],hh,rfl,fun i h=>by simp at h⟩)
  refine dU hd (w':={w with heap:=w.heap.push (.map #[] 0)}) (val:=.map (some w.heap.size)) ?_ (hk _ S _ _ M' (jg (M.none_o hno)) (jN M.imm _) (.rm _ _ _ (by simp[Ix.seto])) T)
  simp only[execOp,ho];refine dH ?_;simp[Instr.makeMap,Result.andThen]
theorem yO (hτ:aV P τ) {md rf CP YP} {o:Oper} {ρ:Operand→PV} {H:Hp} {n:Nat} {t:TypeId} {l c:Operand} (ho:o.op=.makeSlice t l c) {K:KR}
 (h:opK τ md rf CP YP ρ H n o.dst o.op K):∃v sets accs news,K v sets accs news∧bB P r o ρ H v sets accs news:=by
 have hd:∀c,o.op≠ .defer c:=fun c e=>by rw[ho]at e;cases e
 rw[ho]at h;simp only[opK,bX]at h;obtain⟨te,ht,h⟩:=h;split at h
 ·rename_i e hu
  obtain⟨te',he,h⟩:=h;split at h
  ·rename_i x0 hl
   split at h
   ·rename_i x hc
    obtain⟨⟨h1,h2,h3,rfl⟩,h⟩:=h;rw[cZ]at h;obtain⟨hfr,h⟩:=h;have hrun:∀{S:Imm} {w:World} {ι:Ix} {a:Act},(∀x∈o.op.operands.toList,Rep S w ι (ρ x) (a.eval x))→
     ∃arr,(execOp a.eval o).run P w=.ok (.value (.slice (some ⟨w.heap.size,0,none⟩) x.toNat x.toNat)) {w with heap:=w.heap.push (.cells arr e)}∧
      arr=(ae9 (x.toNat*te'.size)).map (te'.zero.cells[·% te'.zero.cells.size]!):=by
     intro S w ι a hr;have r1:=hr l (by simp[ho,Op.operands])
     have r2:=hr c (by simp[ho,Op.operands])
     rw[hl]at r1;rw[hc]at r2;cases e1:a.eval l<;>rw[e1]at r1<;>cases r1
     cases e2:a.eval c<;>rw[e2]at r2<;>cases r2
     obtain⟨i,hi,hz,hs,hb⟩:=jc hτ he w;refine⟨_,?_,rfl⟩;simp only[execOp,ho];refine dH ?_;simp only[Instr.makeSlice,Sem.run_bind,run_underlying (hτ.und _ _ ht),hu,Result.andThen,e1,e2,asInt,asIntOf,Sem.run_pure,hi,vK h3,hb];have hmul:(te'.bytes:Int)*x≤281474976710656:=by rw[Int.mul_comm];exact h2
     rw[if_neg (by
      simp only[afs,decide_eq_true_eq];have:(2:Int) ^ 48=281474976710656:=by decide
      rw[this];omega)]
     simp only[Sem.run_bind,run_askRoom,Result.andThen,bK hτ he];by_cases h0:x.toNat*te'.size=0
     ·rw[if_pos h0]
      have e0:∀f g:Nat→Value,(ae9 0).map f=(ae9 0).map g:=fun f g=>by apply afr<;>simp
      simp[h0,Result.andThen,newRow];rw[e0]
     ·rw[if_neg h0]
      simp[fV hτ he,Result.andThen,newRow]
    have hget:∀{j:Nat},j<x.toNat*te'.size→((ae9 (x.toNat*te'.size)).map (te'.zero.cells[·% te'.zero.cells.size]!)).getD j undef=te'.zero.cells.getD (j % te'.size) undef:=by
     intro j hj;have hz:=hτ.zsz _ _ he;have hpos:0<te'.size:=by rcases aee te'.size with h|h;(rw[h]at hj;simp at hj);exact h
     have hm:j % te'.size<te'.zero.cells.size:=by rw[hz];exact afa _ hpos
     simp[aej,hj,hz,getElem!_pos,hm,afa _ hpos]
    split at h
    ·rw[bD,aL,aeA]at h
     obtain⟨⟨g1,g2⟩,h⟩:=h;have g1:=aeB g1;have g2:=aeK g2;refine⟨_,_,_,_,h,kN hd fun S w ι H' a M hr ha=>?_⟩;obtain⟨arr,r1,r2⟩:=hrun hr;refine⟨_,arr,e,r1,by rw[r2];simp[CL.ncell],fun j hj=>?_,fun S' w' ι' hi hw=>.rsl _ _ _ _ _ _ hi (aea _) (fun _ j hj=>by
      have:=afb x.toNat g2;have hs:arr.size=x.toNat*te'.size:=by rw[r2];simp
      rw[aN hw,aeg (by omega)];rfl)⟩
     simp only[CL.ncell,List.length_replicate]at hj;rw[r2,hget hj];have hd':j / te'.size<x.toNat:=by rw[aeT g2];exact hj
     have hm:j % te'.size<te'.zero.cells.toList.length:=by simp[hτ.zsz _ _ he];exact afa _ g2
     simp only[CL.get,aeo,afo,if_pos hd',afl];have:=qL (S:=S) (w:=w) (ι:=ι) te'.zero.cells.toList (j % te'.size) hm;simpa [aej]using this
    ·rw[aL]at h
     obtain⟨g1,h⟩:=h;have g1:=aeB g1;obtain⟨zc,d,h,d1,d2,d3⟩:=BR h;refine⟨_,_,_,_,h,kN hd fun S w ι H' a M hr ha=>?_⟩;obtain⟨arr,r1,r2⟩:=hrun hr;have hnc:d.ncell=x.toNat:=by rw[bN,d1,d2,aeL]
     refine⟨_,arr,e,r1,by rw[r2,hnc];simp[g1],fun j hj=>?_,fun S' w' ι' hi hw=>.rsl _ _ _ _ _ _ hi (aea _) (fun _ j hj=>by
      have hs:arr.size=x.toNat:=by rw[r2];simp[g1]
      rw[aN hw,aeg (by omega)];rfl)⟩
     rw[hnc]at hj;rw[r2,hget (by rw[g1];omega),g1,afp,zc]
     exact d3 j hj
   ·exact h.elim
  ·exact h.elim
 ·exact h.elim
def zY (S:Imm) (w:World) (ι:Ix) (es:List (PV × PV)) (ents:List MapEntry):Prop:=
 ents.length=es.length∧∀i (h:i<es.length) (h':i<ents.length),Rep S w ι es[i].1 ents[i].key∧Rep S w ι es[i].2 ents[i].val
theorem zY.cons {S:Imm} {w:World} {ι:Ix} {k v:PV} {es:List (PV × PV)} {ents:List MapEntry} (h:zY S w ι ((k,v)::es) ents):
 ∃e ents',ents=e::ents'∧Rep S w ι k e.key∧Rep S w ι v e.val∧zY S w ι es ents':=by
 obtain⟨h1,h2⟩:=h;cases ents with
 |nil=>simp at h1
 |cons e ents=>
  have h0:=h2 0 (by simp) (by simp)
  exact⟨e,ents,rfl,h0.1,h0.2,by simpa using h1,fun i hi hi'=>h2 (i+1) (by simpa using hi) (by simpa using hi')⟩
theorem pY (s t:ByteArray):Instr.sameNow .string (.string s) (.string t)=some (decide (s=t)):=by
 simp only[Instr.sameNow,Option.some.injEq];by_cases h:s=t
 ·rw[decide_eq_true h];exact(MapKept.bytes_beq s t).2 h
 ·rw[decide_eq_false h]
  cases e:(s==t)with
  |false=>rfl
  |true=>exact absurd ((MapKept.bytes_beq s t).1 e) h
theorem tH {S:Imm} {w:World} {ι:Ix} {s:ByteArray}:∀(es:List (PV × PV)) (ents:List MapEntry) (i:Nat),yB s es→zY S w ι es ents→Instr.findNow .string (.string s) ents i=some none:=by
 intro es;induction es with
 |nil=>
  intro ents i h he;have:ents=[]:=aft.1 he.1;subst this;rfl
 |cons x es ih=>
  intro ents i h he;obtain⟨k,v⟩:=x;obtain⟨e,ents',rfl,h1,h2,h3⟩:=he.cons;cases k<;>first|exact h.elim|skip
  obtain⟨hne,h⟩:=h;generalize hkk:e.key=kk at h1
  cases h1
  simp only[Instr.findNow,hkk,pY,decide_eq_false hne];exact ih ents' (i+1) h h3
theorem Hf {s:ByteArray} {z:PV} {ok:Bool} {K:PV→Prop}:∀(es:List (PV × PV)),C8 s z ok es K→∃v,K v∧∀{S:Imm} {w:World} {ι:Ix} {ents:List MapEntry} {zv:Value},zY S w ι es ents→Rep S w ι z zv→
 ∃res:Option Value,(∀i,∃j,Instr.findNow .string (.string s) ents i=some (res.map fun v=>(j,v)))∧Rep S w ι v (if ok then .tuple #[res.getD zv,.bool res.isSome]else res.getD zv):=by
 have fin:∀(p:PV) (b:Bool),K (match ok with|true=>.tup [p,.bool b]|false=>p)→∃v,K v∧∀{S:Imm} {w:World} {ι:Ix} {val:Value},Rep S w ι p val→Rep S w ι v (if ok then .tuple #[val,.bool b]else val):=by
  intro p b h;refine⟨_,h,fun hr=>?_⟩;cases ok with
  |false=>exact hr
  |true=>
   refine .tup _ _ _ rfl (fun i hi=>?_);simp at hi;have:i=0∨i=1:=by omega
   rcases this with rfl|rfl
   ·exact hr
   ·exact .bool _ _
 intro es;induction es with
 |nil=>
  intro h;simp only[C8,bE]at h;obtain⟨v,hK,hv⟩:=fin _ _ h;refine⟨v,hK,fun he hz=>⟨none,fun i=>⟨0,?_⟩,hv hz⟩⟩;have:=aft.1 he.1;subst this;rfl
 |cons x es ih=>
  intro h;obtain⟨k,u⟩:=x;cases k<;>first|exact h.elim|skip
  rename_i t;obtain⟨ha,hb⟩:=h;by_cases e:s=t
  ·have ha:=ha e
   rw[bE]at ha;obtain⟨v,hK,hv⟩:=fin _ _ ha;refine⟨v,hK,fun he hz=>?_⟩;obtain⟨en,ents',rfl,h1,h2,h3⟩:=he.cons;refine⟨some en.val,fun i=>⟨i,?_⟩,hv h2⟩;generalize hkk:en.key=kk at h1
   cases h1
   simp[Instr.findNow,hkk,pY,e]
  ·obtain⟨v,hK,hv⟩:=ih (hb e)
   refine⟨v,hK,fun he hz=>?_⟩;obtain⟨en,ents',rfl,h1,h2,h3⟩:=he.cons;obtain⟨res,g1,g2⟩:=hv h3 hz;refine⟨res,fun i=>?_,g2⟩;obtain⟨j,hj⟩:=g1 (i+1);refine⟨j,?_⟩;generalize hkk:en.key=kk at h1
   cases h1
   simp only[Instr.findNow,hkk,pY,decide_eq_false e];exact hj
theorem Mem.map {S:Imm} {w:World} {ι:Ix} {H:Hp} (M:Mem S w ι H) {k b:Nat} {es:List (PV × PV)} (h:ay H k=some (.map es)) (hb:ι.o k=some b):
 ∃ents clock,w.heap[b]? =some (.map ents clock)∧zY S w ι es ents.toList:=by
 obtain⟨b',ents,clock,h1,h2,h3,h4⟩:=M.obj k _ h;rw[hb]at h1;cases h1
 exact⟨ents,clock,h2,by simpa using h3,fun i hi hi'=>by simpa using h4 i hi (by simpa using hi')⟩
theorem Hg {te:TE} {K:PV→Prop} (h:J9 te K):∃z,K z∧∀S w ι,Rep S w ι z te.zero:=by
 unfold J9 at h;split at h
 ·rename_i cs hz
  rw[bD]at h;refine⟨_,h,fun S w ι=>?_⟩;rw[hz];refine .agg _ _ _ (by simp[lV]) (fun i hi=>?_)
  rw[lV]at hi;have:=qL (S:=S) (w:=w) (ι:=ι) cs.toList i hi;simpa [aej]using this
 ·rw[bE]at h
  exact⟨_,h,fun S w ι=>zW _⟩
theorem El (hτ:aV P τ) {md rf CP YP} {o:Oper} {ρ:Operand→PV} {H:Hp} {n:Nat} {t:TypeId} {m k:Operand} {ok:Bool} (ho:o.op=.lookup t m k ok) {K:KR}
 (h:opK τ md rf CP YP ρ H n o.dst o.op K):∃v sets accs news,K v sets accs news∧bB P r o ρ H v sets accs news:=by
 have hd:∀c,o.op≠ .defer c:=fun c e=>by rw[ho]at e;cases e
 rw[ho]at h;simp only[opK,bX]at h;obtain⟨te,ht,h⟩:=h;split at h
 ·rename_i kt et hu
  obtain⟨tk,hk,h⟩:=h;split at h
  ·rename_i huk
   obtain⟨tz,hz,h⟩:=h;split at h
   ·rename_i i hm
    split at h
    ·rename_i s hs
     rw[bg]at h;obtain⟨ob,hob,h⟩:=h;split at h
     ·rename_i es
      obtain⟨z,h,hz'⟩:=Hg h;obtain⟨v,hK,hv⟩:=Hf _ h;refine⟨v,_,_,_,hK,aU hd fun S w ι H' a M hr ha=>?_⟩;have r1:=hr m (by simp[ho,Op.operands])
      have r2:=hr k (by simp[ho,Op.operands])
      rw[hm]at r1;rw[hs]at r2;cases e1:a.eval m<;>rw[e1]at r1<;>cases r1
      cases e2:a.eval k<;>rw[e2]at r2<;>cases r2
      rename_i b hb;obtain⟨ents,clock,g1,g2⟩:=M.map ((ha i (by simp)).trans hob) hb
      obtain⟨res,q1,q2⟩:=hv g2 (hz' S w ι);obtain⟨j,hj⟩:=q1 0;refine⟨_,?_,q2⟩;simp only[execOp,ho];refine dH ?_;have hu':P.underlying kt=some .string:=by rw[hτ.und _ _ hk,huk]
      simp only[Instr.lookup,Sem.run_bind,run_underlying (hτ.und _ _ ht),hu,Result.andThen,e1,e2,MapKept.run_getObj_map g1,Sem.run_pure,
       MapKept.run_checkKey (w:=w) (k:=.string s) hu' trivial _ 9999,MapKept.run_findKey hu' hj]
      cases res with
      |none=>simp[fV hτ hz,Result.andThen]
      |some x=>simp[Result.andThen]
     ·exact h.elim
    ·exact h.elim
   ·exact h.elim
  ·exact h.elim
 ·exact h.elim
theorem Em (hτ:aV P τ) {md rf CP YP} {o:Oper} {ρ:Operand→PV} {H:Hp} {n:Nat} {t:TypeId} {m k u:Operand} (ho:o.op=.insert t m k u) {K:KR}
 (h:opK τ md rf CP YP ρ H n o.dst o.op K):∃v sets accs news,K v sets accs news∧bB P r o ρ H v sets accs news:=by
 have hd:∀c,o.op≠ .defer c:=fun c e=>by rw[ho]at e;cases e
 rw[ho]at h;simp only[opK,bX]at h;obtain⟨te,ht,h⟩:=h;split at h
 ·rename_i kt et hu
  obtain⟨tk,hk,h⟩:=h;split at h
  ·rename_i huk
   split at h
   ·rename_i i hm
    split at h
    ·rename_i s hs
     rw[bE,bg]at h;obtain⟨ob,hob,h⟩:=h;split at h
     ·rename_i es
      obtain⟨hnk,hK⟩:=h;refine⟨_,_,_,_,hK,fun S w ι H' a next Q M hr ha hn hkk=>?_⟩;have r1:=hr m (by simp[ho,Op.operands])
      have r2:=hr k (by simp[ho,Op.operands])
      have r3:=hr u (by simp[ho,Op.operands])
      rw[hm]at r1;rw[hs]at r2;cases e1:a.eval m<;>rw[e1]at r1<;>cases r1
      cases e2:a.eval k<;>rw[e2]at r2<;>cases r2
      rename_i b hb;have hob':=(ha i (by simp)).trans hob
      obtain⟨ents,clock,g1,g2⟩:=M.map hob' hb;have hu':P.underlying kt=some .string:=by rw[hτ.und _ _ hk,huk]
      have hf:=tH es ents.toList 0 hnk g2;have hnew:=MapKept.heap_set (o':=.map (ents.push {key:=.string s,val:=a.eval u,born:=clock}) (clock+1)) g1;obtain⟨M',K',T⟩:=M.putObj (o':=.map (es++[(.str s,ρ u)])) (y:=.map (ents.push {key:=.string s,val:=a.eval u,born:=clock}) (clock+1)) (w':={w with heap:=w.heap.setIfInBounds b (.map (ents.push {key:=.string s,val:=a.eval u,born:=clock}) (clock+1))})
       hob' rfl rfl rfl rfl rfl hb g1 rfl rfl (.block b rfl rfl rfl (by simp) hnew.2 (by rw[g1];exact fJ rfl) (by rw[hnew.1];exact fJ rfl) (fun _=>by simp[bsz,g1,hnew.1])) hnew.1 hnew.2 (fun S' hk'=>by
        refine⟨b,_,_,hb,hnew.1,by simp[g2.1,←aeO],fun i hi hi'=>?_⟩
        have hl:ents.size=es.length:=by simpa using g2.1
        simp only[afu,ad4,adY,aeC]at hi;by_cases hlt:i<es.length
        ·have:=g2.2 i hlt (by simpa [hl]using hlt)
         rw[afv hlt,afw (by omega)]
         exact⟨this.1.mono hk' _ (.refl _),this.2.mono hk' _ (.refl _)⟩
        ·have:i=es.length:=by omega
         subst this;rw[afx (aea _)];simp only[←hl,afy,aeM,afz];exact⟨.str _ _,r3.mono hk' _ (.refl _)⟩)
      refine iR hd ?_ (hkk undef S _ ι M' (.refl _) K' (.any _ _) T);simp only[execOp,ho];refine qM ?_;simp only[Instr.mapUpdate,Sem.run_bind,run_underlying (hτ.und _ _ ht),hu,Result.andThen,e1,e2,MapKept.run_getObj_map g1,
       MapKept.run_checkKey (w:=w) (k:=.string s) hu' trivial _ 9999,MapKept.run_findKey hu' hf,MapKept.run_setObj_map _ g1]
     ·exact h.elim
    ·exact h.elim
   ·exact h.elim
  ·exact h.elim
 ·exact h.elim
theorem yP (hτ:aV P τ) {md rf CP YP} {o:Oper} {ρ:Operand→PV} {H:Hp} {n:Nat} {t:TypeId} {m k u:Operand} (ho:o.op=.mapUpdate t m k u) {K:KR}
 (h:opK τ md rf CP YP ρ H n o.dst o.op K):∃v sets accs news,K v sets accs news∧bB P r o ρ H v sets accs news:=by
 have hd:∀c,o.op≠ .defer c:=fun c e=>by rw[ho]at e;cases e
 rw[ho]at h;simp only[opK,bX]at h;obtain⟨te,ht,h⟩:=h;split at h
 ·rename_i kt et hu
  obtain⟨tk,hk,h⟩:=h;split at h
  ·rename_i huk
   split at h
   ·rename_i i hm
    split at h
    ·rename_i s hs
     rw[bE,bg]at h;obtain⟨ob,hob,h⟩:=h;split at h
     ·rename_i es
      obtain⟨hnk,hK⟩:=h;refine⟨_,_,_,_,hK,fun S w ι H' a next Q M hr ha hn hkk=>?_⟩;have r1:=hr m (by simp[ho,Op.operands])
      have r2:=hr k (by simp[ho,Op.operands])
      have r3:=hr u (by simp[ho,Op.operands])
      rw[hm]at r1;rw[hs]at r2;cases e1:a.eval m<;>rw[e1]at r1<;>cases r1
      cases e2:a.eval k<;>rw[e2]at r2<;>cases r2
      rename_i b hb;have hob':=(ha i (by simp)).trans hob
      obtain⟨ents,clock,g1,g2⟩:=M.map hob' hb;have hu':P.underlying kt=some .string:=by rw[hτ.und _ _ hk,huk]
      have hf:=tH es ents.toList 0 hnk g2;have hnew:=MapKept.heap_set (o':=.map (ents.push {key:=.string s,val:=a.eval u,born:=clock}) (clock+1)) g1;obtain⟨M',K',T⟩:=M.putObj (o':=.map (es++[(.str s,ρ u)])) (y:=.map (ents.push {key:=.string s,val:=a.eval u,born:=clock}) (clock+1)) (w':={w with heap:=w.heap.setIfInBounds b (.map (ents.push {key:=.string s,val:=a.eval u,born:=clock}) (clock+1))})
       hob' rfl rfl rfl rfl rfl hb g1 rfl rfl (.block b rfl rfl rfl (by simp) hnew.2 (by rw[g1];exact fJ rfl) (by rw[hnew.1];exact fJ rfl) (fun _=>by simp[bsz,g1,hnew.1])) hnew.1 hnew.2 (fun S' hk'=>by
        refine⟨b,_,_,hb,hnew.1,by simp[g2.1,←aeO],fun i hi hi'=>?_⟩
        have hl:ents.size=es.length:=by simpa using g2.1
        simp only[afu,ad4,adY,aeC]at hi;by_cases hlt:i<es.length
        ·have:=g2.2 i hlt (by simpa [hl]using hlt)
         rw[afv hlt,afw (by omega)]
         exact⟨this.1.mono hk' _ (.refl _),this.2.mono hk' _ (.refl _)⟩
        ·have:i=es.length:=by omega
         subst this;rw[afx (aea _)];simp only[←hl,afy,aeM,afz];exact⟨.str _ _,r3.mono hk' _ (.refl _)⟩)
      refine iR hd ?_ (hkk undef S _ ι M' (.refl _) K' (.any _ _) T);simp only[execOp,ho];refine qM ?_;simp only[Instr.mapUpdate,Sem.run_bind,run_underlying (hτ.und _ _ ht),hu,Result.andThen,e1,e2,MapKept.run_getObj_map g1,
       MapKept.run_checkKey (w:=w) (k:=.string s) hu' trivial _ 9999,MapKept.run_findKey hu' hf,MapKept.run_setObj_map _ g1]
     ·exact h.elim
    ·exact h.elim
   ·exact h.elim
  ·exact h.elim
 ·exact h.elim
variable {P:Program} {r:Option Nat} {τ:TypeId→Option TE}
theorem Mem.freeze {S:Imm} {w:World} {ι:Ix} {H:Hp} (M:Mem S w ι H) {k:Nat} {c c':CL} (h:ay H k=some (.cells c false)) (hn:c'.ncell=c.ncell)
 (hc:∀j,j<c.ncell→∀{S:Imm} {w:World} {ι:Ix} {v:Value},Rep S w ι (c.get j) v→Rep S w noI (c'.get j) v):
 ∃S',Mem S' w ι (aR H k (.cells c' true))∧Keeps S w S' w∧(∀p,Tr p S w ι H S' w ι (aR H k (.cells c' true)))∧
  ∀b,ι.o k=some b→∀j,j<c'.ncell→S' b j∧Rep S' w noI (c'.get j) (rdv w b j):=by
 obtain⟨b,arr,e,h1,h2,h3,h4,h5⟩:=M.obj k _ h
 let S':Imm:=fun b' j=>S b' j∨(b'=b∧j<c'.ncell)
 have hk:Keeps S w S' w:=⟨fun b' j hs=>⟨.inl hs,rfl⟩,fun b' j hs=>hs⟩;have hrep:∀j,j<c'.ncell→Rep S' w noI (c'.get j) (arr.getD j undef):=fun j hj=>by
  have:=h4 j (by omega)
  exact(hc j (by omega) this).mono hk _ (.refl _)
 have ht:ι.t k=none:=by
  cases et:ι.t k with
  |none=>rfl
  |some x=>obtain⟨o,g1,g2⟩:=M.liveT k x et;rw[h]at g1;cases g1;simp[AO.isTok]at g2
 obtain⟨M',T⟩:=M.step1 (S':=S') (w':=w) (ι':=ι) (k:=k) (o':=.cells c' true) (b:=b) (Bel.refl _) (fun _ _ _=>rfl) hk (fun b' j hs=>by rcases hs with h|⟨h,_⟩;exact .inl h;exact .inr h)
  (fun j hs=>by
   rcases hs with h|⟨_,h⟩
   ·exact absurd h (h5 j)
   ·rw[aN h2,aeg (by omega)];rfl) (.refl _) (fun _ _=>rfl) (fun _ _=>rfl) rfl (.inr ⟨_,h,rfl,h1⟩) (fun b' h=>h.elim) (by simp[AO.isTok]) (fun _=>ht)
  ⟨b,h1,fun j hj=>⟨.inr ⟨rfl,hj⟩,by have:=hrep j hj;rw[aej]at this;rw[rdv,aN h2];exact this⟩⟩
 refine⟨S',M',hk,T,fun b' hb' j hj=>?_⟩;rw[h1]at hb';cases hb'
 refine⟨.inr ⟨rfl,hj⟩,?_⟩;have:=hrep j hj;rw[rdv,aN h2];rw[aej]at this;exact this
theorem En (hτ:aV P τ) {md rf CP YP} {o:Oper} {ρ:Operand→PV} {H:Hp} {n:Nat} {t:TypeId} {x y:Operand} (ho:o.op=.store t x y) (hfz:Kg rf x=true) {K:KR}
 (h:opK τ md rf CP YP ρ H n o.dst o.op K):∃v sets accs news,K v sets accs news∧bB P r o ρ H v sets accs news:=by
 rw[ho]at h;simp only[opK,bX,hfz]at h;obtain⟨te,ht,h⟩:=h;have hd:∀c,o.op≠ .defer c:=fun c e=>by rw[ho]at e;cases e
 unfold IJ at h;split at h
 ·rename_i k off hρ
  rw[bE]at h;obtain⟨cs,h,hs⟩:=oJ h;rw[bg]at h;obtain⟨ob,hob,h⟩:=h;split at h
  ·rename_i c fz
   split at h
   ·exact h.elim
   ·obtain⟨c',h,hn1,hn2,hget⟩:=BM h
    obtain⟨d,hK,d1,d2,d3⟩:=jC h;refine⟨_,_,_,_,hK,?_⟩;intro S w ι H' a next Q M hr ha hn hk;have hob':=(ha k (by simp)).trans hob
    have hr1:=hr x (by simp[ho,Op.operands])
    obtain⟨e1,e2,e3⟩:=hs (hr y (by simp[ho,Op.operands]))
    rw[hρ]at hr1;obtain⟨b,arr,e,g1,g2,g3,g4,g5⟩:=M.obj k _ hob';cases hev:a.eval x<;>rw[hev]at hr1<;>cases hr1
    rename_i b' hb';rw[g1]at hb';cases hb'
    have hone:∀v∈(a.eval y).cells.toList,v.oneCell'=true:=by
     intro v hv;obtain⟨i,hi,rfl⟩:=aeu hv;have h0:=e3 i (by rw[e2];simpa using hi)
     have:=h0.1.oneCell h0.2;simpa [aej,aeg (show i<(a.eval y).cells.size by simpa using hi)]using this
    have hsz:off+0+(a.eval y).cells.toList.length≤arr.size:=by simp[←e2];omega
    obtain⟨w',r1,u⟩:=dW P (a.eval y).cells.toList g2 hone hsz;have hc':∀j,j<c'.ncell→Rep S w ι (c'.get j) ((putRow arr (off+0) (a.eval y).cells.toList).getD j undef):=by
     intro j hj;refine hget j S w ι _ ?_ (by omega)
     rw[iP _ _ _ _ (by simp[←e2];omega)]
     simp only[adZ,aeO,←e2];split
     ·rename_i hin
      have:=(e3 (j-off) (by omega)).1
      simpa [aej]using this
     ·have:=g4 j (by omega)
      simpa using this
    obtain⟨M',T⟩:=M.write hob' g1 g2 u (by rw[dX];exact aea _) (by rw[dX];omega) hc'
    obtain⟨S1,M1,K1,T1,_⟩:=M'.freeze (k:=k) (c:=c') (c':=d) (by rw[aY,if_pos rfl]) d2 (fun j hj=>by intro S w ι v hr;exact d3 j hj hr)
    have hHH:∀k',ay (aR (aR H' k (.cells c' false)) k (.cells d true)) k'=ay (aR H' k (.cells d true)) k':=fun k'=>by
     rw[aY,aY,aY];by_cases e:k'=k
     ·rw[if_pos e,if_pos e]
     ·rw[if_neg e,if_neg e,if_neg e]
    refine iR hd (w':=w') ?_ (hk undef S1 w' ι (M1.congr hHH) (.refl _) ((T 0).keeps.trans K1) (.any _ _) (fun p=>((T p).trans (T1 p)).congr' hHH));simp only[execOp,ho];refine qM ?_;simp only[Instr.storeAt,hev,Instr.sureAddr,Sem.run_bind,Sem.run_pure,Result.andThen,storeVar,bK hτ ht];rw[if_neg (by simp[←e2,e1])]
    simpa [Result.andThen]using r1
  ·exact h.elim
 ·exact h.elim
theorem Mem.frozen {S:Imm} {w:World} {ι:Ix} {H:Hp} (M:Mem S w ι H) {k b:Nat} {c:CL} (h:ay H k=some (.cells c true)) (hb:ι.o k=some b):
 ∀j,j<c.ncell→S b j∧Rep S w noI (c.get j) (rdv w b j):=by
 obtain⟨b',h1,h2⟩:=M.obj k _ h;rw[hb]at h1;cases h1
 exact h2
theorem KC:∀(ps:List PV) {H:Hp} {K:List PV→List (Nat × AO)→List Nat→Prop},qK H ps K→∃cs sets acc,K cs sets acc∧
 ∀{S:Imm} {w:World} {ι:Ix} {H':Hp} {vs:List Value},Mem S w ι H'→(∀k∈acc,ay H' k=ay H k)→ps.length=vs.length→(∀i,i<ps.length→Rep S w ι (aC ps i) (vs.getD i undef))→
  ∃S',Mem S' w ι (aX H' sets)∧Keeps S w S' w∧(∀p,Tr p S w ι H' S' w ι (aX H' sets))∧cs.length=vs.length∧∀i,i<cs.length→Rep S' w ι (aC cs i) (vs.getD i undef):=by
 intro ps;induction ps with
 |nil=>
  intro H K h;exact⟨_,_,_,h,fun M ha hl hr=>⟨_,M,.refl _ _,fun p=>.refl _ _ _ _ _,hl,fun i hi=>by simp at hi⟩⟩
 |cons p ps ih=>
  intro H K h;have keep:∀{H:Hp} {K:List PV→List (Nat × AO)→List Nat→Prop},(qK H ps fun cs sets acc=>K (p::cs) sets acc)→∃cs sets acc,K cs sets acc∧
   ∀{S:Imm} {w:World} {ι:Ix} {H':Hp} {vs:List Value},Mem S w ι H'→(∀k∈acc,ay H' k=ay H k)→(p::ps).length=vs.length→(∀i,i<(p::ps).length→Rep S w ι (aC (p::ps) i) (vs.getD i undef))→
    ∃S',Mem S' w ι (aX H' sets)∧Keeps S w S' w∧(∀p,Tr p S w ι H' S' w ι (aX H' sets))∧cs.length=vs.length∧∀i,i<cs.length→Rep S' w ι (aC cs i) (vs.getD i undef):=by
   intro H K h;obtain⟨cs,sets,acc,hK,hs⟩:=ih h;refine⟨_,_,_,hK,fun M ha hl hr=>?_⟩;rename_i S w ι H' vs;cases vs with
   |nil=>simp at hl
   |cons v vs=>
    obtain⟨S',M',k',T,hl',hr'⟩:=hs (vs:=vs) M ha (by simpa using hl) (fun i hi=>by simpa [aC]using hr (i+1) (by simpa using hi))
    refine⟨S',M',k',T,by simp[hl'],fun i hi=>?_⟩
    cases i with
    |zero=>exact(hr 0 (by simp)).mono k' _ (.refl _)
    |succ i=>simpa [aC]using hr' i (by simpa using hi)
  unfold qK at h;split at h
  ·rename_i k off
   rw[bg]at h;obtain⟨ob,hob,h⟩:=h;split at h
   ·rename_i ds fz
    split at h
    ·obtain⟨cs,sets,acc,hK,hs⟩:=ih h
     refine⟨_,_,_,hK,fun M ha hl hr=>?_⟩;rename_i S w ι H' vs;cases vs with
     |nil=>simp at hl
     |cons v vs=>
      have hob':=(ha k (by simp)).trans hob
      obtain⟨S',M',k',T,hl',hr'⟩:=hs (vs:=vs) M (fun k' hk'=>ha k' (by simp[hk'])) (by simpa using hl) (fun i hi=>by simpa [aC]using hr (i+1) (by simpa using hi))
      refine⟨S',M',k',T,by simp[hl'],fun i hi=>?_⟩
      cases i with
      |zero=>
       have h0:=hr 0 (by simp)
       simp only[aC,ae1]at h0⊢;cases h0 with
       |rp _ _ _ b hb=>
        have hf:=M.frozen hob' hb;have:=Rep.ip (S:=S) (w:=w) ι (.pv ds) off b 0 (fun j hj=>by rw[aeC];exact(hf j hj).1) (fun j hj=>by rw[aeC];exact(hf j hj).2)
        rw[aeC]at this;exact this.mono k' _ (.refl _)
      |succ i=>simpa [aC]using hr' i (by simpa using hi)
    ·split at h
     ·rename_i es hes
      rw[bD,wR]at h;obtain⟨cs,sets,acc,hK,hs⟩:=ih h;refine⟨_,_,_,hK,fun M ha hl hr=>?_⟩;rename_i S w ι H' vs;cases vs with
      |nil=>simp at hl
      |cons v vs=>
       have hob':=(ha k (by simp)).trans hob
       obtain⟨q1,q2⟩:=kg hes;obtain⟨S1,M1,k1,T1,F1⟩:=M.freeze (c':=.pv es) hob' q1 (fun j hj=>by intro S w ι v hr;exact q2 j hj hr)
       obtain⟨S',M',k',T,hl',hr'⟩:=hs (vs:=vs) M1 (fun k' hk'=>by
        rw[aY,aY];by_cases e:k'=k
        ·simp[e]
        ·rw[if_neg e,if_neg e];exact ha k' (by simp[hk'])) (by simpa using hl)
        (fun i hi=>by have:=(hr (i+1) (by simpa using hi)).mono k1 _ (.refl _);simpa [aC]using this)
       refine⟨S',M',k1.trans k',fun p=>(T1 p).trans (T p),by simp[hl'],fun i hi=>?_⟩
       cases i with
       |zero=>
        have h0:=hr 0 (by simp)
        simp only[aC,ae1]at h0⊢;cases h0 with
        |rp _ _ _ b hb=>
         have hf:=F1 b hb;have:=Rep.ip (S:=S1) (w:=w) ι (.pv es) off b 0 (fun j hj=>by rw[aeC];exact(hf j hj).1) (fun j hj=>by rw[aeC];exact(hf j hj).2)
         rw[aeC]at this;exact this.mono k' _ (.refl _)
       |succ i=>simpa [aC]using hr' i (by simpa using hi)
     ·exact keep h
   ·exact keep h
  ·rw[bE]at h;exact keep h
theorem zZ {md rf CP YP} {o:Oper} {ρ:Operand→PV} {H:Hp} {n:Nat} {fn:Fn} {fs cs:Array Operand} (ho:o.op=.makeFunc fn fs cs) {K:KR}
 (h:opK τ md rf CP YP ρ H n o.dst o.op K):∃v sets accs news,K v sets accs news∧bB P r o ρ H v sets accs news:=by
 rw[ho]at h;have hd:∀c,o.op≠ .defer c:=fun c e=>by rw[ho]at e;cases e
 simp only[opK,bD]at h;split at h
 ·refine⟨_,_,_,_,h,aU hd fun S w ι H' a M hr ha=>?_⟩
  have h1:=kE (a:=a) fs (fun x hx=>hr x (by simp[ho,Op.operands]at hx⊢;exact .inl hx))
  have h2:=kE (a:=a) cs (fun x hx=>hr x (by simp[ho,Op.operands]at hx⊢;exact .inr hx))
  exact⟨.func fn (fs.map a.eval) (cs.map a.eval),by simp only[execOp,ho];exact dH rfl,.fn _ _ _ _ _ _ h1.1 h2.1 h1.2 h2.2⟩
 ·obtain⟨ds,sets,acc,hK,hs⟩:=KC _ h
  refine⟨_,_,_,_,hK,fun S w ι H' a next Q M hr ha hn hk=>?_⟩;have h1:=kE (a:=a) fs (fun x hx=>hr x (by simp[ho,Op.operands]at hx⊢;exact .inl hx))
  have h2:=kE (a:=a) cs (fun x hx=>hr x (by simp[ho,Op.operands]at hx⊢;exact .inr hx))
  obtain⟨S',M',k',T,hl,hr'⟩:=hs (vs:=(cs.map a.eval).toList) M ha (by simpa using h2.1) (fun i hi=>by have:=h2.2 i hi;simpa [aej]using this)
  refine dU hd (w':=w) (val:=.func fn (fs.map a.eval) (cs.map a.eval)) (by simp only[execOp,ho];exact dH rfl) (hk _ S' w ι M' (.refl _) k' ?_ T)
  exact .fn _ _ _ _ _ _ h1.1 (by simpa using hl) (fun i hi=>(h1.2 i hi).mono k' _ (.refl _)) (fun i hi=>by have:=hr' i hi;simpa [aej]using this)
def nU (P:Program) (B:Imm→World→Prop) (g:FuncId) (args:List PV) (H0:Hp) (v:PV) (sets:List (Nat × AO)) (accs news:List Nat):Prop:=
 (∀vs w,(callFunc g vs).run P w=.ok (.enter g vs) w)∧
 ∀(S:Imm) (w:World) (ι:Ix) (H:Hp) (vs:Array Value),B S w→Mem S w ι H→bC S w ι args vs→(∀k∈accs,ay H k=ay H0 k)→(∀k∈news,ay H k=none)→
  CallsIn (Fw none) 0 P g vs w fun e w'=>∃val S' ι',e=.returned val∧Mem S' w' ι' (aX H sets)∧ι.le ι'∧Keeps S w S' w'∧Rep S' w' ι' v val∧∀p,Tr p S w ι H S' w' ι' (aX H sets)
def jX:Imm→World→Prop:=gB
def iK (P:Program) (g:FuncId) (args:List PV) (H0:Hp) (v:PV) (sets:List (Nat × AO)) (accs news:List Nat):Prop:=nU P jX g args H0 v sets accs news
theorem iK.up {P:Program} {g:FuncId} {args:List PV} {H0:Hp} {v:PV} {sets:List (Nat × AO)} {accs news:List Nat} (h:iK P g args H0 v sets accs news) (B:Imm→World→Prop) (hg:∀S w,B S w→gB S w):nU P B g args H0 v sets accs news:=
 ⟨h.1,fun S w ι H vs hb=>h.2 S w ι H vs (hg _ _ hb)⟩
def jy (P:Program) (B:Imm→World→Prop) (CP:CPT):Prop:=∀g args n H K,CP g args n H K→∃v sets accs news,K v sets accs news∧nU P B g args H v sets accs news
def aW (P:Program) (CP:CPT):Prop:=jy P jX CP
theorem aW.up {P:Program} {CP:CPT} (h:aW P CP) (B:Imm→World→Prop) (hg:∀S w,B S w→gB S w:=by first|exact fun _ _ h=>h|exact fun _ _ h=>h.2|exact fun _ _ h=>h.2.2):jy P B CP:=fun g args n H K hk=>by
 obtain⟨v,sets,accs,news,h1,h2⟩:=h g args n H K hk;exact⟨v,sets,accs,news,h1,iK.up h2 B hg⟩
abbrev YPT:=Fn→Array Value→Array Value→List PV→Nat→Hp→KR→Prop
def QN (P:Program) (r:Option Nat) (B:Imm→World→Prop) (f:Fn) (us vs:Array Value) (args:List PV) (H0:Hp) (v:PV) (sets:List (Nat × AO)) (accs news:List Nat):Prop:=
 ∀(S:Imm) (w:World) (ι:Ix) (H:Hp) (o:Oper) (c:Call) (a:Act) (next:Act→World→Prop) (Q:Exit→Act→World→Prop) (vals:Array Value),o.op=.call c→
  B S w→Mem S w ι H→bC S w ι args vals→(∀k∈accs,ay H k=ay H0 k)→(∀k∈news,ay H k=none)→
  (∀(val:Value) (S':Imm) (w':World) (ι':Ix),Mem S' w' ι' (aX H sets)→ι.le ι'→Keeps S w S' w'→Rep S' w' ι' v val→(∀p,Tr p S w ι H S' w' ι' (aX H sets))→next (a.put o.dst val) w')→
  o.uponIn (Fw r) 0 P a next Q ((invoke (.fn f vs) (us++vals)).run P w)
def jY (P:Program) (r:Option Nat) (B:Imm→World→Prop) (YP:YPT):Prop:=
 ∀f us vs args n H K,YP f us vs args n H K→∃v sets accs news,K v sets accs news∧QN P r B f us vs args H v sets accs news
def lg (P:Program) (r:Option Nat) (B:Imm→World→Prop) (o:Oper) (ρ:Operand→PV) (H0:Hp) (v:PV) (sets:List (Nat × AO)) (accs news:List Nat):Prop:=
 ∀(S:Imm) (w:World) (ι:Ix) (H:Hp) (a:Act) (next:Act→World→Prop) (Q:Exit→Act→World→Prop),
  B S w→Mem S w ι H→(∀x∈o.op.operands.toList,Rep S w ι (ρ x) (a.eval x))→(∀k∈accs,ay H k=ay H0 k)→(∀k∈news,ay H k=none)→
  (∀(val:Value) (S':Imm) (w':World) (ι':Ix),Mem S' w' ι' (aX H sets)→ι.le ι'→Keeps S w S' w'→Rep S' w' ι' v val→(∀p,Tr p S w ι H S' w' ι' (aX H sets))→next (a.put o.dst val) w')→
  o.wpIn (Fw r) 0 P a w next Q
theorem bB.toB {B:Imm→World→Prop} {o:Oper} {ρ:Operand→PV} {H0:Hp} {v:PV} {sets:List (Nat × AO)} {accs news:List Nat} (h:bB P r o ρ H0 v sets accs news):lg P r B o ρ H0 v sets accs news:=
 fun S w ι H a next Q _=>h S w ι H a next Q
theorem qR {n:Nat} {f:FuncId} {args:Array Value} {w:World} {R:Ending→World→Prop} (h:CallsIn (Fw none) n P f args w R):CallsIn (Fw r) n P f args w R:=h
theorem fK {S:Imm} {w:World} {ι:Ix} {ps qs:List PV} {us vs:Array Value} (h:bC S w ι ps us) (g:bC S w ι qs vs):bC S w ι (ps++qs) (us++vs):=by
 refine⟨by simp[h.1,g.1],fun i hi=>?_⟩
 rw[aej];by_cases e:i<ps.length
 ·rw[(mK ps qs i).1 e,afj (by rw[←h.1];exact e),←aej]
  exact h.2 i e
 ·obtain⟨d,rfl⟩:∃d,i=ps.length+d:=⟨i-ps.length,by omega⟩
  rw[(mK ps qs d).2,afk (by rw[←h.1];omega),←h.1,Nat.add_sub_cancel_left,←aej]
  exact g.2 d (by simp at hi;omega)
theorem yQ {md rf CP YP} {B:Imm→World→Prop} (hC:jy P B CP) (hY:jY P r B YP) {o:Oper} {ρ:Operand→PV} {H:Hp} {n:Nat} {f:Operand} {args:Array Operand} {ats:Array TypeId} (ho:o.op=.call ⟨.value f,args,ats⟩) {K:KR}
 (h:opK τ md rf CP YP ρ H n o.dst o.op K):∃v sets accs news,K v sets accs news∧lg P r B o ρ H v sets accs news:=by
 rw[ho]at h;simp only[opK]at h;have hd:∀c,o.op≠ .defer c:=fun c e=>by rw[ho]at e;cases e
 have hargs:∀{S:Imm} {w:World} {ι:Ix} {a:Act},(∀x∈o.op.operands.toList,Rep S w ι (ρ x) (a.eval x))→bC S w ι (jW ρ args.toList) (args.map a.eval):=by
  intro S w ι a hr;exact kE args (fun x hx=>hr x (by simp[ho,Op.operands,Call.operands]at hx⊢;exact .inr hx))
 have hf:∀{S:Imm} {w:World} {ι:Ix} {a:Act},(∀x∈o.op.operands.toList,Rep S w ι (ρ x) (a.eval x))→Rep S w ι (ρ f) (a.eval f):=fun hr=>hr f (by simp[ho,Op.operands,Call.operands])
 split at h
 ·rename_i g fs cs hρ
  rw[bD]at h;obtain⟨v,sets,accs,news,hK,hent,hs⟩:=hC _ _ _ _ _ h;refine⟨v,sets,accs,news,hK,fun S w ι H' a next Q hBw M hr ha hn hk=>?_⟩;have h1:=hargs hr;have h2:=hf hr;rw[hρ]at h2;generalize hv:a.eval f=fv at h2
  cases h2 with
  |fn _ _ _ _ us vs hkk hl hu hvs=>
   have hres:(execOp a.eval o).run P w=.ok (.enter g (us++args.map a.eval++vs)) w:=by
    simp only[execOp,ho,resolve,hv,Deferred.ofValue,Sem.run_bind,Sem.run_pure,Result.andThen,invoke,hent]
   refine⟨fun _ _=>trivial,?_⟩;rw[Oper.semAt_eq _ _ _ hd,hres,Oper.uponIn_enter];refine⟨fun h=>by simp[Fw,Fence.wide]at h,qR ((hs S w ι H' _ hBw M (fK (fK ⟨hkk,hu⟩ h1) ⟨hl,hvs⟩) ha hn).mono ?_)⟩
   rintro e w' ⟨val,S',ι',rfl,M',L',K',R',T'⟩
   exact hk val S' w' ι' M' L' K' R' T'
 ·rename_i g us vs hρ
  rw[bD]at h;obtain⟨v,sets,accs,news,hK,hs⟩:=hY _ _ _ _ _ _ _ h;refine⟨v,sets,accs,news,hK,fun S w ι H' a next Q hB M hr ha hn hk=>?_⟩;have h1:=hargs hr;have h2:=hf hr;rw[hρ]at h2;generalize hv:a.eval f=fv at h2
  cases h2
  have hres:(execOp a.eval o).run P w=(invoke (.fn g vs) (us++args.map a.eval)).run P w:=by
   simp only[execOp,ho,resolve,hv,Deferred.ofValue,Sem.run_bind,Sem.run_pure,Result.andThen]
  refine⟨fun _ _=>trivial,?_⟩;rw[Oper.semAt_eq _ _ _ hd,hres];exact hs S w ι H' o _ a next Q _ ho hB M h1 ha hn hk
 ·exact h.elim
theorem Hl:∀{ms:List Method} {s:String} {g:Nat},yD ms s=some g→∃m,ms.find? (fun m=>m.name==s)=some m∧m.path.toList=[]∧m.func=some (g,false):=by
 intro ms;induction ms with
 |nil=>intro s g h;cases h
 |cons m r ih=>
  intro s g h;unfold yD at h;split at h
  ·rename_i hb
   split at h
   ·rename_i hp
    split at h
    ·rename_i g' hf
     cases h
     exact⟨m,by simp[afA,hb],hp,hf⟩
    ·cases h
   ·cases h
  ·rename_i hb
   obtain⟨m',h1,h2⟩:=ih h;exact⟨m',by simp[afA,hb,h1],h2⟩
theorem KD (hτ:aV P τ) {t:TypeId} {te:TE} (ht:τ t=some te) (hp:DZ te.und=true) {name:String} {g:Nat} (hm:yD te.meths name=some g) (v:Value) (w:World) (n:Nat):
 (method (n+1) t v name).run P w=.ok (g,v) w:=by
 obtain⟨i,hi,hms⟩:=hτ.meth t te ht;obtain⟨m,h1,h2,h3⟩:=Hl hm;have h4:i.methods.find? (fun m=>m.name==name)=some m:=by rw[←hms]at h1;rw[←Array.find?_toList];exact h1
 unfold method;simp only[Sem.run_bind,run_typeInfo w hi,Result.andThen,h4,h2,follow,Sem.run_pure,h3,receiverAt,run_underlying (hτ.und _ _ ht)];generalize te.und=d at hp⊢
 cases d<;>first|(simp[DZ]at hp;done)|(simp only[Place.get,Sem.run_pure,Result.andThen];done)|(simp[Place.get,Result.andThen];done)
theorem Cv (hτ:aV P τ) {md rf CP YP} {o:Oper} {ρ:Operand→PV} {H:Hp} {n:Nat} {t:TypeId} {x:Operand} (ho:o.op=.makeInterface t x) {K:KR}
 (h:opK τ md rf CP YP ρ H n o.dst o.op K):∃v sets accs news,K v sets accs news∧bB P r o ρ H v sets accs news:=by
 rw[ho]at h;simp only[opK,bX,aL,bE]at h;obtain⟨te,ht,hni,hK⟩:=h;refine⟨_,_,_,_,hK,aU (fun c e=>by rw[ho]at e;cases e) fun S w ι H' a M hr ha=>⟨.iface t (a.eval x),?_,.ifc _ _ _ _ (hr x (by simp[ho,Op.operands]))⟩⟩
 simp only[execOp,ho];refine dH ?_;simp only[Instr.makeInterface,Sem.run_bind,run_underlying (hτ.und _ _ ht),Result.andThen];cases hu:te.und<;>first|(rw[hu]at hni;simp[NM]at hni;done)|rfl
theorem Eo (hτ:aV P τ) {md rf CP YP} {B:Imm→World→Prop} (hC:jy P B CP) {o:Oper} {ρ:Operand→PV} {H:Hp} {n:Nat} {f:Operand} {name:String} {args:Array Operand} {ats:Array TypeId} (ho:o.op=.call ⟨.invoke f name,args,ats⟩) {K:KR}
 (h:opK τ md rf CP YP ρ H n o.dst o.op K):∃v sets accs news,K v sets accs news∧lg P r B o ρ H v sets accs news:=by
 rw[ho]at h;simp only[opK]at h;have hd:∀c,o.op≠ .defer c:=fun c e=>by rw[ho]at e;cases e
 have hargs:∀{S:Imm} {w:World} {ι:Ix} {a:Act},(∀x∈o.op.operands.toList,Rep S w ι (ρ x) (a.eval x))→bC S w ι (jW ρ args.toList) (args.map a.eval):=by
  intro S w ι a hr;exact kE args (fun x hx=>hr x (by simp[ho,Op.operands,Call.operands]at hx⊢;exact .inr hx))
 have hf:∀{S:Imm} {w:World} {ι:Ix} {a:Act},(∀x∈o.op.operands.toList,Rep S w ι (ρ x) (a.eval x))→Rep S w ι (ρ f) (a.eval f):=fun hr=>hr f (by simp[ho,Op.operands,Call.operands])
 split at h
 ·rename_i t p hρ
  rw[bX]at h;obtain⟨te,ht,h⟩:=h;rw[aL]at h;obtain⟨hp,h⟩:=h;split at h
  ·rename_i g hg
   rw[bD]at h;obtain⟨v,sets,accs,news,hK,hent,hs⟩:=hC _ _ _ _ _ h;refine⟨v,sets,accs,news,hK,fun S w ι H' a next Q hBw M hr ha hn hk=>?_⟩;have h1:=hargs hr;have h2:=hf hr;rw[hρ]at h2;generalize hv:a.eval f=fv at h2
   cases h2 with
   |ifc _ _ _ u hu=>
    have hres:(execOp a.eval o).run P w=.ok (.enter g (#[u]++args.map a.eval)) w:=by
     obtain⟨d,hd⟩:∃d,P.types.size+Made.depth=d+1:=⟨P.types.size+Made.depth-1,by unfold Made.depth;omega⟩
     simp only[execOp,ho,resolve,hv,Sem.run_bind,Sem.run_pure,Result.andThen,invoke];have hx:(args.map a.eval).extract 0 args.size=args.map a.eval:=by
      have:=Array.extract_size (xs:=args.map a.eval)
      rwa [ae4]at this
     simp only[ae5,ae3];simp[callMethod,run_program,hd,KD hτ ht hp hg,Result.andThen,hent,hx]
    refine⟨fun _ _=>trivial,?_⟩;rw[Oper.semAt_eq _ _ _ hd,hres,Oper.uponIn_enter];have h3:bC S w ι [p] #[u]:=⟨rfl,fun i hi=>by simp at hi;subst hi;exact hu⟩
    refine⟨fun h=>by simp[Fw,Fence.wide]at h,qR ((hs S w ι H' _ hBw M (fK h3 h1) ha hn).mono ?_)⟩
    rintro e w' ⟨val,S',ι',rfl,M',L',K',R',T'⟩
    exact hk val S' w' ι' M' L' K' R' T'
  ·exact h.elim
 ·exact h.elim
theorem NW (hτ:aV P τ) {md rf CP YP} {B:Imm→World→Prop} (hC:jy P B CP) (hY:jY P r B YP) {o:Oper} {ρ:Operand→PV} {H:Hp} {n:Nat} {K:KR}
 (h:opK τ md rf CP YP ρ H n o.dst o.op K):∃v sets accs news,K v sets accs news∧lg P r B o ρ H v sets accs news:=by
 have up:(∃v sets accs news,K v sets accs news∧bB P r o ρ H v sets accs news)→∃v sets accs news,K v sets accs news∧lg P r B o ρ H v sets accs news:=
  fun⟨v,sets,accs,news,h1,h2⟩=>⟨v,sets,accs,news,h1,h2.toB⟩
 cases ho:o.op with
 |move x=>exact up (yG (.inl ho) h)
 |assign x=>exact up (yG (.inr ho) h)
 |pick c x y=>exact up (Kr ho h)
 |alloc t=>exact up (GL hτ ho h)
 |box t x=>exact up (NQ hτ ho h)
 |build t ps=>exact up (GV hτ ho h)
 |buildSlice t l ps=>exact up (wX hτ ho h)
 |insert t m k u=>exact up (Em hτ ho h)
 |mapUpdate t m k u=>exact up (yP hτ ho h)
 |load t x=>exact up (Ki hτ ho h)
 |store t x y=>
  cases hfz:Kg rf x with
  |false=>exact up (GN hτ ho hfz h)
  |true=>exact up (En hτ ho hfz h)
 |nilCheck x=>exact up (zX ho h)
 |binOp op t x y u=>exact up (NS hτ ho h)
 |unOp op t x=>exact up (QL hτ ho h)
 |convert s d x=>exact up (G6 hτ ho h)
 |makeInterface t x=>exact up (Cv hτ ho h)
 |makeFunc f fs cs=>exact up (zZ ho h)
 |makeMap t x=>exact up (Cu ho h)
 |makeSlice t l c=>exact up (yO hτ ho h)
 |slice t x lo hi mx=>exact up (GZ hτ ho h)
 |fieldAddr t x f=>exact up (yI hτ ho h)
 |field t x f=>exact up (GX hτ ho h)
 |indexAddr t x i=>exact up (yJ hτ ho h)
 |index t x i=>exact up (GY hτ ho h)
 |lookup t m k ok=>exact up (El hτ ho h)
 |extract x i=>exact up (Cq ho h)
 |call c=>
  obtain⟨cal,args,ats⟩:=c;cases cal with
  |value f=>exact yQ hC hY ho h
  |invoke x m=>exact Eo hτ hC ho h
  |builtin b=>exact up (Ct hτ ho rfl h)
 |_=>rw[ho]at h;exact h.elim
variable {P:Program} {r:Option Nat} {τ:TypeId→Option TE} {B:Imm→World→Prop}
structure Ent where
 run:Bool
 v:PV
 sets:List (Nat × AO)
 accs:List Nat
 news:List Nat
instance:Inhabited Ent:=⟨⟨true,.any,[],[],[]⟩⟩
def eU (env:Env) (dst:Option Nat) (v:PV):Env:=match dst with|none=>env|some d=>env.set d v
def keys:List (Nat × AO)→List Nat
 | []=>[]
 |(k,_)::r=>k::keys r
theorem tJ (l:List PV) (i:Nat) (h:¬i<l.length):aC l i=.any:=by
 induction l generalizing i with
 |nil=>rfl
 |cons x xs ih=>cases i with
  |zero=>simp at h
  |succ i=>exact ih i (by simpa using h)
theorem Ep {a:Array Bool} {i j:Nat} {v d:Bool} (h:j≠i):(a.setIfInBounds i v).getD j d=a.getD j d:=by
 simp[aej,afB,Ne.symm h]
theorem og {S:Imm} {w:World} {ι:Ix} {env:Env} {a:Act} (h:bC S w ι env a.tmps) (x:Operand) (hx:∀g,x≠ .global g):Rep S w ι (eo env x) (a.eval x):=by
 cases x with
 |tmp t=>
  simp only[eo,Act.eval];by_cases ht:t<env.length
  ·exact h.2 t ht
  ·rw[tJ _ _ ht];exact .any _ _
 |const v=>exact zW v
 |global g=>exact absurd rfl (hx g)
 |func f=>exact .fn _ _ _ _ _ _ rfl rfl (fun i hi=>by simp at hi) (fun i hi=>by simp at hi)
theorem YW {S:Imm} {w:World} {ι:Ix} {env:Env} {a:Act} (hg:gB S w) (h:bC S w ι env a.tmps) (x:Operand):Rep S w ι (eo env x) (a.eval x):=by
 cases x with
 |global g=>
  simp only[eo,Act.eval];cases hc:vI g with
  |none=>exact .any _ _
  |some c=>
   have:=Rep.ip (S:=S) (w:=w) ι c 0 g 0 (fun j hj=>by rw[aeC];exact((hg g c hc).2 j hj).1) (fun j hj=>by rw[aeC];exact((hg g c hc).2 j hj).2)
   exact this
 |_=>exact og h _ (fun g e=>by cases e)
theorem w9 {S:Imm} {w:World} {ι:Ix} {env:Env} {a:Act} (h:bC S w ι env a.tmps) (dst:Option Nat) {v:PV} {val:Value} (hv:Rep S w ι v val):bC S w ι (eU env dst v) (a.put dst val).tmps:=by
 cases dst with
 |none=>exact h
 |some d=>
  refine⟨by simp[eU,Act.put,h.1],fun i hi=>?_⟩
  simp only[eU,List.length_set]at hi;simp only[eU,Act.put,lI,aej,afB];by_cases e:i=d
  ·subst e
   rw[if_pos ⟨rfl,hi⟩,if_pos rfl];simp only[←h.1,hi,if_true,afl];exact hv
  ·rw[if_neg (fun hh=>e hh.1),if_neg (Ne.symm e),←aej]
   exact h.2 i hi
theorem put_defers (a:Act) (dst:Option Nat) (v:Value):(a.put dst v).defers=a.defers:=by cases dst<;>rfl
def GOK (ops:Array Oper) (env:Env) (o:Oper) (b:Bool):Prop:=
 match o.guard with
 |none=>b=true
 |some (j,want)=>∃d t,(ops[j]?).bind (·.dst)=some d∧(aC env d=.bp t∨aC env d=.bool t∨(aC env d=.tup []∧t=!want))∧b=(t==want)
theorem GOK.wanted {ops:Array Oper} {env:Env} {o:Oper} {b:Bool} (h:GOK ops env o b) {S:Imm} {w:World} {ι:Ix} {a:Act} (hr:bC S w ι env a.tmps):Region.wanted o (yielded ops a.tmps)=b:=by
 unfold GOK at h;unfold Region.wanted;cases hg:o.guard with
 |none=>rw[hg]at h;exact h.symm
 |some jw=>
  obtain⟨j,want⟩:=jw;rw[hg]at h;obtain⟨d,t,h1,h2,h3⟩:=h;have hlt:d<env.length:=by
   by_cases hd:d<env.length
   ·exact hd
   ·rw[tJ _ _ hd]at h2;rcases h2 with h2|h2|⟨h2,_⟩<;>cases h2
  have hd:=hr.2 d hlt;rw[aej,aeg (by rw[←hr.1];exact hlt),afl]at hd
  have he:a.tmps[d]? =some (a.tmps[d]'(by rw[←hr.1];exact hlt)):=aeg _
  rcases h2 with h2|h2|⟨h2,ht⟩
  ·have hv:a.tmps[d]? =some (.bool t):=by rw[he];rw[h2]at hd;generalize a.tmps[d]'(by rw[←hr.1];exact hlt)=x at hd;cases hd;rfl
   simp only[yielded,h1,afC,hv];rw[h3];cases t<;>cases want<;>rfl
  ·have hv:a.tmps[d]? =some (.bool t):=by rw[he];rw[h2]at hd;generalize a.tmps[d]'(by rw[←hr.1];exact hlt)=x at hd;cases hd;rfl
   simp only[yielded,h1,afC,hv];rw[h3];cases t<;>cases want<;>rfl
  ·have hv:∃vs,a.tmps[d]? =some (.tuple vs):=by rw[he];rw[h2]at hd;generalize a.tmps[d]'(by rw[←hr.1];exact hlt)=x at hd;cases hd;exact⟨_,rfl⟩
   obtain⟨vs,hv⟩:=hv;simp only[yielded,h1,afC,hv];rw[h3,ht];cases want<;>rfl
def jR (P:Program) (r:Option Nat) (B:Imm→World→Prop) (ops:Array Oper) (env:Env) (H:Hp) (o:Oper) (e:Ent):Prop:=
 GOK ops env o e.run∧(e.run=true→lg P r B o (eo env) H e.v e.sets e.accs e.news)∧(∀k∈e.news,ay H k=none)∧
 (e.run=false→e.v=.tup []∧e.sets=[]∧e.accs=[]∧e.news=[])
def Chain (P:Program) (r:Option Nat) (B:Imm→World→Prop) (ops:Array Oper) (es:Nat→Ent):List Nat→Env→Hp→(Env→Hp→Prop)→Prop
 | [],env,H,K=>K env H
 |i::R,env,H,K=>∃o,ops[i]? =some o∧jR P r B ops env H o (es i)∧Chain P r B ops es R (eU env o.dst (es i).v) (aX H (es i).sets) K
def looks (ops:Array Oper) (o:Oper):List Nat:=
 (o.op.operands.toList.filterMap fun|.tmp t=>some t|_=>none)++(match o.guard with|some (j,_)=>((ops[j]?).bind (·.dst)).toList|none=>[])
structure Apart (ops:Array Oper) (p o:Oper):Prop where
 po:∀d,p.dst=some d→d∉looks ops o
 op:∀d,o.dst=some d→d∉looks ops p
 dd:∀d,p.dst=some d→o.dst≠some d
structure tK (e f:Ent):Prop where
 ef:∀k∈keys e.sets,k∉f.accs∧k∉keys f.sets
 fe:∀k∈keys f.sets,k∉e.accs∧k∉e.news
theorem jD {sets:List (Nat × AO)}:∀{H:Hp} {k:Nat},k∉keys sets→ay (aX H sets) k=ay H k:=by
 induction sets with
 |nil=>intro H k h;rfl
 |cons x xs ih=>
  intro H k h;obtain⟨i,a⟩:=x;simp only[keys,afD,not_or]at h;simp only[aX];rw[ih h.2,aY,if_neg h.1]
theorem KE {sets:List (Nat × AO)}:∀{H:Hp} {k:Nat},ay (aX H sets) k=none→ay H k=none:=by
 induction sets with
 |nil=>intro H k h;exact h
 |cons x xs ih=>
  intro H k h;obtain⟨i,a⟩:=x;have:=ih (H:=aR H i a) h;rw[aY]at this;split at this
  ·cases this
  ·exact this
theorem NY {sets:List (Nat × AO)}:∀{H:Hp} {i:Nat} {a:AO},i∉keys sets→aX (aR H i a) sets=aR (aX H sets) i a:=by
 induction sets with
 |nil=>intro H i a h;rfl
 |cons x xs ih=>
  intro H i a h;obtain⟨j,c⟩:=x;simp only[keys,afD,not_or]at h;simp only[aX];rw[ND _ _ _ _ _ h.1,ih h.2]
theorem KF {A C:List (Nat × AO)}:∀{H:Hp},(∀k∈keys A,k∉keys C)→aX (aX H A) C=aX (aX H C) A:=by
 induction A with
 |nil=>intro H h;rfl
 |cons x xs ih=>
  intro H h;obtain⟨i,a⟩:=x;simp only[keys,afD]at h;simp only[aX];rw[ih (fun k hk=>h k (.inr hk)),NY (h i (.inl rfl))]
theorem QO {ops:Array Oper} {o:Oper} {t:Nat} (h:Operand.tmp t∈o.op.operands.toList):t∈looks ops o:=by
 unfold looks;exact List.mem_append_left _ (List.mem_filterMap.2 ⟨_,h,rfl⟩)
theorem BS {env:Env} {dst:Option Nat} {v:PV} {t:Nat} (h:∀d,dst=some d→t≠d):aC (eU env dst v) t=aC env t:=by
 cases dst with
 |none=>rfl
 |some d=>rw[eU,lI,if_neg (fun hh=>h d rfl hh.1)]
theorem IZ {ops:Array Oper} {o:Oper} {env:Env} {dst:Option Nat} {v:PV} (h:∀d,dst=some d→d∉looks ops o) {x:Operand} (hx:x∈o.op.operands.toList):eo (eU env dst v) x=eo env x:=by
 cases x with
 |tmp t=>exact BS fun d hd e=>h d hd (by subst e;exact QO hx)
 |const v=>rfl
 |global g=>rfl
 |func f=>rfl
theorem Er {ops:Array Oper} {o:Oper} {env:Env} {dst:Option Nat} {v:PV} {b:Bool} (h:∀d,dst=some d→d∉looks ops o):GOK ops (eU env dst v) o b↔GOK ops env o b:=by
 unfold GOK;cases hg:o.guard with
 |none=>exact Iff.rfl
 |some jw=>
  obtain⟨j,want⟩:=jw;simp only;have:∀d',(ops[j]?).bind (·.dst)=some d'→aC (eU env dst v) d'=aC env d':=fun d' hd'=>BS fun d hd e=>h d hd (by
   subst e;unfold looks;rw[hg];exact List.mem_append_right _ (by simp[hd']))
  constructor
  ·rintro⟨d,t,h1,h2,h3⟩;exact⟨d,t,h1,by rwa [this d h1]at h2,h3⟩
  ·rintro⟨d,t,h1,h2,h3⟩;exact⟨d,t,h1,by rwa [this d h1],h3⟩
theorem lg.congr {o:Oper} {ρ ρ':Operand→PV} {H H':Hp} {v:PV} {sets:List (Nat × AO)} {accs news:List Nat} (h:lg P r B o ρ H v sets accs news)
 (hρ:∀x∈o.op.operands.toList,∀S w ι val,Rep S w ι (ρ' x) val→Rep S w ι (ρ x) val) (hH:∀k∈accs,ay H' k=ay H k):lg P r B o ρ' H' v sets accs news:=
 fun S w ι H1 a next Q hB M hr ha hn hk=>h S w ι H1 a next Q hB M (fun x hx=>hρ x hx _ _ _ _ (hr x hx)) (fun k hk'=>(ha k hk').trans (hH k hk')) hn hk
theorem NZ {env:Env} {d d':Option Nat} {v v':PV} (h:∀x,d=some x→d'≠some x):eU (eU env d v) d' v'=eU (eU env d' v') d v:=by
 cases d with
 |none=>rfl
 |some x=>cases d' with
  |none=>rfl
  |some y=>simp only[eU];exact List.set_comm _ _ (fun e=>h x rfl (by rw[e]))
theorem jR.back {ops:Array Oper} {p o:Oper} {e f:Ent} {env:Env} {H:Hp} (hs:Apart ops p o) (hd:tK e f) (h:jR P r B ops (eU env p.dst e.v) (aX H e.sets) o f):jR P r B ops env H o f:=by
 obtain⟨h1,h2,h3,h4⟩:=h;refine⟨(Er hs.po).1 h1,fun hr=>(h2 hr).congr (fun x hx S w ι val hh=>by rw[IZ hs.po hx];exact hh) (fun k hk=>(jD (fun hk'=>(hd.ef k hk').1 hk)).symm),fun k hk=>KE (h3 k hk),h4⟩
theorem jR.forth {ops:Array Oper} {p o:Oper} {e f:Ent} {env:Env} {H:Hp} (hs:Apart ops p o) (hd:tK e f) (h:jR P r B ops env H p e):jR P r B ops (eU env o.dst f.v) (aX H f.sets) p e:=by
 obtain⟨h1,h2,h3,h4⟩:=h;refine⟨(Er hs.op).2 h1,fun hr=>(h2 hr).congr (fun x hx S w ι val hh=>by rw[IZ hs.op hx]at hh;exact hh) (fun k hk=>jD (fun hk'=>(hd.fe k hk').1 hk)),fun k hk=>?_,h4⟩
 rw[jD (fun hk'=>(hd.fe k hk').2 hk)];exact h3 k hk
theorem Chain.pull {ops:Array Oper} {es:Nat→Ent} {K:Env→Hp→Prop} {i:Nat} {post:List Nat}:∀(pre:List Nat) {env:Env} {H:Hp},Chain P r B ops es (pre++i::post) env H K→
 (∀p∈pre,∀op oi,ops[p]? =some op→ops[i]? =some oi→Apart ops op oi∧tK (es p) (es i))→
 ∃o,ops[i]? =some o∧jR P r B ops env H o (es i)∧Chain P r B ops es (pre++post) (eU env o.dst (es i).v) (aX H (es i).sets) K:=by
 intro pre;induction pre with
 |nil=>intro env H h _;exact h
 |cons p pre ih=>
  intro env H h hi;obtain⟨op,ho,he,hc⟩:=h;obtain⟨oi,hoi,hei,hci⟩:=ih hc (fun q hq=>hi q (by simp[hq]))
  obtain⟨a,d⟩:=hi p (by simp) op oi ho hoi
  refine⟨oi,hoi,hei.back a d,op,ho,he.forth a d,?_⟩;rw[NZ (fun x hx hx'=>a.dd x hx' hx),KF (fun k hk hk'=>(d.ef k hk').2 hk)];exact hci
structure At (B:Imm→World→Prop) (p:Nat) (S0:Imm) (w0:World) (ι0:Ix) (H0:Hp) (env:Env) (H:Hp) (a:Act) (w:World):Prop where
 ex:∃S ι,B S w∧Mem S w ι H∧bC S w ι env a.tmps∧vJ w ι H a.defers∧(∀d∈a.defers,∀b,d.target=.collected b→w0.heap.size≤b)∧Tr p S0 w0 ι0 H0 S w ι H
structure BOK (B:Imm→World→Prop):Prop where
 mono:∀S w S' w',Keeps S w S' w'→Bel w w'→B S w→B S' w'
 glob:∀S w,B S w→gB S w
instance {B:Imm→World→Prop}:CoeFun (BOK B) (fun _=>∀S w S' w',Keeps S w S' w'→Bel w w'→B S w→B S' w'):=⟨BOK.mono⟩
theorem Es (hB:BOK B) {ops:Array Oper} {o:Oper} {e:Ent} {env:Env} {H:Hp} (he:jR P r B ops env H o e) {p:Nat} {S0:Imm} {w0:World} {ι0:Ix} {H0:Hp} {a:Act} {w:World}
 (h:At B p S0 w0 ι0 H0 env H a w) {i:Nat} (hi:ops[i]? =some o) {Q:Exit→Act→World→Prop} {K:Act→World→Prop}
 (hk:∀a' w',At B p S0 w0 ι0 H0 (eU env o.dst e.v) (aX H e.sets) a' w'→K a' w'):wpOpIn (Fw r) 0 P ops Q i K a w:=by
 obtain⟨S,ι,hb,M,R,hds,hdn,T⟩:=h.ex;obtain⟨h1,h2,h3,h4⟩:=he;unfold wpOpIn;simp only[hi];rw[h1.wanted R];cases hrun:e.run with
 |true=>
  simp only[if_true];refine h2 hrun S w ι H a K Q hb M (fun x hx=>YW (hB.glob _ _ hb) R x) (fun _ _=>rfl) h3 (fun val S' w' ι' M' L' K' R' T'=>hk _ _ ⟨S',ι',hB _ _ _ _ K' (T' 0).below hb,M',?_,by rw[put_defers];exact hds.tr (T' 0),by rw[put_defers];exact hdn,T.trans (T' p)⟩)
  exact w9 (R.mono K' L') _ R'
 |false=>
  obtain⟨g1,g2,g3,g4⟩:=h4 hrun;simp only[ad7,if_false];refine⟨fun _ _=>trivial,hk _ _ ⟨S,ι,hb,by rw[g2];exact M,?_,by rw[put_defers,g2];exact hds,by rw[put_defers];exact hdn,by rw[g2];exact T⟩⟩
  rw[g1];exact w9 R _ (.tup _ _ _ rfl (fun i hi=>by simp at hi))
theorem KG (hB:BOK B) {ops:Array Oper} {es:Nat→Ent} {K:Env→Hp→Prop} {p:Nat} {S0:Imm} {w0:World} {ι0:Ix} {H0:Hp} {Q:Exit→Act→World→Prop}
 (hQ:∀env H a w,K env H→At B p S0 w0 ι0 H0 env H a w→Q .normal a w):∀(R:List Nat) (env:Env) (H:Hp) (a:Act) (w:World),Chain P r B ops es R env H K→At B p S0 w0 ι0 H0 env H a w→
  wpOpsIn (Fw r) 0 P ops Q R a w:=by
 intro R;induction R with
 |nil=>intro env H a w h hA;exact hQ _ _ _ _ h hA
 |cons i R ih=>
  intro env H a w h hA;obtain⟨o,ho,he,hc⟩:=h;rw[wpOpsIn_cons];exact Es hB he hA ho fun a' w' hA'=>ih _ _ a' w' hc hA'
inductive Bef (ops:Array Oper):Nat→Nat→Prop where
 |edge {i j:Nat} {o:Oper} {e:Edge} (h:ops[j]? =some o) (he:e∈o.after) (hb:Region.binds .any e=true) (hi:e.on=i):Bef ops i j
 |trans {i j k:Nat}:Bef ops i j→Bef ops j k→Bef ops i k
theorem N7 (hB:BOK B) {ops:Array Oper} {es:Nat→Ent} {K:Env→Hp→Prop} {p:Nat} {S0:Imm} {w0:World} {ι0:Ix} {H0:Hp} {Q:Exit→Act→World→Prop}
 (hQ:∀env H a w,K env H→At B p S0 w0 ι0 H0 env H a w→Q .normal a w)
 (hback:∀(j:Nat) (o:Oper) (e:Edge),ops[j]? =some o→e∈o.after→Region.binds .any e=true→e.on<j)
 (hind:∀i j op oj,i<j→ops[i]? =some op→ops[j]? =some oj→¬Bef ops i j→Apart ops op oj∧tK (es i) (es j)):
 ∀(fuel:Nat) (listed:Array Bool) (R:List Nat) (env:Env) (H:Hp) (a:Act) (w:World),R.Pairwise (·< ·)→(∀i,i∈R↔listed.getD i true=false)→listed.size=ops.size→
  (∀i j,Bef ops i j→listed.getD j false=true→listed.getD i false=true)→R.length≤fuel→
  Chain P r B ops es R env H K→At B p S0 w0 ι0 H0 env H a w→wpAnyIn (Fw r) 0 P .any ops Q fuel listed a w:=by
 have hready:∀(listed:Array Bool) (j:Nat),j∈Region.ready .any ops listed→(∀i j,Bef ops i j→listed.getD j false=true→listed.getD i false=true)→∀i,Bef ops i j→listed.getD i false=true:=by
  intro listed j hj hcl i hb;induction hb with
  |edge h he hb hi=>
   obtain⟨_,o,ho,hall⟩:=mem_ready.1 hj;rw[h]at ho;cases ho
   rw[←hi];exact hall _ he hb
  |trans h1 h2 ih1 ih2=>exact hcl _ _ h1 (ih2 hj)
 intro fuel;induction fuel with
 |zero=>
  intro listed R env H a w hs hm hsz hcl hle hc hA;have hR:R=[]:=aft.1 (by omega)
  subst hR;refine⟨?_,hQ _ _ _ _ hc hA⟩;rw[List.eq_nil_iff_forall_not_mem];intro j hj;have:=(hm j).2 (mem_ready.1 hj).1;simp at this
 |succ fuel ih=>
  intro listed R env H a w hs hm hsz hcl hle hc hA;refine⟨fun hnil=>?_,fun i hi=>?_⟩
  ·
   cases R with
   |nil=>exact hQ _ _ _ _ hc hA
   |cons i R=>
    have hi:=(hm i).1 (by simp)
    have hlt:i<listed.size:=by
     rcases aeb i listed.size with h|h
     ·exact h
     ·rw[aej,aec h]at hi;simp at hi
    have:i∈Region.ready .any ops listed:=by
     refine mem_ready.2 ⟨hi,ops[i]'(by omega),aeg (by omega),fun e he hb=>?_⟩
     have hb':=hback i _ e (aeg (by omega)) he hb
     have hnot:¬e.on∈i::R:=by
      intro hmem;rcases afD.1 hmem with h|h
      ·omega
      ·have:=(afE.1 hs).1 _ h;omega
     have h2:¬listed.getD e.on true=false:=fun h=>hnot ((hm e.on).2 h);have hlt':e.on<listed.size:=by omega
     simp[aej,hlt']at h2⊢;exact h2
    rw[hnil]at this;cases this
  ·have hiR:=(hm i).2 (mem_ready.1 hi).1
   obtain⟨pre,post,rfl⟩:=List.append_of_mem hiR;have hlt:∀q∈pre,q<i:=fun q hq=>(afF.1 hs).2.2 q hq i (by simp)
   obtain⟨o,ho,he,hc'⟩:=hc.pull pre (fun q hq op oi hop hoi=>hind q i op oi (hlt q hq) hop hoi (fun hb=>by
    have h1:=hready listed i hi hcl q hb;have h2:=(hm q).1 (by simp[hq])
    rw[aej]at h1 h2;cases hq':listed[q]? with
    |none=>rw[hq']at h2;simp at h2
    |some x=>rw[hq']at h1 h2;simp at h1 h2;rw[h1]at h2;cases h2))
   refine Es hB he hA ho fun a' w' hA'=>ih (listed.setIfInBounds i true) (pre++post) _ _ a' w' ?_ ?_ (by simpa using hsz) ?_ (by simp at hle⊢;omega) hc' hA'
   ·exact List.Pairwise.sublist (List.Sublist.append_left (List.sublist_cons_self i post) pre) hs
   ·intro j
    have hnd:i∉pre++post:=by
     intro hmem;have hp:=hs;rw[afF]at hp;rcases List.mem_append.1 hmem with h|h
     ·have:=hp.2.2 i h i (by simp);omega
     ·have:=(afE.1 hp.2.1).1 i h;omega
    by_cases e:j=i
    ·subst e
     have hlt':j<listed.size:=by
      have:=(hm j).1 (by simp)
      rcases aeb j listed.size with h|h
      ·exact h
      ·rw[aej,aec h]at this;simp at this
     simp only[hnd,false_iff];simp[aej,hlt']
    ·have:=hm j
     rw[getD_set_ne true (Ne.symm e)];rw[←this];simp[e]
   ·intro x y hb hy
    by_cases e:y=i
    ·subst e
     exact getD_set_true (hready listed y hi hcl x hb)
    ·rw[Ep e]at hy
     exact getD_set_true (hcl x y hb hy)
def pG (acc:List Nat):List Edge→Nat
 | []=>0
 |e::r=>match Region.binds .any e with
  |true=>(2 ^ e.on|||acc.getD e.on 0)|||pG acc r
  |false=>pG acc r
def masks:List Oper→List Nat→List Nat
 | [],acc=>acc
 |o::r,acc=>masks r (acc++[pG acc o.after.toList])
def gF (a b:List Nat):Bool:=
 match a with
 | []=>true
 |x::r=>match iq x b with|true=>false|false=>gF r b
def tL:Option Nat→List Nat|none=>[]|some d=>[d]
def Et (ops:Array Oper) (p o:Oper):Bool:=
 gF (tL p.dst) (looks ops o)&&gF (tL o.dst) (looks ops p)&&gF (tL p.dst) (tL o.dst)
def abH (j:Nat) (es:List Edge):Bool:=es.all fun e=>!Region.binds .any e||Nat.blt e.on j
def vO (ops:Array Oper):Bool:=
 (ael ops.size).all fun j=>match ops[j]? with
  |none=>true
  |some oj=>abH j oj.after.toList&&(ael j).all fun i=>match ops[i]? with
   |none=>true
   |some oi=>afG ((masks ops.toList []).getD j 0) i||Et ops oi oj
theorem oN {n:Nat} {l:List Nat}:iq n l=true↔n∈l:=by
 induction l with
 |nil=>simp[iq]
 |cons m l ih=>
  unfold iq;cases h:aew n m with
  |true=>simp[aeB h]
  |false=>
   have:n≠m:=afH h;simp[ih,this]
theorem Eu {a b:List Nat}:gF a b=true↔∀x∈a,x∉b:=by
 induction a with
 |nil=>simp[gF]
 |cons x r ih=>
  unfold gF;cases h:iq x b with
  |true=>simp[oN.1 h]
  |false=>
   have:x∉b:=fun hx=>by rw[oN.2 hx]at h;cases h
   simp[ih,this]
theorem Ev {ops:Array Oper} {p o:Oper} (h:Et ops p o=true):Apart ops p o:=by
 unfold Et at h;simp only[aeA,Eu]at h;exact⟨fun d hd=>h.1.1 d (by simp[hd,tL]),fun d hd=>h.1.2 d (by simp[hd,tL]),fun d hd hd'=>h.2 d (by simp[hd,tL]) (by simp[hd',tL])⟩
theorem Ho {ops:Array Oper} {j:Nat} {o:Oper} (ho:ops[j]? =some o) {acc:List Nat} (hacc:∀k i,(acc.getD k 0).testBit i=true→Bef ops i k):
 ∀(es:List Edge),(∀e∈es,e∈o.after)→∀i,(pG acc es).testBit i=true→Bef ops i j:=by
 intro es;induction es with
 |nil=>intro _ i h;simp[pG]at h
 |cons e es ih=>
  intro hes i h;have ih:=ih (fun x hx=>hes x (by simp[hx])) i
  unfold pG at h;cases hb:Region.binds .any e with
  |false=>rw[hb]at h;exact ih h
  |true=>
   rw[hb]at h;simp only[Nat.testBit_or,afs,Nat.testBit_two_pow,decide_eq_true_eq]at h;have he:=Bef.edge (i:=e.on) ho (hes e (by simp)) hb rfl
   rcases h with(h|h)|h
   ·subst h;exact he
   ·exact(hacc _ _ h).trans he
   ·exact ih h
theorem wH {ops:Array Oper}:∀(r pre:List Oper) (acc:List Nat),ops.toList=pre++r→acc.length=pre.length→(∀k i,(acc.getD k 0).testBit i=true→Bef ops i k)→
 ∀k i,((masks r acc).getD k 0).testBit i=true→Bef ops i k:=by
 intro r;induction r with
 |nil=>intro pre acc _ _ h;exact h
 |cons o r ih=>
  intro pre acc hops hl h;refine ih (pre++[o]) (acc++[pG acc o.after.toList]) (by simp[hops]) (by simp[hl]) (fun k i hk=>?_)
  rw[aeo]at hk;by_cases e:k<acc.length
  ·rw[List.getElem?_append_left e,←aeo]at hk
   exact h k i hk
  ·rw[afi (by omega)]at hk
   by_cases e':k=acc.length
   ·subst e'
    simp at hk;have ho:ops[acc.length]? =some o:=by
     rw[←ae8,hops,hl,afi (aea _)];simp
    exact Ho ho h _ (fun e he=>by simpa using he) i hk
   ·rw[List.getElem?_eq_none (by simp;omega)]at hk;simp at hk
structure Lg where
 i:Nat
 ws:List Nat
 as:List Nat
 ns:List Nat
def yR (i:Nat) (sets:List (Nat × AO)) (acc news:List Nat) (log:List Lg):List Lg:=
 match sets,acc,news with
 | [],[],[]=>log
 |_,_,_=>⟨i,keys sets,acc,news⟩::log
def oO (mj:Nat) (fw fa:List Nat):List Lg→Bool
 | []=>true
 |⟨i,ew,ea,en⟩::r=>match afG mj i with
  |true=>oO mj fw fa r
  |false=>match gF ew fa&&gF ew fw&&gF fw ea&&gF fw en with
   |true=>oO mj fw fa r
   |false=>false
def lq (ms:List Nat):List Lg→Bool
 | []=>true
 |⟨i,fw,fa,_⟩::r=>match oO (ms.getD i 0) fw fa r with
  |true=>lq ms r
  |false=>false
def kG (es:Nat→Ent):List Nat→List Lg→List Lg
 | [],log=>log
 |i::R,log=>kG es R (yR i (es i).sets (es i).accs (es i).news log)
def lX (e:Ent):Bool:=match e.sets,e.accs,e.news with| [],[],[]=>false|_,_,_=>true
theorem N8 (i:Nat) (e:Ent) (log:List Lg):yR i e.sets e.accs e.news log=if lX e then⟨i,keys e.sets,e.accs,e.news⟩::log else log:=by
 obtain⟨run,v,sets,accs,news⟩:=e;cases sets<;>cases accs<;>cases news<;>rfl
theorem VI (es:Nat→Ent):∀(R:List Nat) (log:List Lg),kG es R log=((R.filter fun i=>lX (es i)).reverse.map fun i=>⟨i,keys (es i).sets,(es i).accs,(es i).news⟩)++log:=by
 intro R;induction R with
 |nil=>intro log;rfl
 |cons i R ih=>
  intro log;simp only[kG,ih,N8];cases h:lX (es i)<;>simp[h]
theorem yS {mj:Nat} {f:Lg} {l:List Lg}:oO mj f.ws f.as l=true↔∀e∈l,mj.testBit e.i=true∨(gF e.ws f.as&&gF e.ws f.ws&&gF f.ws e.as&&gF f.ws e.ns)=true:=by
 induction l with
 |nil=>simp[oO]
 |cons e l ih=>
  unfold oO;cases h1:afG mj e.i with
  |true=>simp[h1,ih]
  |false=>
   simp only[afD,forall_eq_or_imp,h1,ad7,false_or];split
   ·rename_i h;simp only[h,true_and,ih]
   ·rename_i h;simp[h]
theorem KH {ms:List Nat} {l:List Lg}:lq ms l=true↔l.Pairwise fun f e=>(ms.getD f.i 0).testBit e.i=true∨(gF e.ws f.as&&gF e.ws f.ws&&gF f.ws e.as&&gF f.ws e.ns)=true:=by
 induction l with
 |nil=>simp[lq]
 |cons f l ih=>
  unfold lq;cases h:oO (ms.getD f.i 0) f.ws f.as l with
  |true=>simp only[afE,ih];exact⟨fun h'=>⟨yS.1 h,h'⟩,fun h'=>h'.2⟩
  |false=>
   simp only[afE];refine⟨fun h'=>absurd h' (by simp),fun h'=>?_⟩
   rw[yS.2 h'.1]at h;cases h
theorem Oa {ops:Array Oper} {es:Nat→Ent} {n:Nat} (h:lq (masks ops.toList []) (kG es (ael n) [])=true) {i j:Nat} (hij:i<j) (hj:j<n) (hb:¬Bef ops i j):tK (es i) (es j):=by
 rw[VI,List.append_nil,KH,List.pairwise_map,List.pairwise_reverse,List.pairwise_filter]at h;have hp:=(List.pairwise_iff_getElem.1 h) i j (by simpa using(by omega:i<n)) (by simpa using hj) hij
 simp only[List.getElem_range]at hp;have htriv:∀e:Ent,lX e=false→e.sets=[]∧e.accs=[]∧e.news=[]:=by
  intro e he;obtain⟨run,v,sets,accs,news⟩:=e;cases sets<;>cases accs<;>cases news<;>simp_all[lX]
 cases hi':lX (es i)with
 |false=>
  obtain⟨e1,e2,e3⟩:=htriv _ hi';exact⟨fun k hk=>by rw[e1]at hk;simp[keys]at hk,fun k hk=>by rw[e2,e3];simp⟩
 |true=>
  cases hj':lX (es j)with
  |false=>
   obtain⟨e1,e2,e3⟩:=htriv _ hj';exact⟨fun k hk=>by rw[e1,e2];simp[keys],fun k hk=>by rw[e1]at hk;simp[keys]at hk⟩
  |true=>
   rcases hp hi' hj' with hp|hp
   ·exact absurd (wH ops.toList [] [] rfl rfl (fun k i hk=>by simp at hk) j i hp) hb
   ·simp only[aeA,Eu]at hp
    exact⟨fun k hk=>⟨hp.1.1.1 k hk,hp.1.1.2 k hk⟩,fun k hk=>⟨hp.1.2 k hk,hp.2 k hk⟩⟩
theorem KI {ops:Array Oper} (h:vO ops=true) (j:Nat) (o:Oper) (e:Edge) (ho:ops[j]? =some o) (he:e∈o.after) (hb:Region.binds .any e=true):e.on<j:=by
 have hj:j<ops.size:=(ad1.1 ho).1;unfold vO at h;have:=(afI.1 h) j (by simpa using hj)
 rw[ho]at this;simp only[aeA]at this;have h2:=(afI.1 this.1) e (by simpa using he)
 rw[hb]at h2;simpa [Nat.blt_eq]using h2
theorem Hq {ops:Array Oper} (h:vO ops=true) {i j:Nat} {p o:Oper} (hij:i<j) (hi:ops[i]? =some p) (ho:ops[j]? =some o) (hb:¬Bef ops i j):Apart ops p o:=by
 have hj:j<ops.size:=(ad1.1 ho).1;unfold vO at h;have:=(afI.1 h) j (by simpa using hj)
 rw[ho]at this;simp only[aeA]at this;have h2:=(afI.1 this.2) i (by simpa using hij)
 rw[hi]at h2;simp only[afs]at h2;rcases h2 with h2|h2
 ·exact absurd (wH ops.toList [] [] rfl rfl (fun k i hk=>by simp at hk) j i h2) hb
 ·exact Ev h2
def tN (H:Hp):List Nat→Prop→Prop
 | [],k=>k
 |n::r,k=>d9 H n (tN H r k)
theorem KJ {H:Hp} {l:List Nat} {k:Prop}:tN H l k↔(∀n∈l,ay H n=none)∧k:=by
 induction l with
 |nil=>simp[tN]
 |cons n l ih=>simp only[tN,cZ,ih,afD,forall_eq_or_imp,and_assoc]
def idN:Op→Nat
 |.alloc _=>1
 |.box _ _=>1
 |.buildSlice _ _ _=>1
 |.makeMap _ _=>1
 |.makeSlice _ _ _=>1
 |.call c=>match c.callee with
  |.builtin .append=>1
  |.value _=>4
  |_=>0
 |_=>0
def yT (ops:List Oper) (j:Nat):Option Nat:=match ops,j with
 | [],_=>none
 |o::_,0=>o.dst
 |_::r,j+1=>yT r j
def yU (env:Env) (dst:Option Nat) (v:PV) (k:Env→Prop):Prop:=match dst with|none=>k env|some d=>pX env d v k
theorem qU (env:Env) (dst:Option Nat) (v:PV) (k:Env→Prop):yU env dst v k=k (eU env dst v):=by
 cases dst with
 |none=>rfl
 |some d=>exact lH _ _ _ _
section
variable (τ:TypeId→Option TE) (md:Nat) (rf:List Nat) (CP:CPT) (YP:YPT)
def runK (n:Nat) (env:Env) (H:Hp) (o:Oper) (i:Nat) (log:List Lg) (K:Env→Hp→List Lg→Prop):Prop:=
 opK τ md rf CP YP (eo env) H n o.dst o.op fun v sets acc news=>tN H news (yU env o.dst v fun env'=>gq sets H fun H'=>K env' H' (yR i sets acc news log))
def QS (all:List Oper) (o:Oper) (ih:Nat→Nat→Env→Hp→List Lg→(Env→Hp→Nat→List Lg→Prop)→Prop) (i n:Nat) (env:Env) (H:Hp) (log:List Lg) (K:Env→Hp→Nat→List Lg→Prop):Prop:=
 iQ (n+idN o.op) fun n'=>iQ (i+1) fun i'=>
 match o.guard with
 |none=>runK τ md rf CP YP n env H o i log fun env' H' log'=>ih i' n' env' H' log' K
 |some (j,want)=>match yT all j with
  |none=>False
  |some d=>match aC env d with
   |.bool t=>match Bool.xor t want with
    |false=>runK τ md rf CP YP n env H o i log fun env' H' log'=>ih i' n' env' H' log' K
    |true=>yU env o.dst (.tup []) fun env'=>ih i' n' env' H log K
   |.bp t=>(t=want→pX env d (.bool want) fun env1=>runK τ md rf CP YP n env1 H o i log fun env' H' log'=>ih i' n' env' H' log' K)∧
    (t=afJ want→pX env d (.bool (afJ want)) fun env1=>yU env1 o.dst (.tup []) fun env'=>ih i' n' env' H log K)
   |.tup vs=>match vs with
    | []=>yU env o.dst (.tup []) fun env'=>ih i' n' env' H log K
    |_=>False
   |_=>False
noncomputable def p9 (all:List Oper) (l:List Oper):Nat→Nat→Env→Hp→List Lg→(Env→Hp→Nat→List Lg→Prop)→Prop:=
 List.rec (motive:=fun _=>Nat→Nat→Env→Hp→List Lg→(Env→Hp→Nat→List Lg→Prop)→Prop) (fun i n env H log K=>K env H n log) (fun o _ ih=>QS τ md rf CP YP all o ih) l
theorem Ob (all:List Oper) (o:Oper) (r:List Oper):p9 τ md rf CP YP all (o::r)=QS τ md rf CP YP all o (p9 τ md rf CP YP all r):=rfl
end
def EqE (env env1:Env):Prop:=env.length=env1.length∧∀i,aC env i=aC env1 i∨∃b,aC env i=.bp b∧aC env1 i=.bool b
theorem EqE.refl (env:Env):EqE env env:=⟨rfl,fun _=>.inl rfl⟩
theorem EqE.rep {env env1:Env} (h:EqE env env1) {S:Imm} {w:World} {ι:Ix} {vs:Array Value} (hr:bC S w ι env vs):bC S w ι env1 vs:=by
 refine⟨h.1▸hr.1,fun i hi=>?_⟩;have:=hr.2 i (by rw[h.1];exact hi)
 rcases h.2 i with e|⟨b,e1,e2⟩
 ·rw[←e];exact this
 ·rw[e1]at this
  rw[e2];generalize vs.getD i undef=x at this
  cases this;exact .bool _ _
theorem EqE.eo {env env1:Env} (h:EqE env env1) (x:Operand) {S:Imm} {w:World} {ι:Ix} {v:Value} (hr:Rep S w ι (eo env x) v):Rep S w ι (eo env1 x) v:=by
 cases x with
 |tmp t=>
  simp only[Eng.eo]at hr⊢;rcases h.2 t with e|⟨b,e1,e2⟩
  ·rw[←e];exact hr
  ·rw[e1]at hr;rw[e2];cases hr;exact .bool _ _
 |const v=>exact hr
 |global g=>exact hr
 |func f=>exact hr
theorem EqE.put {env env1:Env} (h:EqE env env1) (dst:Option Nat) (v:PV):EqE (eU env dst v) (eU env1 dst v):=by
 cases dst with
 |none=>exact h
 |some d=>
  refine⟨by simp[eU,h.1],fun i=>?_⟩
  simp only[eU,lI,h.1];split
  ·exact .inl rfl
  ·exact h.2 i
theorem EqE.bool {env:Env} {d:Nat} {t:Bool} (h:aC env d=.bp t):EqE env (env.set d (.bool t)):=by
 refine⟨by simp,fun i=>?_⟩
 rw[lI];by_cases e:i=d∧d<env.length
 ·rw[if_pos e];exact .inr ⟨t,by rw[e.1];exact h,rfl⟩
 ·rw[if_neg e];exact .inl rfl
section
variable {P:Program} {r:Option Nat} {τ:TypeId→Option TE} {B:Imm→World→Prop}
theorem jR.eqE {ops:Array Oper} {env env1:Env} {H:Hp} {o:Oper} {e:Ent} (h:EqE env env1) (he:jR P r B ops env1 H o e):jR P r B ops env H o e:=by
 obtain⟨h1,h2,h3,h4⟩:=he;refine⟨?_,fun hr=>(h2 hr).congr (fun x hx S w ι val hh=>h.eo x hh) (fun _ _=>rfl),h3,h4⟩;unfold GOK at h1⊢;cases hg:o.guard with
 |none=>rw[hg]at h1;exact h1
 |some jw=>
  obtain⟨j,want⟩:=jw;rw[hg]at h1;obtain⟨d,t,g1,g2,g3⟩:=h1;refine⟨d,t,g1,?_,g3⟩;rcases h.2 d with e|⟨b,e1,e2⟩
  ·rw[e];exact g2
  ·rw[e2]at g2
   rcases g2 with g2|g2|⟨g2,_⟩
   ·cases g2
   ·cases g2;exact .inl e1
   ·cases g2
theorem Chain.eqE {ops:Array Oper} {es:Nat→Ent} {K:Env→Hp→Prop} (hK:∀env env1 H,EqE env env1→K env1 H→K env H):∀(R:List Nat) {env env1:Env} {H:Hp},EqE env env1→Chain P r B ops es R env1 H K→Chain P r B ops es R env H K:=by
 intro R;induction R with
 |nil=>intro env env1 H h hc;exact hK _ _ _ h hc
 |cons i R ih=>
  intro env env1 H h hc;obtain⟨o,ho,he,hc⟩:=hc;exact⟨o,ho,he.eqE h,ih (h.put _ _) hc⟩
theorem Chain.congrEs {ops:Array Oper} {es es':Nat→Ent} {K:Env→Hp→Prop}:∀(R:List Nat) {env:Env} {H:Hp},(∀i∈R,es i=es' i)→Chain P r B ops es R env H K→Chain P r B ops es' R env H K:=by
 intro R;induction R with
 |nil=>intro env H _ h;exact h
 |cons i R ih=>
  intro env H he h;obtain⟨o,ho,h1,h2⟩:=h;have e:=he i (by simp)
  exact⟨o,ho,e▸h1,e▸ih (fun j hj=>he j (by simp[hj])) h2⟩
theorem Chain.imp {ops:Array Oper} {es:Nat→Ent} {K K':Env→Hp→Prop} (hK:∀env H,K env H→K' env H):∀(R:List Nat) {env:Env} {H:Hp},Chain P r B ops es R env H K→Chain P r B ops es R env H K':=by
 intro R;induction R with
 |nil=>intro env H h;exact hK _ _ h
 |cons i R ih=>intro env H h;obtain⟨o,ho,h1,h2⟩:=h;exact⟨o,ho,h1,ih h2⟩
theorem Chain.fact {ops:Array Oper} {es:Nat→Ent} {K:Env→Hp→Prop} {A:Prop} (hK:∀env H,K env H→A):∀(R:List Nat) {env:Env} {H:Hp},Chain P r B ops es R env H K→A:=by
 intro R;induction R with
 |nil=>intro env H h;exact hK _ _ h
 |cons i R ih=>intro env H h;obtain⟨o,ho,h1,h2⟩:=h;exact ih h2
theorem KL {es es':Nat→Ent}:∀(R:List Nat) (log:List Lg),(∀i∈R,es i=es' i)→kG es R log=kG es' R log:=by
 intro R;induction R with
 |nil=>intro log _;rfl
 |cons i R ih=>intro log h;simp only[kG];rw[h i (by simp),ih _ fun j hj=>h j (by simp[hj])]
theorem Oc:∀(l:List Oper) (j:Nat),yT l j=(l[j]?).bind (·.dst):=by
 intro l;induction l with
 |nil=>intro j;rfl
 |cons o l ih=>intro j;cases j with
  |zero=>rfl
  |succ j=>simpa [yT]using ih j
def YX:List Oper→Nat
 | []=>0
 |o::r=>idN o.op+YX r
theorem yV (hτ:aV P τ) {md rf CP YP} (hC:jy P B CP) (hY:jY P r B YP) {ops:Array Oper} {K:Env→Hp→Nat→List Lg→Prop} {K':List Lg→Env→Hp→Prop}
 (hK:∀env H n log,K env H n log→K' log env H) (hK':∀log env env1 H,EqE env env1→K' log env1 H→K' log env H):
 ∀(l:List Oper) (i n:Nat) (env:Env) (H:Hp) (log:List Lg),ops.toList.drop i=l→p9 τ md rf CP YP ops.toList l i n env H log K→
  ∃es:Nat→Ent,Chain P r B ops es (afK i l.length) env H (K' (kG es (afK i l.length) log)):=by
 intro l;induction l with
 |nil=>intro i n env H log _ h;exact⟨fun _=>default,hK _ _ _ _ h⟩
 |cons o l ih=>
  intro i n env H log hl h;have ho:ops[i]? =some o:=by
   have:(ops.toList.drop i)[0]? =some o:=by rw[hl];rfl
   rw[List.getElem?_drop]at this;simpa using this
  have hl':ops.toList.drop (i+1)=l:=by
   have:(ops.toList.drop i).drop 1=l:=by rw[hl];rfl
   rw[List.drop_drop]at this;exact this
  rw[Ob]at h;simp only[QS,jh]at h;have glue:∀{env:Env} {H:Hp} (e:Ent) (es:Nat→Ent),jR P r B ops env H o e→Chain P r B ops es (afK (i+1) l.length) (eU env o.dst e.v) (aX H e.sets) (K' (kG es (afK (i+1) l.length) (yR i e.sets e.accs e.news log)))→
   ∃es:Nat→Ent,Chain P r B ops es (afK i (o::l).length) env H (K' (kG es (afK i (o::l).length) log)):=by
   intro env H e es he hc;have hne:∀j∈afK (i+1) l.length,es j=(if j=i then e else es j):=by
    intro j hj;rw[List.mem_range'_1]at hj;rw[if_neg (by omega)]
   refine⟨fun j=>if j=i then e else es j,?_⟩;rw[ad4,List.range'_succ];refine⟨o,ho,by simpa using he,?_⟩
   simp only[if_true,kG];rw[←KL _ _ hne];exact Chain.congrEs _ hne hc
  have run:∀{env:Env} {H:Hp},GOK ops env o true→runK τ md rf CP YP n env H o i log (fun env' H' log'=>p9 τ md rf CP YP ops.toList l (i+1) (n+idN o.op) env' H' log' K)→
   ∃es:Nat→Ent,Chain P r B ops es (afK i (o::l).length) env H (K' (kG es (afK i (o::l).length) log)):=by
   intro env H hg h;obtain⟨v,sets,accs,news,h,hs⟩:=NW (B:=B) hτ hC hY h;simp only[KJ,qU,gK]at h;obtain⟨hn,h⟩:=h;obtain⟨es,hc⟩:=ih _ _ _ _ _ hl' h;exact glue ⟨true,v,sets,accs,news⟩ es ⟨hg,fun _=>hs,hn,fun hh=>by cases hh⟩ hc
  have skip:∀{env:Env} {H:Hp},GOK ops env o false→p9 τ md rf CP YP ops.toList l (i+1) (n+idN o.op) (eU env o.dst (.tup [])) H log K→
   ∃es:Nat→Ent,Chain P r B ops es (afK i (o::l).length) env H (K' (kG es (afK i (o::l).length) log)):=by
   intro env H hg h;obtain⟨es,hc⟩:=ih _ _ _ _ _ hl' h;refine glue ⟨false,.tup [],[],[],[]⟩ es ?_ hc;refine⟨hg,fun hh=>?_,fun k hk=>?_,fun _=>⟨rfl,rfl,rfl,rfl⟩⟩
   ·exact absurd hh (by simp)
   ·exact absurd hk (by simp)
  have lift:∀{env env1:Env} {H:Hp},EqE env env1→(∃es:Nat→Ent,Chain P r B ops es (afK i (o::l).length) env1 H (K' (kG es (afK i (o::l).length) log)))→
   ∃es:Nat→Ent,Chain P r B ops es (afK i (o::l).length) env H (K' (kG es (afK i (o::l).length) log)):=
   fun he ⟨es,hc⟩=>⟨es,Chain.eqE (hK' _) _ he hc⟩
  split at h
  ·rename_i hg
   exact run (by unfold GOK;rw[hg]) h
  ·rename_i j want hg
   split at h
   ·exact h.elim
   ·rename_i d hd
    rw[Oc,ae8]at hd;have gk:∀{env:Env} {t b:Bool},(aC env d=.bp t∨aC env d=.bool t)→b=(t==want)→GOK ops env o b:=by
     intro env t b h1 h2;unfold GOK;rw[hg];exact⟨d,t,hd,h1.imp id .inl,h2⟩
    split at h
    ·rename_i t ht
     split at h
     ·rename_i hx
      exact run (gk (.inr ht) (by cases t<;>cases want<;>simp_all)) h
     ·rename_i hx
      rw[qU]at h;exact skip (gk (.inr ht) (by cases t<;>cases want<;>simp_all)) h
    ·rename_i t ht
     obtain⟨ha,hb⟩:=h;rw[lH]at hb;simp only[lH]at ha;by_cases e:t=want
     ·subst e
      have hq:=EqE.bool ht;refine lift hq (run (gk (t:=t) ?_ (by simp)) (ha rfl))
      have:=hq.2 d;rw[ht]at this;rcases this with this|⟨b,e1,e2⟩
      ·exact .inl this.symm
      ·cases e1;exact .inr e2
     ·have e':t=afJ want:=by cases t<;>cases want<;>simp_all
      have hq:=EqE.bool ht;rw[e']at hq;have hb:=hb e';rw[qU]at hb;refine lift hq (skip (gk (t:=afJ want) ?_ (by cases want<;>rfl)) hb)
      have:=hq.2 d;rw[ht]at this;rcases this with this|⟨b,e1,e2⟩
      ·rw[e']at this;exact .inl this.symm
      ·cases e1;rw[e']at e2;exact .inr e2
    ·rename_i vs ht
     split at h
     ·rw[qU]at h
      refine skip ?_ h;unfold GOK;rw[hg];exact⟨d,!want,hd,.inr (.inr ⟨ht,rfl⟩),by cases want<;>rfl⟩
     ·exact h.elim
    ·exact h.elim
end
def AW (P:Program) (r:Option Nat) (B:Imm→World→Prop) (p:Nat) (c:Code) (Q:Exit→Env→Hp→Prop) (env:Env) (H:Hp):Prop:=
 ∀(S0:Imm) (w0:World) (ι0:Ix) (H0:Hp) (a:Act) (w:World),At B p S0 w0 ι0 H0 env H a w→
  c.wpIn (Fw r) 0 P (fun e a' w'=>∃env' H',Q e env' H'∧At B p S0 w0 ι0 H0 env' H' a' w') a w
section
variable {P:Program} {r:Option Nat} {τ:TypeId→Option TE} {B:Imm→World→Prop} {p:Nat}
theorem At.drawn {S0:Imm} {w0:World} {ι0:Ix} {H0 H:Hp} {env:Env} {a:Act} {w:World} (h:At B p S0 w0 ι0 H0 env H a w) (hB:BOK B):At B p S0 w0 ι0 H0 env H a {w with drawn:=w.drawn+1}:=by
 obtain⟨S,ι,hb,M,R,D,D',T⟩:=h.ex;have hk:Keeps S w S {w with drawn:=w.drawn+1}:=⟨fun b j h=>⟨h,rfl⟩,fun b j h=>h⟩;have hbel:Bel w {w with drawn:=w.drawn+1}:=⟨rfl,rfl,rfl,aea _,fun _ _=>rfl⟩;refine⟨S,ι,hB _ _ _ _ hk hbel hb,⟨fun k o ho=>(M.obj k o ho).mono hk (.refl _) hbel (fun _ _=>rfl) (fun _=>rfl) rfl (fun _ _ _ h=>h),M.liveO,M.liveT,M.dist,M.imm⟩,R.mono hk (.refl _),⟨D.all,D.nodup⟩,D',
  T.trans ⟨hbel,fun _ _ _=>rfl,hk,fun _ _ _ h=>.inl h,fun _ h=>.inl h,fun _ _ _ h=>h,fun _ _ b n h=>⟨b,n,h,.inl ⟨rfl,aea _⟩⟩⟩⟩
theorem AW.eqE {c:Code} {Q:Exit→Env→Hp→Prop} {env env1:Env} {H:Hp} (h:EqE env env1) (ha:AW P r B p c Q env1 H):AW P r B p c Q env H:=by
 intro S0 w0 ι0 H0 a w hA;obtain⟨S,ι,hb,M,R,D,D',T⟩:=hA.ex;exact ha S0 w0 ι0 H0 a w ⟨S,ι,hb,M,h.rep R,D,D',T⟩
theorem AW.mono {c:Code} {Q Q':Exit→Env→Hp→Prop} {env:Env} {H:Hp} (h:AW P r B p c Q env H) (hq:∀e env H,Q e env H→Q' e env H):AW P r B p c Q' env H:=by
 intro S0 w0 ι0 H0 a w hA;refine wpIn_mono (h S0 w0 ι0 H0 a w hA) ?_
 rintro e a w ⟨env',H',q,hA⟩
 exact⟨env',H',hq _ _ _ q,hA⟩
def AK (P:Program) (B:Imm→World→Prop) (p:Nat) (Q:Env→Hp→Prop) (env:Env) (H:Hp):Prop:=
 ∀(S0:Imm) (w0:World) (ι0:Ix) (H0:Hp) (a:Act) (w:World),At B p S0 w0 ι0 H0 env H a w→∃env' H',Q env' H'∧At B p S0 w0 ι0 H0 env' H' a w
theorem AK.of {Q:Env→Hp→Prop} {env:Env} {H:Hp} (h:Q env H):AK P B p Q env H:=fun S0 w0 ι0 H0 a w hA=>⟨env,H,h,hA⟩
theorem AK.eqE {Q:Env→Hp→Prop} {env env1:Env} {H:Hp} (h:EqE env env1) (ha:AK P B p Q env1 H):AK P B p Q env H:=by
 intro S0 w0 ι0 H0 a w hA;obtain⟨S,ι,hb,M,R,D,D',T⟩:=hA.ex;exact ha S0 w0 ι0 H0 a w ⟨S,ι,hb,M,h.rep R,D,D',T⟩
theorem z8 (hB:BOK B) (hτ:aV P τ) {md rf CP YP} (hC:jy P B CP) (hY:jY P r B YP) {id:Nat} {ops:Array Oper} {K:Env→Hp→Nat→List Lg→Prop} {Q:Exit→Env→Hp→Prop} {n:Nat} {env:Env} {H:Hp}
 (hK:∀env H n log,K env H n log→Q .normal env H) (h:p9 τ md rf CP YP ops.toList ops.toList 0 n env H [] K):AW P r B p (.region id ops false) Q env H:=by
 intro S0 w0 ι0 H0 a w hA;obtain⟨es,hc⟩:=yV (K':=fun _ env H=>AK P B p (Q .normal) env H) hτ hC hY (fun env H n log h=>AK.of (hK _ _ _ _ h)) (fun log env env1 H he h=>AK.eqE he h) ops.toList 0 n env H [] rfl h;refine wpIn_region ?_;rw[afL,←aeO];exact KG hB (fun env H a w hk hA=>by obtain⟨env',H',q,hA'⟩:=hk S0 w0 ι0 H0 a w hA;exact⟨env',H',q,hA'⟩) _ _ _ a w hc hA
theorem Cw (hB:BOK B) (hm:P.follows .mixedOrders=true) (hτ:aV P τ) {md rf CP YP} (hC:jy P B CP) (hY:jY P r B YP) {id:Nat} {ops:Array Oper} {K:Env→Hp→Nat→List Lg→Prop} {Q:Exit→Env→Hp→Prop} {n:Nat} {env:Env} {H:Hp}
 (hok:vO ops=true) (hK:∀env H n log,K env H n log→Q .normal env H) (h:p9 τ md rf CP YP ops.toList ops.toList 0 n env H [] fun env H n log=>ifK (lq (masks ops.toList []) log) (K env H n log)):AW P r B p (.region id ops true) Q env H:=by
 intro S0 w0 ι0 H0 a w hA;obtain⟨es,hc⟩:=yV (K':=fun log env H=>lq (masks ops.toList []) log=true∧AK P B p (Q .normal) env H) hτ hC hY (fun env H n log h=>by rw[aL]at h;exact⟨h.1,AK.of (hK _ _ _ _ h.2)⟩) (fun log env env1 H he h=>⟨h.1,AK.eqE he h.2⟩) ops.toList 0 n env H [] rfl h
 have hd:=Chain.fact (fun _ _ h=>h.1) _ hc;have hc':=Chain.imp (K':=AK P B p (Q .normal)) (fun _ _ h=>h.2) _ hc;rw[←afL,aeO]at hd hc';refine wpIn_region_any hm ?_;refine N7 hB (K:=AK P B p (Q .normal)) (fun env H a w hk hA=>by obtain⟨env',H',q,hA'⟩:=hk S0 w0 ι0 H0 a w hA;exact⟨env',H',q,hA'⟩) (fun j o e ho he hb=>KI hok j o e ho he hb)
  (fun i j op oj hij hi hj hb=>⟨Hq hok hij hi hj hb,Oa hd hij ((ad1.1 hj).1) hb⟩) _ _ (ael ops.size) env H a _ ?_ ?_ (by simp) ?_ (by simp) hc' (hA.drawn hB)
 ·exact List.pairwise_lt_range
 ·intro i
  rw[List.mem_range,aej,afM];by_cases e:i<ops.size
  ·simp[e]
  ·simp[e]
 ·intro i j _ hj
  rw[aej,afM]at hj;by_cases e:j<ops.size
  ·simp[e]at hj
  ·simp[e]at hj
theorem YZ {x y:Code} {Q:Exit→Env→Hp→Prop} {env:Env} {H:Hp} (h:AW P r B p x (fun e env H=>match e with|.normal=>AW P r B p y Q env H|e=>Q e env H) env H):AW P r B p (.seq x y) Q env H:=by
 intro S0 w0 ι0 H0 a w hA;refine wpIn_seq (wpIn_mono (h S0 w0 ι0 H0 a w hA) ?_)
 rintro e a w ⟨env',H',q,hA⟩
 cases e with
 |normal=>exact q S0 w0 ι0 H0 a w hA
 |_=>exact⟨env',H',q,hA⟩
theorem vP {c:Operand} {x y:Code} {t:Bool} {Q:Exit→Env→Hp→Prop} {env:Env} {H:Hp} (hc:eo env c=.bool t∨eo env c=.bp t) (h:AW P r B p (if t then x else y) Q env H):AW P r B p (.cond c x y) Q env H:=by
 intro S0 w0 ι0 H0 a w hA;obtain⟨S,ι,hb,M,R,D,D',T⟩:=hA.ex;refine wpIn_cond (t:=t) ?_ (h S0 w0 ι0 H0 a w hA);have:=og R c (fun g e=>by subst e;simp only[eo]at hc;cases hg:vI g<;>rw[hg]at hc<;>rcases hc with hc|hc<;>cases hc)
 rcases hc with hc|hc<;>rw[hc]at this<;>generalize a.eval c=v at this<;>cases this<;>rfl
theorem QT {id:Nat} {c:Code} {Q:Exit→Env→Hp→Prop} {env:Env} {H:Hp} (h:AW P r B p c (fun e env H=>match e with|.exit i=>(match aew i id with|true=>Q .normal env H|false=>Q (.exit i) env H)|e=>Q e env H) env H):AW P r B p (.block id c) Q env H:=by
 intro S0 w0 ι0 H0 a w hA;refine wpIn_block (wpIn_mono (h S0 w0 ι0 H0 a w hA) ?_)
 rintro e a w ⟨env',H',q,hA⟩
 cases e with
 |exit i=>
  simp only[Exit.inBlock]at q⊢;cases hb:aew i id with
  |true=>rw[hb]at q;rw[if_pos (aeB hb)];exact⟨env',H',q,hA⟩
  |false=>rw[hb]at q;rw[if_neg (afH hb)];exact⟨env',H',q,hA⟩
 |_=>exact⟨env',H',q,hA⟩
theorem jk {P:Program} {b:Frame} {a:Act} {k:List Item} {cs:List Frame} {w:World} {c:Code}:step P (lone (b.atR a (.code (.scope c)::k)) cs w)=.next (lone (b.atR a (.code c:: .inScope c::k)) cs w):=
 step_lone_go (by simp[stepG,stepG.exec,Frame.atR])
theorem Cx {P:Program} {b:Frame} {a:Act} {k:List Item} {cs:List Frame} {w:World} {c:Code}:step P (lone (b.atR a (.inScope c::k)) cs w)=.next (lone (b.atR a k) cs w):=
 step_lone_go (by simp[stepG,stepG.exec,Frame.atR])
theorem KM {F:Fence} {n:Nat} {P:Program} {c:Code} {Q:Exit→Act→World→Prop} {a:Act} {w:World} (h:c.wpIn F n P (fun e a w=>(∀l,e≠ .goto l)∧Q e a w) a w):(Code.scope c).wpIn F n P Q a w:=by
 intro b k cs hro hb hr;have h0:(lone (b.atR a (.code (.scope c)::k)) cs w).fenced P F:=fenced_calm hb hr rfl;obtain⟨e,a₁,w₁,hq,harr⟩:=h b (.inScope c::k) cs hro hb hr;cases e with
 |normal=>exact⟨.normal,a₁,w₁,hq.2,.head h0 jk (StepsIn.trans harr (.one (fenced_calm hb hr rfl) Cx))⟩
 |exit id'=>
  have hx:exitTo id' (.inScope c::k)=exitTo id' k:=by simp[exitTo]
  exact⟨.exit id',a₁,w₁,hq.2,fun k' hk=>.head h0 jk (harr.1 k' (by rw[hx];exact hk)),
   fun hr' hk=>let⟨k₁,h1,h2⟩:=harr.2 hr' (by rw[hx];exact hk);⟨k₁,h1,.head h0 jk h2⟩⟩
 |goto l=>exact(hq.1 l rfl).elim
 |ret=>exact⟨_,a₁,w₁,hq.2,.of_steps (.one h0 jk) harr⟩
 |panic ch=>exact⟨_,a₁,w₁,hq.2,.of_steps (.one h0 jk) harr⟩
 |outgrown=>exact⟨_,a₁,w₁,hq.2,.of_steps (.one h0 jk) harr⟩
theorem QU {c:Code} {Q:Exit→Env→Hp→Prop} {env:Env} {H:Hp} (h:AW P r B p c (fun e env H=>match e with|.goto _=>False|e=>Q e env H) env H):AW P r B p (.scope c) Q env H:=by
 intro S0 w0 ι0 H0 a w hA;refine KM (wpIn_mono (h S0 w0 ι0 H0 a w hA) ?_)
 rintro e a w ⟨env',H',q,hA⟩
 cases e with
 |goto l=>exact q.elim
 |_=>exact⟨fun l e=>(by cases e),env',H',q,hA⟩
theorem QV {l:Nat} {Q:Exit→Env→Hp→Prop} {env:Env} {H:Hp} (h:Q .normal env H):AW P r B p (.label l) Q env H:=fun S0 w0 ι0 H0 a w hA=>wpIn_label ⟨env,H,h,hA⟩
theorem VJ {Q:Exit→Env→Hp→Prop} {env:Env} {H:Hp} (h:Q .normal env H):AW P r B p .skip Q env H:=fun S0 w0 ι0 H0 a w hA=>wpIn_skip ⟨env,H,h,hA⟩
theorem VK {id:Nat} {Q:Exit→Env→Hp→Prop} {env:Env} {H:Hp} (h:Q (.exit id) env H):AW P r B p (.exit id) Q env H:=fun S0 w0 ι0 H0 a w hA=>wpIn_exit ⟨env,H,h,hA⟩
theorem Y0 {Q:Exit→Env→Hp→Prop} {env:Env} {H:Hp} (h:Q .ret env H):AW P r B p .ret Q env H:=fun S0 w0 ι0 H0 a w hA=>wpIn_ret ⟨env,H,h,hA⟩
def Sub (B:Imm→World→Prop) (p:Nat) (env:Env) (H:Hp) (env1:Env) (H1:Hp):Prop:=
 ∀(S0:Imm) (w0:World) (ι0:Ix) (H0:Hp) (a:Act) (w:World),At B p S0 w0 ι0 H0 env H a w→At B p S0 w0 ι0 H0 env1 H1 a w
theorem Cy {F:Fence} {n:Nat} {c:Code} {Q:Exit→Act→World→Prop}:∀(m m':Nat),m≤m'→∀(a:Act) (w:World),Code.roundsIn F n P c Q m a w→Code.roundsIn F n P c Q m' a w:=by
 intro m;induction m with
 |zero=>intro m' _ a w h;exact h.elim
 |succ m ih=>
  intro m' hm a w h;obtain⟨k,rfl⟩:∃k,m'=k+1:=⟨m'-1,by omega⟩
  rw[roundsIn_succ]at h⊢;refine wpIn_mono h fun e a w he=>?_;cases e with
  |normal=>exact ih k (by omega) a w he
  |_=>exact he
theorem I4 {X:Type} (st:X→Env × Hp) (μ:X→Nat) {c:Code} {Q:Exit→Env→Hp→Prop} {env:Env} {H:Hp} (x0:X) (h0:Sub B p env H (st x0).1 (st x0).2)
 (hb:∀x,AW P r B p c (fun e env H=>match e with|.normal=>∃x',μ x'<μ x∧Sub B p env H (st x').1 (st x').2|e=>Q e env H) (st x).1 (st x).2):AW P r B p (.loop c) Q env H:=by
 intro S0 w0 ι0 H0 a w hA;have key:∀m x,μ x=m→∀a w,At B p S0 w0 ι0 H0 (st x).1 (st x).2 a w→Code.roundsIn (Fw r) 0 P c (fun e a' w'=>∃env' H',Q e env' H'∧At B p S0 w0 ι0 H0 env' H' a' w') (m+1) a w:=by
  intro m;induction m using Nat.strongRecOn with
  |_ m ih=>
   intro x hx a w hA;rw[roundsIn_succ];refine wpIn_mono (hb x S0 w0 ι0 H0 a w hA) ?_
   rintro e a' w' ⟨env',H',q,hA'⟩
   cases e with
   |normal=>
    obtain⟨x',hlt,hs⟩:=q;exact Cy (μ x'+1) m (by omega) _ _ (ih (μ x') (by omega) x' rfl a' w' (hs _ _ _ _ _ _ hA'))
   |_=>exact⟨env',H',q,hA'⟩
 exact wpIn_loop_rounds _ (key _ x0 rfl a w (h0 _ _ _ _ _ _ hA))
end
def oh (l:List Nat) (K:List Nat→Prop):Prop:=
 match l with
 | []=>K []
 |x::xs=>oh xs fun ys=>K (x::ys)
theorem yX (l:List Nat):∀K,oh l K=K l:=by
 induction l with
 |nil=>intro K;rfl
 |cons x xs ih=>intro K;simp only[oh,ih]
def tQ:List Oper→List Nat→(List Nat→Prop)→Prop
 | [],acc,K=>K acc
 |o::r,acc,K=>iQ (pG acc o.after.toList) fun m=>oh (acc++[m]) fun acc=>tQ r acc K
theorem Od (l:List Oper):∀acc K,tQ l acc K=K (masks l acc):=by
 induction l with
 |nil=>intro acc K;rfl
 |cons o r ih=>intro acc K;simp only[tQ,masks,jh,yX,ih]
structure Lp (md:Nat) (rf:List Nat) (CP:CPT) (YP:YPT) (n:Nat) (q:Prop):Prop where
 get:q
def iT:Code→Nat
 |.region _ ops _=>YX ops.toList
 |.seq a b=>iT a+iT b
 |.cond _ a b=>iT a+iT b
 |.block _ c=>iT c
 |.loop c=>iT c
 |.rangeFunc _ _ a b=>iT a+iT b
 |.scope c=>iT c
 |_=>0
def dI:Code→Bool
 |.region _ ops d=>match d with|true=>vO ops|false=>true
 |.seq a b=>dI a&&dI b
 |.cond _ a b=>dI a&&dI b
 |.block _ c=>dI c
 |.loop c=>dI c
 |.rangeFunc _ _ a b=>dI a&&dI b
 |.scope c=>dI c
 |_=>true
def KO (x:PV) (c:Operand) (env:Env) (A B:Env→Prop):Prop:=
 match x with
 |.bool t=>match t with
  |true=>A env
  |false=>B env
 |.bp t=>(t=true→match c with|.tmp d=>pX env d (.bool true) A|_=>A env)∧
  (t=false→match c with|.tmp d=>pX env d (.bool false) B|_=>B env)
 |_=>False
section
variable (P:Program) (r:Option Nat) (B:Imm→World→Prop) (p:Nat) (τ:TypeId→Option TE) (md:Nat) (rf:List Nat) (CP:CPT) (YP:YPT)
noncomputable def ev (c:Code):Nat→Env→Hp→(Exit→Env→Hp→Nat→Prop)→Prop:=
 Code.rec (motive:=fun _=>Nat→Env→Hp→(Exit→Env→Hp→Nat→Prop)→Prop)
  (fun n env H K=>K .normal env H n)
  (fun id ops d n env H K=>match d with
   |true=>tQ ops.toList [] fun ms=>p9 τ md rf CP YP ops.toList ops.toList 0 n env H [] fun env H n log=>ifK (lq ms log) (K .normal env H n)
   |false=>p9 τ md rf CP YP ops.toList ops.toList 0 n env H [] fun env H n log=>K .normal env H n)
  (fun a b iha ihb n env H K=>iha n env H fun e env H n=>match e with|.normal=>ihb n env H K|e=>K e env H n)
  (fun c a b iha ihb n env H K=>KO (eo env c) c env (fun env=>iha n env H K) (fun env=>ihb n env H K))
  (fun id c ih n env H K=>ih n env H fun e env H n=>match e with
   |.exit i=>(match aew i id with|true=>K .normal env H n|false=>K (.exit i) env H n)
   |e=>K e env H n)
  (fun c _ n env H K=>iQ (n+iT c) fun n'=>Lp md rf CP YP n (AW P r B p (.loop c) (fun e env H=>K e env H n') env H))
  (fun g ps x y _ _ n env H K=>iQ (n+iT x+iT y+4) fun n'=>Lp md rf CP YP n (AW P r B p (.rangeFunc g ps x y) (fun e env H=>K e env H n') env H))
  (fun id n env H K=>K (.exit id) env H n)
  (fun _ ih n env H K=>ih n env H fun e env H n=>match e with|.goto _=>False|e=>K e env H n)
  (fun _ n env H K=>K .normal env H n)
  (fun _ _ _ _ _=>False)
  (fun n env H K=>K .ret env H n)
  (fun _ _ _ _ _=>False) c
end
theorem iU {P:Program} {r:Option Nat} {τ:TypeId→Option TE} {B:Imm→World→Prop} {p:Nat} (hB:BOK B) (hm:P.follows .mixedOrders=true) (hτ:aV P τ) {md rf CP YP} (hC:jy P B CP) (hY:jY P r B YP):
 ∀(c:Code) (hok:dI c=true) (n:Nat) (env:Env) (H:Hp) (K:Exit→Env→Hp→Nat→Prop),ev P r B p τ md rf CP YP c n env H K→AW P r B p c (fun e env H=>∃n,K e env H n) env H:=by
 intro c;induction c with
 |skip=>intro _ n env H K h;exact VJ ⟨n,h⟩
 |exit id=>intro _ n env H K h;exact VK ⟨n,h⟩
 |ret=>intro _ n env H K h;exact Y0 ⟨n,h⟩
 |region id ops d=>
  intro hok n env H K h;cases d with
  |true=>
   have h:tQ ops.toList [] fun ms=>p9 τ md rf CP YP ops.toList ops.toList 0 n env H [] fun env H n log=>ifK (lq ms log) (K .normal env H n):=h;rw[Od]at h;exact Cw hB hm hτ hC hY hok (K:=fun env H n log=>K .normal env H n) (fun env H n log h=>⟨n,h⟩) h
  |false=>exact z8 hB hτ hC hY (K:=fun env H n log=>K .normal env H n) (fun env H n log h=>⟨n,h⟩) h
 |seq a b iha ihb=>
  intro hok n env H K h;simp only[dI,aeA]at hok;refine YZ ((iha hok.1 n env H _ h).mono ?_)
  rintro e env H ⟨n,h⟩
  cases e with
  |normal=>exact ihb hok.2 n env H K h
  |_=>exact⟨n,h⟩
 |cond c a b iha ihb=>
  intro hok n env H K h;simp only[dI,aeA]at hok;have h:KO (eo env c) c env (fun env=>ev P r B p τ md rf CP YP a n env H K) (fun env=>ev P r B p τ md rf CP YP b n env H K):=h;unfold KO at h;split at h
  ·rename_i t hc
   split at h
   ·exact vP (t:=true) (.inl hc) (iha hok.1 n env H K h)
   ·exact vP (t:=false) (.inl hc) (ihb hok.2 n env H K h)
  ·rename_i t hc
   cases t with
   |true=>
    have h1:=h.1 rfl;refine vP (t:=true) (.inr hc) ?_;simp only[if_true];split at h1
    ·rename_i d
     rw[lH]at h1;exact(iha hok.1 n _ H K h1).eqE (EqE.bool hc)
    ·exact iha hok.1 n _ H K h1
   |false=>
    have h1:=h.2 rfl;refine vP (t:=false) (.inr hc) ?_;simp only[ad7,if_false];split at h1
    ·rename_i d
     rw[lH]at h1;exact(ihb hok.2 n _ H K h1).eqE (EqE.bool hc)
    ·exact ihb hok.2 n _ H K h1
  ·exact h.elim
 |block id c ih=>
  intro hok n env H K h;refine QT ((ih hok n env H _ h).mono ?_)
  rintro e env H ⟨n,h⟩
  cases e with
  |exit i=>
   simp only at h⊢;cases hb:aew i id<;>rw[hb]at h<;>exact⟨n,h⟩
  |_=>exact⟨n,h⟩
 |loop c ih=>
  intro hok n env H K h;have h:iQ (n+iT c) fun n'=>Lp md rf CP YP n (AW P r B p (.loop c) (fun e env H=>K e env H n') env H):=h;rw[jh]at h;exact h.get.mono fun e env H h=>⟨_,h⟩
 |rangeFunc g ps x y _ _=>
  intro hok n env H K h;have h:iQ (n+iT x+iT y+4) fun n'=>Lp md rf CP YP n (AW P r B p (.rangeFunc g ps x y) (fun e env H=>K e env H n') env H):=h;rw[jh]at h;exact h.get.mono fun e env H h=>⟨_,h⟩
 |scope c ih=>
  intro hok n env H K h;refine QU ((ih hok n env H _ h).mono ?_)
  rintro e env H ⟨n,h⟩
  cases e with
  |goto l=>exact h.elim
  |_=>exact⟨n,h⟩
 |label l=>intro _ n env H K h;exact QV ⟨n,h⟩
 |_=>intro _ n env H K h;exact h.elim
def qV:PV→Option PV
 |.agg cs=>match kW cs with|some ds=>some (.agg ds)|none=>none
 |.any=>some .any
 |p=>eF p
def jf:List PV→Option (List PV)
 | []=>some []
 |x::xs=>match qV x with
  |some y=>match jf xs with
   |some ys=>some (y::ys)
   |none=>none
  |none=>none
theorem qc {p q:PV} (h:qV p=some q) {S:Imm} {w:World} {ι:Ix} {v:Value} (hr:Rep S w ι p v):Rep S w noI q v:=by
 unfold qV at h;split at h
 ·rename_i cs
  split at h
  ·rename_i ds hds
   cases h
   obtain⟨h1,h2⟩:=kg hds;cases hr with
   |agg _ _ vs hl hh=>exact .agg _ _ _ (h1.trans hl) (fun i hi=>h2 i (by omega) (hh i (by omega)))
  ·cases h
 ·cases h;exact .any _ _
 ·exact fE h hr
theorem iA:∀{ps qs:List PV},jf ps=some qs→qs.length=ps.length∧∀i,i<ps.length→∀{S:Imm} {w:World} {ι:Ix} {v:Value},Rep S w ι (aC ps i) v→Rep S w noI (aC qs i) v:=by
 intro ps;induction ps with
 |nil=>intro qs h;simp[jf]at h;subst h;exact⟨rfl,fun i hi=>by simp at hi⟩
 |cons p ps ih=>
  intro qs h;unfold jf at h;split at h
  ·rename_i y hy
   split at h
   ·rename_i ys hys
    cases h
    obtain⟨h1,h2⟩:=ih hys;refine⟨by simp[h1],fun i hi=>?_⟩
    cases i with
    |zero=>intro S w ι v hr;exact qc hy hr
    |succ i=>exact h2 i (by simpa using hi)
   ·cases h
  ·cases h
def KP (v:PV) (H:Hp) (K:PV→Hp→Prop):Prop:=
 match v with
 |.rsl k off n=>bW H k fun o=>match o with
  |.cells c fz=>oI c fun d=>lS d fun ce=>iw d fun cn=>match aew off 0 with
   |true=>n≤cn∧(match fz with
    |true=>K (.isl (d.sub 0 n) .none) H
    |false=>nP H k (.cells d true) fun H=>K (.isl (d.sub 0 n) .none) H)
   |false=>False
  |_=>False
 |v=>match qV v with
  |some v=>bI v fun v=>K v H
  |none=>False
def KQ:List PV→Hp→(List PV→Hp→Prop)→Prop
 | [],H,K=>K [] H
 |v::vs,H,K=>KP v H fun u H=>KQ vs H fun us H=>K (u::us) H
def KS (v:PV) (H:Hp) (K:PV→Hp→Prop):Prop:=
 match v with
 |.agg vs=>KQ vs H fun us H=>K (.agg us) H
 |v=>KP v H K
def tT:List PV→Hp→(List PV→Hp→Prop)→Prop
 | [],H,K=>K [] H
 |v::vs,H,K=>KS v H fun u H=>tT vs H fun us H=>K (u::us) H
section
variable {P:Program} {τ:TypeId→Option TE} {B:Imm→World→Prop} {p:Nat}
def Frz (P:Program) (H H':Hp) (R R':Imm→World→Ix→Prop):Prop:=
 ∀{S:Imm} {w:World} {ι:Ix},Mem S w ι H→R S w ι→∃S',Mem S' w ι H'∧Keeps S w S' w∧(∀p,Tr p S w ι H S' w ι H')∧R' S' w ι
theorem yY {v:PV} {H:Hp} {K:PV→Hp→Prop} (h:KP v H K):∃u H',K u H'∧∀val,Frz P H H' (fun S w ι=>Rep S w ι v val) (fun S w ι=>Rep S w noI u val):=by
 unfold KP at h;split at h
 ·rename_i k off n
  rw[bg]at h;obtain⟨ob,hob,h⟩:=h;split at h
  ·rename_i c fz
   have h':=jC h;clear h;obtain⟨d,h,d1,d2,d3⟩:=h';simp only[fU,dS]at h;split at h
   ·rename_i hoff
    have hoff:=aeB hoff;subst hoff;obtain⟨hn,h⟩:=h;have fin:∀{S:Imm} {w:World} {ι:Ix} {c:CL} {val:Value},n≤c.cnt→(∀b,ι.o k=some b→∀j,j<c.ncell→S b j∧Rep S w noI (c.get j) (rdv w b j))→Rep S w ι (.rsl k 0 n) val→Rep S w noI (.isl (c.sub 0 n) .none) val:=by
     intro S w ι c val hn hs hr;cases hr with
     |rsl _ _ _ _ b cap hk hc _=>
      have:=lW (S:=S) (w:=w) (c:=c) (b:=b) (off:=0) (fun j hj=>by rw[aeC];exact(hs b hk j hj).1) (fun j hj=>by rw[aeC];exact(hs b hk j hj).2) (x:=0) (y:=n) (by omega) hn (cap:=cap) (by omega) noI
      simpa using this
     |rslz _ _ _ b o hk=>
      exact iJ _ (by rw[iy _ (by omega)]) (.inr ⟨b,o,rfl⟩) noI
    split at h
    ·refine⟨_,_,h,fun val S w ι M hr=>⟨S,M,.refl _ _,fun p=>.refl _ _ _ _ _,?_⟩⟩
     exact fin hn (fun b hb j hj=>⟨(M.frozen hob hb j (by omega)).1,d3 j (by omega) (M.frozen hob hb j (by omega)).2⟩) hr
    ·rw[wR]at h
     refine⟨_,_,h,fun val S w ι M hr=>?_⟩;obtain⟨S',M',K',T,F⟩:=M.freeze (c':=d) hob d2 (fun j hj=>by intro S w ι v hr;exact d3 j hj hr)
     exact⟨S',M',K',T,fin hn (fun b hb=>F b hb) (hr.mono K' _ (.refl _))⟩
   ·exact h.elim
  ·exact h.elim
 ·split at h
  ·rename_i u hu
   rw[bE]at h;exact⟨u,H,h,fun val S w ι M hr=>⟨S,M,.refl _ _,fun p=>.refl _ _ _ _ _,qc hu hr⟩⟩
  ·exact h.elim
theorem Hr:∀(vs:List PV) {H:Hp} {K:List PV→Hp→Prop},KQ vs H K→∃us H',K us H'∧us.length=vs.length∧
 ∀(val:Nat→Value),Frz P H H' (fun S w ι=>∀i,i<vs.length→Rep S w ι (aC vs i) (val i)) (fun S w ι=>∀i,i<us.length→Rep S w noI (aC us i) (val i)):=by
 intro vs;induction vs with
 |nil=>intro H K h;exact⟨_,_,h,rfl,fun val S w ι M hr=>⟨S,M,.refl _ _,fun p=>.refl _ _ _ _ _,fun i hi=>by simp at hi⟩⟩
 |cons v vs ih=>
  intro H K h;obtain⟨u,H1,h,h1⟩:=yY (P:=P) h;obtain⟨us,H2,h,hl,h2⟩:=ih h;refine⟨_,_,h,by simp[hl],fun val S w ι M hr=>?_⟩
  obtain⟨S1,M1,K1,T1,R1⟩:=h1 (val 0) M (hr 0 (by simp))
  obtain⟨S2,M2,K2,T2,R2⟩:=h2 (fun i=>val (i+1)) M1 (fun i hi=>by have:=(hr (i+1) (by simpa using hi)).mono K1 _ (.refl _);simpa [aC]using this)
  refine⟨S2,M2,K1.trans K2,fun p=>(T1 p).trans (T2 p),fun i hi=>?_⟩;cases i with
  |zero=>exact R1.mono K2 _ (.refl _)
  |succ i=>simpa [aC]using R2 i (by simpa using hi)
theorem Ht {v:PV} {H:Hp} {K:PV→Hp→Prop} (h:KS v H K):∃u H',K u H'∧∀val,Frz P H H' (fun S w ι=>Rep S w ι v val) (fun S w ι=>Rep S w noI u val):=by
 unfold KS at h;split at h
 ·rename_i vs
  obtain⟨us,H',h,hl,hs⟩:=Hr (P:=P) _ h;refine⟨_,_,h,fun val S w ι M hr=>?_⟩;cases hr with
  |agg _ _ ws hw hh=>
   obtain⟨S',M',K',T',R'⟩:=hs (fun i=>ws.getD i undef) M hh;exact⟨S',M',K',T',.agg _ _ _ (hl.trans hw) R'⟩
 ·exact yY h
theorem Ew:∀(vs:List PV) {H:Hp} {K:List PV→Hp→Prop},tT vs H K→∃us H',K us H'∧us.length=vs.length∧
 ∀(val:Nat→Value),Frz P H H' (fun S w ι=>∀i,i<vs.length→Rep S w ι (aC vs i) (val i)) (fun S w ι=>∀i,i<us.length→Rep S w noI (aC us i) (val i)):=by
 intro vs;induction vs with
 |nil=>intro H K h;exact⟨_,_,h,rfl,fun val S w ι M hr=>⟨S,M,.refl _ _,fun p=>.refl _ _ _ _ _,fun i hi=>by simp at hi⟩⟩
 |cons v vs ih=>
  intro H K h;obtain⟨u,H1,h,h1⟩:=Ht (P:=P) h;obtain⟨us,H2,h,hl,h2⟩:=ih h;refine⟨_,_,h,by simp[hl],fun val S w ι M hr=>?_⟩
  obtain⟨S1,M1,K1,T1,R1⟩:=h1 (val 0) M (hr 0 (by simp))
  obtain⟨S2,M2,K2,T2,R2⟩:=h2 (fun i=>val (i+1)) M1 (fun i hi=>by have:=(hr (i+1) (by simpa using hi)).mono K1 _ (.refl _);simpa [aC]using this)
  refine⟨S2,M2,K1.trans K2,fun p=>(T1 p).trans (T2 p),fun i hi=>?_⟩;cases i with
  |zero=>exact R1.mono K2 _ (.refl _)
  |succ i=>simpa [aC]using R2 i (by simpa using hi)
end
def kH (τ:TypeId→Option TE):List ResultVar→Env→Hp→(List PV→Prop)→Prop
 | [],env,H,K=>K []
 |r::rs,env,H,K=>match r with
  |.tmp t=>bI (aC env t) fun v=>kH τ rs env H fun vs=>K (v::vs)
  |.cell a ty=>teK τ ty fun te=>match aC env a with
   |.rp k off=>bW H k fun o=>match o with
    |.cells c _=>rdK te c off fun v=>kH τ rs env H fun vs=>K (v::vs)
    |_=>False
   |.ip c off=>rdK te c off fun v=>kH τ rs env H fun vs=>K (v::vs)
   |_=>False
def bF (vs:List PV):PV:=match vs with| [v]=>v|vs=>.tup vs
section
variable {P:Program} {τ:TypeId→Option TE}
theorem qW (hτ:aV P τ) {env:Env} {H:Hp}:∀(rs:List ResultVar) {K:List PV→Prop},kH τ rs env H K→∃vs,K vs∧∀{S:Imm} {w:World} {ι:Ix} {tmps:Array Value},Mem S w ι H→bC S w ι env tmps→
 ∃vals:List Value,(rs.mapM fun(x:ResultVar)=>(match x with|.tmp t=>pure (tmps.getD t undef)|.cell a t=>do loadVar t (←asAddr (tmps.getD a undef)):Sem Value)).run P w=.ok vals w∧vals.length=vs.length∧
  ∀i,i<vs.length→Rep S w ι (aC vs i) (vals.getD i undef):=by
 intro rs;induction rs with
 |nil=>intro K h;exact⟨_,h,fun M R=>⟨[],rfl,rfl,fun i hi=>by simp at hi⟩⟩
 |cons x rs ih=>
  intro K h;have cons:∀{v:PV} {K:List PV→Prop},(kH τ rs env H fun vs=>K (v::vs))→
   (∀{S:Imm} {w:World} {ι:Ix} {tmps:Array Value},Mem S w ι H→bC S w ι env tmps→∃val,((match x with|.tmp t=>pure (tmps.getD t undef)|.cell a t=>do loadVar t (←asAddr (tmps.getD a undef)):Sem Value)).run P w=.ok val w∧Rep S w ι v val)→
   ∃vs,K vs∧∀{S:Imm} {w:World} {ι:Ix} {tmps:Array Value},Mem S w ι H→bC S w ι env tmps→
    ∃vals:List Value,((x::rs).mapM fun(x:ResultVar)=>(match x with|.tmp t=>pure (tmps.getD t undef)|.cell a t=>do loadVar t (←asAddr (tmps.getD a undef)):Sem Value)).run P w=.ok vals w∧vals.length=vs.length∧
     ∀i,i<vs.length→Rep S w ι (aC vs i) (vals.getD i undef):=by
   intro v K h hx;obtain⟨vs,hK,hs⟩:=ih h;refine⟨_,hK,fun M R=>?_⟩;rename_i S w ι tmps;obtain⟨val,r1,r2⟩:=hx M R;obtain⟨vals,q1,q2,q3⟩:=hs M R;refine⟨val::vals,?_,by simp[q2],fun i hi=>?_⟩
   ·rw[List.mapM_cons,Sem.run_bind,r1]
    simp only[Result.andThen,Sem.run_bind,q1,Sem.run_pure]
   ·cases i with
    |zero=>simpa [aC]using r2
    |succ i=>simpa [aC]using q3 i (by simpa using hi)
  unfold kH at h;split at h
  ·rename_i t
   rw[bE]at h;refine cons h fun M R=>⟨_,rfl,?_⟩;rename_i S w ι tmps;exact og (a:={tmps:=tmps,defers:=[]}) R (.tmp t) (fun g e=>by cases e)
  ·rename_i a ty
   rw[bX]at h;obtain⟨te,ht,h⟩:=h;split at h
   ·rename_i k off hk
    rw[bg]at h;obtain⟨o,ho,h⟩:=h;split at h
    ·obtain⟨v,h,hv⟩:=mU hτ ht h
     refine cons h fun M R=>?_;rename_i S w ι tmps;have h1:=og (a:={tmps:=tmps,defers:=[]}) R (.tmp a) (fun g e=>by cases e)
     simp only[eo,Act.eval,hk]at h1;generalize he:tmps.getD a undef=x at h1
     cases h1 with
     |rp _ _ _ b hb=>
      obtain⟨val,r1,r2⟩:=hv (M.lies ho hb);refine⟨val,?_,r2⟩;rw[aeC]at r1;simp only[asAddr,he,Sem.run_bind,Sem.run_pure,Result.andThen];exact r1
    ·exact h.elim
   ·rename_i c off hk
    obtain⟨v,h,hv⟩:=mU hτ ht h;refine cons h fun M R=>?_;rename_i S w ι tmps;have h1:=og (a:={tmps:=tmps,defers:=[]}) R (.tmp a) (fun g e=>by cases e)
    simp only[eo,Act.eval,hk]at h1;generalize he:tmps.getD a undef=x at h1
    cases h1 with
    |ip _ _ _ b o hs hh=>
     obtain⟨val,r1,r2⟩:=hv (oL.of_imm (ι:=ι) M.imm hs hh);refine⟨val,?_,r2⟩;simp only[asAddr,he,Sem.run_bind,Sem.run_pure,Result.andThen];exact r1
   ·exact h.elim
end
end Go.Eng
