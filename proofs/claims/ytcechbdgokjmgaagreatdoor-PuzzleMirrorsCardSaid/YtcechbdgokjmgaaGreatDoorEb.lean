/- An engine that walks through a function of the program with symbolic values, and the proofs that it is sound. No condition. -/
import Derived.Laws.Tables
import Derived.MapKept
import Derived.Lib.ConvBytes
import Derived.Test.YtcechbdgokjmgaaGreatDoorEa
open Array renaming getD_eq_getD_getElem?→ahW,getElem?_eq_getElem→ahT,length_toList→ais,getElem?_push→ahS,getElem?_eq_none→ahQ,size_append→aiL,size_map→aiM,getElem?_map→aiN,range→aiP,getElem?_append_left→aiY,getElem?_append_right→aiZ,empty_append→ai1,toList_inj→ai4,ext→ai5,getElem_push_lt→ai9,getElem_push_eq→ajb
open Bool renaming and_eq_true→aia,false_eq_true→aiF,not_false→aiz
open Classical renaming not_not→aiK
open Int renaming toNat_natCast→aiV
open List renaming getElem?_take→aiB,length_take→aiG,getD_cons_zero→aiJ,getD_eq_getElem?_getD→ahZ,getElem?_map→aiO,range→ahX,getElem?_toArray→aiR,getElem?_cons_zero→aiS,getElem?_cons_succ→aiT,length_cons→ahK,getElem?_append→aiW,getElem?_append_right→aiX,getElem_of_mem→ah3,getElem?_range→ai0,getElem?_replicate→ai2,length_eq_zero_iff→ai6,length_append→ai7,length_nil→ahG,getElem_append_left→ai8,getElem_append_right→aja,getElem_cons_zero→ajc
open Nat renaming add_zero→ahH,eq_of_beq_eq_true→aib,le_of_ble_eq_true→aio,mul_one→aip,add_assoc→ahL,zero_add→aic,eq_zero_or_pos→aiC,div_lt_iff_lt_mul→aix,mul_comm→aie,mul_add_div→aif,mul_add_mod→aij,zero_le→aiD,le_refl→ahO,mul_le_mul_right→ail,add_mul→ain,beq→ah6,zero_mul→aiH,sub_self→aiq,le_mul_of_pos_right→aiI,mod_lt→aiQ,mul_le_mul→aiU,lt_or_ge→ahP,mod_one→ai3
open Option renaming map_some→ahV,map_none→aiE,getD_some→ah5
namespace Go.Eng
open Go.RowKit
set_option linter.unusedSimpArgs false
set_option linter.unusedVariables false
variable {P:Program} {r:Option Nat} {τ:TypeId→Option TE}
theorem Gb (ρ:Operand→PV) (l:List Operand):(kQ ρ l).length=l.length:=by
 induction l with
 |nil=>rfl
 |cons x xs ih=>simp[kQ,ih]
theorem UE (ρ:Operand→PV) (l:List Operand):∀i (h:i<l.length),aD (kQ ρ l) i=ρ l[i]:=by
 induction l with
 |nil=>intro i h;simp at h
 |cons x xs ih=>
  intro i h;cases i with
  |zero=>rfl
  |succ i=>simpa [kQ,aD]using ih i (by simpa using h)
theorem lK {S:Imm} {w:World} {ι:Ix} {ρ:Operand→PV} {a:Act} (l:Array Operand) (h:∀x∈l.toList,Rep S w ι (ρ x) (a.eval x)):bF S w ι (kQ ρ l.toList) (l.map a.eval):=by
 refine⟨by simp[Gb],fun i hi=>?_⟩
 rw[Gb]at hi;rw[UE _ _ _ hi];have:=h l.toList[i] (List.getElem_mem _);simpa [ahW,ahT (show i<l.size by simpa using hi)]using this
theorem JO (vs:List Value):∀(k off:Nat) (cells:Array Value),(vs.zipIdx k).foldl (fun cs (x:Value × Nat)=>cs.setIfInBounds (off+x.2) x.1) cells=putRow cells (off+k) vs:=by
 induction vs with
 |nil=>intro k off cells;rfl
 |cons v vs ih=>intro k off cells;simp only[List.zipIdx_cons,List.foldl_cons,putRow];rw[ih];rfl
theorem QT {place:Nat→Option (Nat × Nat)} {cells:Array Value} {i off size:Nat} {v:Value} {rest:List (Nat × Value)} (hp:place i=some (off,size)) (hs:v.cells.size=size) (hb:off+v.cells.size≤cells.size):
 Instr.fill place cells ((i,v)::rest)=Instr.fill place (putRow cells off v.cells.toList) rest:=by
 rw[Instr.fill,hp];simp only;rw[if_neg (by simp[hs];omega)]
 congr 1
 have:=JO v.cells.toList 0 off cells;rw[ahH]at this;rw[←this,←Array.foldl_toList];congr 1;simp
theorem Zc {S:Imm} {w:World} {ι:Ix} {l:List PV} {vs:Array Value} (h:bF S w ι l vs) {o:Nat} {cs:List PV} {ws:Array Value} (hc:bF S w ι cs ws) (hb:o+cs.length≤l.length):
 bF S w ι (setCells l o cs) (putRow vs o ws.toList):=by
 have e1:=h.1;have e2:=hc.1;refine⟨by rw[mh,eT];exact h.1,fun j hj=>?_⟩
 rw[mh]at hj;rw[vT _ _ _ _ hb,ji _ _ _ _ (by simp;omega)]
 simp only[ais,←e2];split
 ·have:=hc.2 (j-o) (by omega)
  simpa [ahW]using this
 ·exact h.2 j hj
theorem K6 {S:Imm} {w:World} {ι:Ix} {p:PV} {v:Value} (h:Rep S w ι p v) (ho:one p=true):bF S w ι [p] v.cells:=by
 rw[h.cellsOne ho];refine⟨rfl,fun i hi=>?_⟩;simp at hi;subst hi;exact h
theorem uf {S:Imm} {w:World} {ι:Ix} {ρ:Operand→PV} {a:Act} {place:Nat→Option (Nat × Nat)} {F:List PV→List (Nat × PV)→Option (List PV)}
 (hF0:∀l,F l []=some l)
 (hF:∀l i v rest cs,F l ((i,v)::rest)=some cs→∃o sz ds,place i=some (o,sz)∧ds.length=sz∧o+sz≤l.length∧F (setCells l o ds) rest=some cs∧∀val,Rep S w ι v val→bF S w ι ds val.cells)
 (parts:List (Nat × Operand)):∀(l cs:List PV) (vs:Array Value),(∀x∈parts,Rep S w ι (ρ x.2) (a.eval x.2))→F l (partsOf ρ parts)=some cs→bF S w ι l vs→
  ∃vs',Instr.fill place vs (parts.map fun x=>(x.1,a.eval x.2))=some vs'∧bF S w ι cs vs':=by
 induction parts with
 |nil=>intro l cs vs hr h hl;rw[partsOf,hF0]at h;cases h;exact⟨vs,rfl,hl⟩
 |cons x xs ih=>
  intro l cs vs hr h hl;obtain⟨i,x⟩:=x;rw[partsOf]at h;obtain⟨o,sz,ds,hp,hd,hb,h',hrep⟩:=hF _ _ _ _ _ h;have hds:=hrep _ (hr (i,x) (by simp))
  have e1:=hl.1;have e2:ds.length=(a.eval x).cells.size:=hds.1;obtain⟨vs',h1,h2⟩:=ih _ cs _ (fun y hy=>hr y (List.mem_cons_of_mem _ hy)) h' (Zc hl hds (by omega))
  refine⟨vs',?_,h2⟩;simp only[List.map_cons];rw[QT hp (by omega) (by omega)]
  exact h1
theorem Nu {S:Imm} {w:World} {ι:Ix} {pl:List (Nat × Nat)} (l:List PV) (i:Nat) (v:PV) (rest:List (Nat × PV)) (cs:List PV) (h:ru l pl ((i,v)::rest)=some cs):
 ∃o sz ds,pl[i]? =some (o,sz)∧ds.length=sz∧o+sz≤l.length∧ru (setCells l o ds) pl rest=some cs∧∀val,Rep S w ι v val→bF S w ι ds val.cells:=by
 unfold ru at h;split at h
 ·cases h
 ·rename_i o sz hp
  split at h
  ·rename_i ds
   split at h
   ·rename_i hb
    simp only[aia]at hb;have e1:=aib hb.1;have e2:=aio hb.2;exact⟨o,sz,ds,hp,e1,e2,h,fun val hr=>by cases hr with|agg _ _ vs hl hh=>exact⟨hl,hh⟩⟩
   ·cases h
  ·split at h
   ·rename_i hb
    simp only[aia]at hb;have e1:=aib hb.1.2;have e2:=aio hb.2;exact⟨o,sz,[v],hp,by simp[e1],by omega,h,fun val hr=>K6 hr hb.1.1⟩
   ·cases h
theorem ug {S:Imm} {w:World} {ι:Ix} {esz:Nat} (l:List PV) (i:Nat) (v:PV) (rest:List (Nat × PV)) (cs:List PV) (h:jT l esz ((i,v)::rest)=some cs):
 ∃o sz ds,(some (i*esz,esz):Option (Nat × Nat))=some (o,sz)∧ds.length=sz∧o+sz≤l.length∧jT (setCells l o ds) esz rest=some cs∧∀val,Rep S w ι v val→bF S w ι ds val.cells:=by
 unfold jT at h;split at h
 ·rename_i ds
  split at h
  ·rename_i hb
   simp only[aia]at hb;have e1:=aib hb.1;have e2:=aio hb.2;exact⟨i*esz,esz,ds,rfl,e1,e2,h,fun val hr=>by cases hr with|agg _ _ vs hl hh=>exact⟨hl,hh⟩⟩
  ·cases h
 ·split at h
  ·rename_i hb
   simp only[aia]at hb;have e1:=aib hb.1.2;have e2:=aio hb.2;subst e1;exact⟨i*1,1,[v],rfl,rfl,by omega,by rw[aip];exact h,fun val hr=>K6 hr hb.1.1⟩
  ·cases h
theorem JQ (hτ:aY P τ):∀(fs:List Field) (pl:List (Nat × Nat)),placesOf τ fs=some pl→fs.mapM (fun f=>(P.info? f.type).map fun i=>(f.offset,i.size))=some pl:=by
 intro fs;induction fs with
 |nil=>intro pl h;simp[placesOf]at h;subst h;rfl
 |cons f fs ih=>
  intro pl h;unfold placesOf at h;split at h
  ·rename_i te ht
   split at h
   ·rename_i l hl
    cases h
    obtain⟨i,h1,h2,h3,h4⟩:=hτ.info _ _ ht;simp[List.mapM_cons,h1,ih l hl,h3]
   ·cases h
  ·cases h
theorem JR (hτ:aY P τ) {md rf CP YP} {o:Oper} {ρ:Operand→PV} {H:Hp} {n:Nat} {t:TypeId} {parts:Array (Nat × Operand)} (ho:o.op=.build t parts) {K:KR}
 (h:opK τ md rf CP YP ρ H n o.dst o.op K):∃v sets accs news,K v sets accs news∧bE P r o ρ H v sets accs news:=by
 rw[ho]at h;simp only[opK,cB,bg]at h;obtain⟨te,ht,h⟩:=h;obtain⟨it,i1,i2,i3,i4⟩:=hτ.info _ _ ht;have hz:∀{S:Imm} {w:World} {ι:Ix},bF S w ι (qo te.zero.cells.toList) te.zero.cells:=by
  intro S w ι;refine⟨by simp[nG],fun i hi=>?_⟩
  rw[nG]at hi;have:=tY (S:=S) (w:=w) (ι:=ι) te.zero.cells.toList i hi;simpa [ahW]using this
 have hparts:∀{S:Imm} {w:World} {ι:Ix} {a:Act},(∀x∈o.op.operands.toList,Rep S w ι (ρ x) (a.eval x))→∀x∈parts.toList,Rep S w ι (ρ x.2) (a.eval x.2):=by
  intro S w ι a hr x hx;exact hr x.2 (by simp[ho,Op.operands];exact⟨x.1,by simpa using hx⟩)
 split at h
 ·rename_i fs hu
  split at h
  ·rename_i pl hpl
   split at h
   ·rename_i cs hcs
    refine⟨_,_,_,_,h,aU (fun c e=>by rw[ho]at e;cases e) fun S w ι H' a M hr ha=>?_⟩
    obtain⟨vs',h1,h2⟩:=uf (S:=S) (w:=w) (ι:=ι) (ρ:=ρ) (a:=a) (place:=fun i=>pl.toArray[i]?) (F:=fun l ps=>ru l pl ps) (fun l=>by simp[ru])
     (fun l i v rest cs hh=>by simpa using Nu l i v rest cs hh) parts.toList _ cs te.zero.cells (hparts hr) hcs hz
    refine⟨.agg vs',?_,.agg _ _ _ h2.1 h2.2⟩;simp only[execOp,ho];refine dQ (run_build w t _ vs' ?_);simp only[Program.built,i1,hτ.und _ _ ht,hu,i2,JQ hτ _ _ hpl];simpa using h1
   ·exact h.elim
  ·exact h.elim
 ·rename_i q e hu
  obtain⟨te',hte',h⟩:=h;obtain⟨je,j1,j2,j3,j4⟩:=hτ.info _ _ hte';split at h
  ·rename_i cs hcs
   refine⟨_,_,_,_,h,aU (fun c e=>by rw[ho]at e;cases e) fun S w ι H' a M hr ha=>?_⟩
   obtain⟨vs',h1,h2⟩:=uf (S:=S) (w:=w) (ι:=ι) (ρ:=ρ) (a:=a) (place:=fun i=>some (i*te'.size,te'.size)) (F:=fun l ps=>jT l te'.size ps) (fun l=>by simp[jT])
    (fun l i v rest cs hh=>ug l i v rest cs hh) parts.toList _ cs te.zero.cells (hparts hr) hcs hz
   refine⟨.agg vs',?_,.agg _ _ _ h2.1 h2.2⟩;simp only[execOp,ho];refine dQ (run_build w t _ vs' ?_);simp only[Program.built,i1,hτ.und _ _ ht,hu,i2,j1,j3];simpa using h1
  ·exact h.elim
 ·exact h.elim
theorem o9 (hτ:aY P τ) {t:TypeId} {tf:TE} (ht:τ t=some tf) {cs:List PV} {vs:Array Value} {S:Imm} {w:World} {ι:Ix} (h:bF S w ι cs vs) {off:Nat}:
 (tf.isAgg=true→off+tf.size≤cs.length→∃val,(part t vs off).run P w=.ok val w∧Rep S w ι (.agg (CL.gets (.pv cs) off tf.size)) val)∧
 (tf.isAgg=false→off+1≤cs.length→∃val,(part t vs off).run P w=.ok val w∧Rep S w ι (aD cs off) val):=by
 have e1:=h.1;refine⟨fun ha hb=>⟨.agg (vs.extract off (off+tf.size)),?_,?_⟩,fun ha hb=>⟨vs.getD off undef,?_,h.2 off (by omega)⟩⟩
 ·simp[part,jW hτ ht,Result.andThen,ha,bQ hτ ht]
 ·refine .agg _ _ _ (by simp[qx];omega) (fun i hi=>?_)
  rw[qx]at hi;rw[yZ _ _ _ _ hi];have:=h.2 (off+i) (by omega)
  simp only[CL.get];rw[ahW]at this⊢;rw[Array.getElem?_extract,if_pos (by omega)];exact this
 ·have:off<vs.size:=by omega
  simp[part,jW hτ ht,Result.andThen,ha,ahT this,ahW]
theorem JU (hτ:aY P τ) {md rf CP YP} {o:Oper} {ρ:Operand→PV} {H:Hp} {n:Nat} {t:TypeId} {x:Operand} {f:Nat} (ho:o.op=.field t x f) {K:KR}
 (h:opK τ md rf CP YP ρ H n o.dst o.op K):∃v sets accs news,K v sets accs news∧bE P r o ρ H v sets accs news:=by
 rw[ho]at h;simp only[opK,cB]at h;obtain⟨te,ht,h⟩:=h;split at h
 ·rename_i fs hu
  split at h
  ·rename_i fd hfd
   obtain⟨tf,htf,h⟩:=h;split at h
   ·rename_i cs hρ
    have run:∀{S:Imm} {w:World} {ι:Ix} {a:Act},(∀x∈o.op.operands.toList,Rep S w ι (ρ x) (a.eval x))→∃vs,bF S w ι cs vs∧
     ∀{val:Value},(part fd.type vs fd.offset).run P w=.ok val w→(execOp a.eval o).run P w=.ok (.value val) w:=by
     intro S w ι a hr;have hx:=hr x (by simp[ho,Op.operands])
     rw[hρ]at hx;cases hev:a.eval x<;>rw[hev]at hx<;>cases hx
     rename_i vs hl hh;refine⟨vs,⟨hl,hh⟩,fun hp=>?_⟩;simp only[execOp,ho];refine dQ ?_;simp only[Instr.field,Sem.run_bind,run_underlying (hτ.und _ _ ht),hu,Result.andThen,hfd,hev,asAgg,Sem.run_pure,hp]
    split at h
    ·rename_i hagg
     rw[aL,bg]at h;have hb:=aio h.1;refine⟨_,_,_,_,h.2,aU (fun c e=>by rw[ho]at e;cases e) fun S w ι H' a M hr ha=>?_⟩
     obtain⟨vs,hv,hrun⟩:=run hr;obtain⟨val,h1,h2⟩:=(o9 hτ htf hv).1 hagg hb;exact⟨val,hrun h1,h2⟩
    ·rename_i hagg
     rw[aL,bH]at h;have hb:=aio h.1;refine⟨_,_,_,_,h.2,aU (fun c e=>by rw[ho]at e;cases e) fun S w ι H' a M hr ha=>?_⟩
     obtain⟨vs,hv,hrun⟩:=run hr;obtain⟨val,h1,h2⟩:=(o9 hτ htf hv).2 hagg hb;exact⟨val,hrun h1,h2⟩
   ·exact h.elim
  ·exact h.elim
 ·exact h.elim
theorem Ak {x:PV} {d:Nat} {K:PV→Prop} (h:F6 x d K):∃v,K v∧∀{S:Imm} {w:World} {ι:Ix} {vx:Value},Rep S w ι x vx→∃b o,vx=.pointer (some ⟨b,o,none⟩)∧Rep S w ι v (.pointer (some ⟨b,o+d,none⟩)):=by
 unfold F6 at h;split at h
 ·exact⟨_,h,fun hx=>by cases hx;exact⟨_,_,rfl,.rp _ _ _ _ ‹_›⟩⟩
 ·refine⟨_,h,fun hx=>?_⟩
  cases hx with
  |ip _ c off b o hs hh=>exact⟨_,_,rfl,by rw[ahL];exact .ip _ _ _ _ _ hs hh⟩
 ·refine⟨_,h,fun hx=>?_⟩
  cases hx with
  |rpe _ k m i j b hk=>exact⟨_,_,rfl,by rw[ahL];exact .rpe _ _ _ _ _ _ hk⟩
 ·refine⟨_,h,fun hx=>?_⟩
  cases hx with
  |ipe _ c i j b o hs hh=>exact⟨_,_,rfl,by rw[ahL,ahL];exact .ipe _ _ _ _ _ _ hs hh⟩
 ·refine⟨_,h,fun hx=>?_⟩
  cases hx with
  |rowp _ k b m i j=>exact⟨_,_,rfl,by rw[ahL];exact .rowp _ _ _ _ _ _⟩
 ·exact h.elim
theorem Al (hτ:aY P τ) {md rf CP YP} {o:Oper} {ρ:Operand→PV} {H:Hp} {n:Nat} {t:TypeId} {x:Operand} {f:Nat} (ho:o.op=.fieldAddr t x f) {K:KR}
 (h:opK τ md rf CP YP ρ H n o.dst o.op K):∃v sets accs news,K v sets accs news∧bE P r o ρ H v sets accs news:=by
 rw[ho]at h;simp only[opK,cB]at h;obtain⟨te,ht,h⟩:=h;split at h
 ·rename_i fs hu
  split at h
  ·rename_i fd hfd
   simp only[aL,Y8]at h;obtain⟨tf,htf,hb,h⟩:=h;have hb:=aio hb;obtain⟨v,hK,hs⟩:=Ak h;refine⟨v,_,_,_,hK,aU (fun c e=>by rw[ho]at e;cases e) fun S w ι H' a M hr ha=>?_⟩
   obtain⟨b,off,h1,h2⟩:=hs (hr x (by simp[ho,Op.operands]))
   refine⟨_,?_,h2⟩;simp only[execOp,ho];refine dQ ?_;simp only[Instr.fieldAt,Sem.run_bind,run_underlying (hτ.und _ _ ht),hu,Result.andThen,hfd,h1,Instr.sureAddr,Sem.run_pure,fieldPlace,bQ hτ htf];rw[if_neg (by omega)]
   simp only[Sem.run_pure,dX]
  ·exact h.elim
 ·exact h.elim
variable {P:Program} {r:Option Nat} {τ:TypeId→Option TE}
theorem kI {i:PV} {n:Nat} {K:Nat→Prop} (h:vS i n K):∃j,K j∧j<n∧∀{S:Imm} {w:World} {ι:Ix} {v:Value},Rep S w ι i v→∃k x,v=.int k x∧0≤x∧x<n∧x.toNat=j:=by
 unfold vS at h;split at h
 ·exact⟨_,h.2,by omega,fun hr=>by cases hr;exact⟨_,_,rfl,h.1.1,h.1.2,rfl⟩⟩
 ·exact h.elim
theorem Cv {md rf CP YP} {o:Oper} {ρ:Operand→PV} {H:Hp} {n:Nat} {x:Operand} (ho:o.op=.nilCheck x) {K:KR}
 (h:opK τ md rf CP YP ρ H n o.dst o.op K):∃v sets accs news,K v sets accs news∧bE P r o ρ H v sets accs news:=by
 rw[ho]at h;simp only[opK]at h;have key:∀{v:PV},ρ x=v→(∀{S:Imm} {w:World} {ι:Ix} {vx:Value},Rep S w ι v vx→(∃ad,vx=.pointer (some ad))∨∃f u c,vx=.func (.func f) u c)→K v [] [] []→
  ∃v sets accs news,K v sets accs news∧bE P r o ρ H v sets accs news:=by
  intro v hv hs hK;refine⟨_,_,_,_,hK,aU (fun c e=>by rw[ho]at e;cases e) fun S w ι H' a M hr ha=>?_⟩
  have hx:=hr x (by simp[ho,Op.operands])
  rw[hv]at hx;refine⟨a.eval x,?_,hx⟩;simp only[execOp,ho];rcases hs hx with⟨ad,e⟩|⟨f,u,c,e⟩<;>rw[e]<;>rfl
 split at h
 ·exact key ‹_› (fun hr=>by cases hr;exact .inl ⟨_,rfl⟩) h
 ·exact key ‹_› (fun hr=>by cases hr;exact .inl ⟨_,rfl⟩) h
 ·exact key ‹_› (fun hr=>by cases hr;exact .inl ⟨_,rfl⟩) h
 ·exact key ‹_› (fun hr=>by cases hr;exact .inl ⟨_,rfl⟩) h
 ·exact key ‹_› (fun hr=>by cases hr;exact .inr ⟨_,_,_,rfl⟩) h
 ·exact h.elim
theorem EN {md rf CP YP} {o:Oper} {ρ:Operand→PV} {H:Hp} {n:Nat} {x:Operand} {i:Nat} (ho:o.op=.extract x i) {K:KR}
 (h:opK τ md rf CP YP ρ H n o.dst o.op K):∃v sets accs news,K v sets accs news∧bE P r o ρ H v sets accs news:=by
 rw[ho]at h;simp only[opK]at h;split at h
 ·rename_i vs hρ
  rw[aL,bH]at h;have hb:=aio h.1;refine⟨_,_,_,_,h.2,aU (fun c e=>by rw[ho]at e;cases e) fun S w ι H' a M hr ha=>?_⟩
  have hx:=hr x (by simp[ho,Op.operands])
  rw[hρ]at hx;cases hev:a.eval x<;>rw[hev]at hx<;>cases hx
  rename_i us hl hh;refine⟨us.getD i undef,?_,hh i (by omega)⟩
  simp only[execOp,ho];refine dQ ?_;simp[Instr.extract,hev,ahT (show i<us.size by omega),ahW]
 ·exact h.elim
theorem Am (hτ:aY P τ) {md rf CP YP} {o:Oper} {ρ:Operand→PV} {H:Hp} {n:Nat} {t:TypeId} {x y:Operand} (ho:o.op=.indexAddr t x y) {K:KR}
 (h:opK τ md rf CP YP ρ H n o.dst o.op K):∃v sets accs news,K v sets accs news∧bE P r o ρ H v sets accs news:=by
 rw[ho]at h;simp only[opK,cB,bH,dZ]at h;obtain⟨te,ht,h⟩:=h;have hd:∀c,o.op≠ .defer c:=fun c e=>by rw[ho]at e;cases e
 split at h
 ·rename_i e hu
  obtain⟨te',ht',h⟩:=h;have run:∀{S:Imm} {w:World} {ι:Ix} {a:Act} {b off len cap:Nat} {k:IntKind} {q:Int},a.eval x=.slice (some ⟨b,off,none⟩) len cap→a.eval y=.int k q→0≤q→q<len→
   (execOp a.eval o).run P w=.ok (.value (.pointer (some ⟨b,off+q.toNat*te'.size,none⟩))) w:=by
   intro S w ι a b off len cap k q e1 e2 e3 e4;simp only[execOp,ho];refine dQ ?_;simp only[Instr.indexAt,e2,asIntOf,Sem.run_bind,Sem.run_pure,Result.andThen,run_underlying (hτ.und _ _ ht),hu,e1];rw[Sem.run_ite,if_pos ⟨e3,e4⟩];simp only[Sem.run_bind,bQ hτ ht',Result.andThen,Sem.run_pure,dX]
  split at h
  ·rename_i c tk hρ
   obtain⟨j,hK,hj,hi⟩:=kI h;have key:∀{v:PV},K v [] [] []→(∀{S:Imm} {w:World} {ι:Ix} {b off:Nat},(∀q,q<c.ncell→S b (off+q))→(∀q,q<c.ncell→Rep S w noI (c.get q) (rdv w b (off+q)))→Rep S w ι v (.pointer (some ⟨b,off+j*te'.size,none⟩)))→
    ∃v sets accs news,K v sets accs news∧bE P r o ρ H v sets accs news:=by
    intro v hv hrep;refine⟨_,_,_,_,hv,aU hd fun S w ι H' a M hr ha=>?_⟩;have hx:=hr x (by simp[ho,Op.operands])
    obtain⟨k,q,e2,e3,e4,e5⟩:=hi (hr y (by simp[ho,Op.operands]))
    rw[hρ]at hx;obtain⟨vx,hev⟩:∃v,a.eval x=v:=⟨_,rfl⟩;rw[hev]at hx;cases hx with
    |islnil _ _ _ hz=>omega
    |isl _ _ _ b off cap hc hs hh hf ho'=>
     refine⟨_,run (S:=S) (ι:=ι) hev e2 e3 e4,?_⟩;rw[e5];exact hrep hs hh
   split at hK
   ·rename_i m rs
    rw[aL]at hK;have e:=aib hK.1;exact key hK.2 (fun hs hh=>by rw[←e];exact .ipe _ (.recs m rs) j 0 _ _ hs hh)
   ·rename_i m q f
    rw[aL]at hK;have e:=aib hK.1;exact key hK.2 (fun hs hh=>by rw[←e];exact .ipe _ (.genr m q f) j 0 _ _ hs hh)
   ·rw[aL]at hK
    have e:=aib hK.1;exact key hK.2 (fun hs hh=>by rw[e,aip];exact .ip _ _ _ _ _ hs hh)
  ·rename_i k off m hρ
   obtain⟨j,hK,hj,hi⟩:=kI h;rw[aX]at hK;obtain⟨ob,hob,hK⟩:=hK;have key:∀{v:PV},K v [] [k] []→(∀{S:Imm} {w:World} {ι:Ix} {b:Nat},ι.o k=some b→Rep S w ι v (.pointer (some ⟨b,off+j*te'.size,none⟩)))→
    ∃v sets accs news,K v sets accs news∧bE P r o ρ H v sets accs news:=by
    intro v hv hrep;refine⟨_,_,_,_,hv,aU hd fun S w ι H' a M hr ha=>?_⟩;have hx:=hr x (by simp[ho,Op.operands])
    obtain⟨k',q,e2,e3,e4,e5⟩:=hi (hr y (by simp[ho,Op.operands]))
    rw[hρ]at hx;obtain⟨vx,hev⟩:∃v,a.eval x=v:=⟨_,rfl⟩;rw[hev]at hx;cases hx with
    |rslz=>omega
    |rsl _ _ _ _ b cap hk hc _=>
     refine⟨_,run (S:=S) (ι:=ι) hev e2 e3 e4,?_⟩;rw[e5];exact hrep hk
   split at hK
   ·rename_i q rs fz
    rw[aL,aia]at hK;have e:=aib hK.1.1;have e0:=aib hK.1.2;refine key hK.2 (fun hk=>?_);rw[e0,←e,aic,←ahH (j*q)];exact .rpe _ _ _ _ _ _ hk
   ·exact key hK (fun hk=>.rp _ _ _ _ hk)
   ·exact key hK (fun hk=>.rp _ _ _ _ hk)
   ·exact hK.elim
  ·rename_i k b m hρ
   obtain⟨j,hK,hj,hi⟩:=kI h;refine⟨_,_,_,_,hK,aU hd fun S w ι H' a M hr ha=>?_⟩;have hx:=hr x (by simp[ho,Op.operands])
   obtain⟨k',q,e2,e3,e4,e5⟩:=hi (hr y (by simp[ho,Op.operands]))
   rw[hρ]at hx;obtain⟨vx,hev⟩:∃v,a.eval x=v:=⟨_,rfl⟩;rw[hev]at hx;cases hx with
   |row _ _ _ _ cap hc=>
    refine⟨_,run (S:=S) (ι:=ι) hev e2 e3 e4,?_⟩;rw[e5,aic];exact .rowp _ _ _ _ _ _
  ·exact h.elim
 ·rename_i m e hu
  obtain⟨te',ht',h⟩:=h;obtain⟨j,hK,hj,hi⟩:=kI h;obtain⟨v,hK,hs⟩:=Ak hK;refine⟨v,_,_,_,hK,aU hd fun S w ι H' a M hr ha=>?_⟩;obtain⟨b,off,h1,h2⟩:=hs (hr x (by simp[ho,Op.operands]))
  obtain⟨k',q,e2,e3,e4,e5⟩:=hi (hr y (by simp[ho,Op.operands]))
  refine⟨_,?_,h2⟩;simp only[execOp,ho];refine dQ ?_;simp only[Instr.indexAt,e2,asIntOf,Sem.run_bind,Sem.run_pure,Result.andThen,run_underlying (hτ.und _ _ ht),hu,h1,Instr.sureAddr];rw[Sem.run_ite,if_pos ⟨e3,e4⟩];simp only[Sem.run_bind,bQ hτ ht',Result.andThen,Sem.run_pure,dX,e5]
 ·exact h.elim
theorem JV (hτ:aY P τ) {md rf CP YP} {o:Oper} {ρ:Operand→PV} {H:Hp} {n:Nat} {t:TypeId} {x y:Operand} (ho:o.op=.index t x y) {K:KR}
 (h:opK τ md rf CP YP ρ H n o.dst o.op K):∃v sets accs news,K v sets accs news∧bE P r o ρ H v sets accs news:=by
 rw[ho]at h;simp only[opK,cB,bH]at h;obtain⟨te,ht,h⟩:=h;have hd:∀c,o.op≠ .defer c:=fun c e=>by rw[ho]at e;cases e
 split at h
 ·rename_i m e hu
  obtain⟨te',ht',h⟩:=h;split at h
  ·rename_i cs hρ
   obtain⟨j,hK,hj,hi⟩:=kI h;have run:∀{S:Imm} {w:World} {ι:Ix} {a:Act},(∀x∈o.op.operands.toList,Rep S w ι (ρ x) (a.eval x))→∃vs,bF S w ι cs vs∧
    ∀{val:Value},(part e vs (j*te'.size)).run P w=.ok val w→(execOp a.eval o).run P w=.ok (.value val) w:=by
    intro S w ι a hr;have hx:=hr x (by simp[ho,Op.operands])
    obtain⟨k',q,e2,e3,e4,e5⟩:=hi (hr y (by simp[ho,Op.operands]))
    rw[hρ]at hx;cases hev:a.eval x<;>rw[hev]at hx<;>cases hx
    rename_i vs hl hh;refine⟨vs,⟨hl,hh⟩,fun hp=>?_⟩;simp only[execOp,ho];refine dQ ?_;simp only[Instr.index,e2,asIntOf,Sem.run_bind,Sem.run_pure,Result.andThen,run_underlying (hτ.und _ _ ht),hu,hev];rw[Sem.run_ite,if_pos ⟨e3,e4⟩];simp only[Sem.run_bind,bQ hτ ht',Result.andThen,e5,hp]
   split at hK
   ·rename_i hagg
    refine⟨_,_,_,_,hK.2,aU hd fun S w ι H' a M hr ha=>?_⟩;obtain⟨vs,hv,hrun⟩:=run hr;obtain⟨val,h1,h2⟩:=(o9 hτ ht' hv).1 hagg hK.1;exact⟨val,hrun h1,h2⟩
   ·rename_i hagg
    refine⟨_,_,_,_,hK.2,aU hd fun S w ι H' a M hr ha=>?_⟩;obtain⟨vs,hv,hrun⟩:=run hr;obtain⟨val,h1,h2⟩:=(o9 hτ ht' hv).2 hagg hK.1;exact⟨val,hrun h1,h2⟩
  ·exact h.elim
 ·rename_i hu
  split at h
  ·rename_i s hρ
   obtain⟨j,hK,hj,hi⟩:=kI h;refine⟨_,_,_,_,hK,aU hd fun S w ι H' a M hr ha=>?_⟩;have hx:=hr x (by simp[ho,Op.operands])
   obtain⟨k',q,e2,e3,e4,e5⟩:=hi (hr y (by simp[ho,Op.operands]))
   rw[hρ]at hx;cases hev:a.eval x<;>rw[hev]at hx<;>cases hx
   refine⟨.int .u8 ((s.data.getD j 0).toNat:Nat),?_,.int _ _ _⟩;simp only[execOp,ho];refine dQ ?_;have hlt:j<s.size:=hj;have hgs:s[j]? =some (s.data.getD j 0):=by
    rw[getElem?_pos s j hlt];congr 1;have hlt':j<s.data.size:=hlt;rw[ahW,ahT hlt'];rfl
   simp only[Instr.index,e2,asIntOf,Sem.run_bind,Sem.run_pure,Result.andThen,run_underlying (hτ.und _ _ ht),hu,hev,e5,if_pos e3,hgs]
  ·exact h.elim
 ·exact h.elim
variable {P:Program} {r:Option Nat} {τ:TypeId→Option TE}
theorem bS (c:CL):c.ncell=c.cnt*c.esz:=by cases c<;>simp[CL.ncell,CL.cnt,CL.esz]
theorem K7 (c:CL) (a b:Nat):(c.sub a b).esz=c.esz:=by cases c<;>rfl
theorem iO (c:CL) {a b:Nat} (h:b≤c.cnt):(c.sub a b).cnt=b-a:=by
 cases c<;>simp[CL.sub,CL.cnt]at h⊢ <;>omega
theorem Ee (l:List PV):∀(a i:Nat),aD (l.drop a) i=aD l (a+i):=by
 induction l with
 |nil=>intro a i;simp[aD]
 |cons x xs ih=>
  intro a i;cases a with
  |zero=>simp
  |succ a=>rw[List.drop_succ_cons,ih,show a+1+i=(a+i)+1 by omega];rfl
theorem Ef (l:List PV):∀(n i:Nat),i<n→aD (l.take n) i=aD l i:=by
 induction l with
 |nil=>intro n i h;simp[aD]
 |cons x xs ih=>
  intro n i h;cases n with
  |zero=>omega
  |succ n=>cases i with
   |zero=>rfl
   |succ i=>simp only[List.take_succ_cons,aD];exact ih n i (by omega)
theorem K8 (c:CL) {a b j:Nat} (hj:j<(b-a)*c.esz):(c.sub a b).get j=c.get (a*c.esz+j):=by
 cases c with
 |pv cs=>simp only[CL.esz,aip]at hj⊢;simp only[CL.sub,CL.get];rw[Ef _ _ _ hj,Ee]
 |ints k xs=>simp only[CL.esz,aip]at hj⊢;simp[CL.sub,CL.get,aiB,hj]
 |bools xs=>simp only[CL.esz,aip]at hj⊢;simp[CL.sub,CL.get,aiB,hj]
 |strs xs=>simp only[CL.esz,aip]at hj⊢;simp[CL.sub,CL.get,aiB,hj]
 |rows k xs=>simp only[CL.esz,aip]at hj⊢;simp[CL.sub,CL.get,aiB,hj]
 |gen n f=>simp only[CL.esz,aip]at hj⊢;simp[CL.sub,CL.get]
 |recs m rs=>
  simp only[CL.esz]at hj⊢;have hm:0<m:=by rcases aiC m with h|h;(subst h;simp at hj);exact h
  have hq:j / m<b-a:=by rw[aix hm];exact hj
  simp only[CL.sub,CL.get];rw[show(a*m+j) / m=a+j / m by rw[aie,aif hm],show(a*m+j) % m=j % m by rw[aie,aij]]
  simp[aiB,hq]
 |genr m n f=>
  simp only[CL.esz]at hj⊢;have hm:0<m:=by rcases aiC m with h|h;(subst h;simp at hj);exact h
  simp only[CL.sub,CL.get];rw[show(a*m+j) / m=a+j / m by rw[aie,aif hm],show(a*m+j) % m=j % m by rw[aie,aij]]
theorem EO {len:Nat} {lo hi:Option PV} {K:Nat→Nat→Prop} (h:xO len lo hi K):∃a b,K a b∧a≤b∧b≤len∧
 ∀{S:Imm} {w:World} {ι:Ix} {vlo vhi:Option Value} {cap:Nat} {isS:Bool},len≤cap→(∀p,lo=some p→∃v,vlo=some v∧Rep S w ι p v)→(lo=none→vlo=none)→(∀p,hi=some p→∃v,vhi=some v∧Rep S w ι p v)→(hi=none→vhi=none)→
  (Instr.sliceBounds isS len cap vlo vhi none).run P w=.ok (a,b,cap) w:=by
 have sb:∀{k:IntKind} {x:Int} {y:Nat} {code:BoundsCode} {w:World},0≤x→x≤y→(Instr.sliceBound (.int k x) y code).run P w=.ok x.toNat w:=by
  intro k x y code w h1 h2;simp only[Instr.sliceBound,asIntOf,Sem.run_bind,Sem.run_pure,Result.andThen];rw[Sem.run_ite,if_pos ⟨h1,h2⟩];rfl
 unfold xO at h;split at h
 ·split at h
  ·refine⟨0,len,h,aiD _,ahO _,fun hc h1 h2 h3 h4=>?_⟩
   rw[h2 rfl,h4 rfl];simp[Instr.sliceBounds,Result.andThen]
  ·rename_i k x
   refine⟨0,x.toNat,h.2,aiD _,by omega,fun hc h1 h2 h3 h4=>?_⟩
   obtain⟨v,e,hr⟩:=h3 _ rfl;cases hr
   rw[h2 rfl,e];simp only[Instr.sliceBounds,Sem.run_bind,Sem.run_pure,Result.andThen];rw[sb h.1.1 (by omega)]
  ·exact h.elim
 ·rename_i k x
  split at h
  ·refine⟨x.toNat,len,h.2,by omega,ahO _,fun hc h1 h2 h3 h4=>?_⟩
   obtain⟨v,e,hr⟩:=h1 _ rfl;cases hr
   rw[h4 rfl,e];simp only[Instr.sliceBounds,Sem.run_bind,Sem.run_pure,Result.andThen];rw[sb h.1.1 (by omega)]
  ·rename_i k' y
   refine⟨x.toNat,y.toNat,h.2,by omega,by omega,fun hc h1 h2 h3 h4=>?_⟩
   obtain⟨v,e,hr⟩:=h1 _ rfl;cases hr
   obtain⟨v',e',hr'⟩:=h3 _ rfl;cases hr'
   rw[e,e'];simp only[Instr.sliceBounds,Sem.run_bind,Sem.run_pure,Result.andThen];rw[sb (by omega) (by omega)]
   simp only[Result.andThen];rw[sb h.1.1 (by omega)]
  ·exact h.elim
 ·exact h.elim
theorem nH {S:Imm} {w:World} {c:CL} {b off:Nat} (hs:∀j,j<c.ncell→S b (off+j)) (hh:∀j,j<c.ncell→Rep S w noI (c.get j) (rdv w b (off+j))) {x y:Nat} (hxy:x≤y) (hy:y≤c.cnt) {cap:Nat} (hc:y-x≤cap) (ι:Ix):
 Rep S w ι (.isl (c.sub x y) .none) (.slice (some ⟨b,off+x*c.esz,none⟩) (y-x) cap):=by
 have e:=iO c (a:=x) hy;have hn:(c.sub x y).ncell=(y-x)*c.esz:=by rw[bS,e,K7]
 have hlt:∀j,j<(c.sub x y).ncell→x*c.esz+j<c.ncell:=by
  intro j hj;rw[hn]at hj;rw[bS];have h1:(x+(y-x))*c.esz≤c.cnt*c.esz:=ail _ (by omega)
  rw[ain]at h1;omega
 have:=Rep.isl (S:=S) (w:=w) ι (c.sub x y) .none b (off+x*c.esz) cap (by omega) (fun j hj=>by rw[ahL];exact hs _ (hlt j hj))
  (fun j hj=>by rw[K8 c (by rw[hn]at hj;exact hj),ahL];exact hh _ (hlt j hj)) (fun e=>by cases e) (fun k e=>by cases e)
 rw[e]at this;exact this
theorem iY {S:Imm} {w:World} (c:CL) (hc:c.cnt=0) {a:Option Addr} {cap:Nat} (ha:a=none∧cap=0∨∃b o,a=some ⟨b,o,none⟩) (ι:Ix):Rep S w ι (.isl c .none) (.slice a 0 cap):=by
 rcases ha with⟨rfl,rfl⟩|⟨b,o,rfl⟩
 ·exact .islnil _ _ _ hc
 ·have hn:c.ncell=0:=by rw[bS,hc];simp
  have:=Rep.isl (S:=S) (w:=w) ι c .none b o cap (by omega) (fun j hj=>by omega) (fun j hj=>by omega) (fun e=>by cases e) (fun k e=>by cases e)
  rw[hc]at this;exact this
theorem Gc (hτ:aY P τ) {md rf CP YP} {o:Oper} {ρ:Operand→PV} {H:Hp} {n:Nat} {t:TypeId} {x m:Operand} {lo hi:Option Operand} (ho:o.op=.slice t x lo hi (some m)) {K:KR}
 (h:opK τ md rf CP YP ρ H n o.dst (.slice t x lo hi (some m)) K):∃v sets accs news,K v sets accs news∧bE P r o ρ H v sets accs news:=by
 have hd:∀c,o.op≠ .defer c:=fun c e=>by rw[ho]at e;cases e
 cases lo with
 |none=>exact h.elim
 |some lo=>
 cases hi with
 |none=>exact h.elim
 |some hi=>
 simp only[opK,cB]at h;obtain⟨te,ht,h⟩:=h;split at h
 ·rename_i e hu
  obtain⟨te',ht',h⟩:=h;split at h
  ·rename_i c tk hρ
   unfold KW at h;split at h
   ·rename_i ka a hla
    split at h
    ·rename_i kb b hlb
     split at h
     ·rename_i km mm hlm
      simp only[gM,dZ,aL]at h;obtain⟨⟨h0,h1,h2,h3⟩,hsz,hK⟩:=h;have hsz:=aib hsz;have sb:∀{k:IntKind} {x:Int} {y:Nat} {code:BoundsCode} {w:World},0≤x→x≤y→(Instr.sliceBound (.int k x) y code).run P w=.ok x.toNat w:=by
       intro k x y code w h1 h2;simp only[Instr.sliceBound,asIntOf,Sem.run_bind,Sem.run_pure,Result.andThen];rw[Sem.run_ite,if_pos ⟨h1,h2⟩];rfl
      refine⟨_,_,_,_,hK,aU hd fun S w ι H' ac M hr ha=>?_⟩;have ra:=hr lo (by simp[ho,Op.operands])
      have rb:=hr hi (by simp[ho,Op.operands])
      have rm:=hr m (by simp[ho,Op.operands])
      have hx:=hr x (by simp[ho,Op.operands])
      rw[hla]at ra;rw[hlb]at rb;rw[hlm]at rm;rw[hρ]at hx;obtain⟨va,ea⟩:∃v,ac.eval lo=v:=⟨_,rfl⟩;obtain⟨vb,eb⟩:∃v,ac.eval hi=v:=⟨_,rfl⟩;obtain⟨vm,em⟩:∃v,ac.eval m=v:=⟨_,rfl⟩;obtain⟨vx,hev⟩:∃v,ac.eval x=v:=⟨_,rfl⟩;rw[ea]at ra;rw[eb]at rb;rw[em]at rm;rw[hev]at hx;cases ra;cases rb;cases rm
      have hb:∀{ln cap:Nat},c.cnt≤cap→(Instr.sliceBounds true ln cap (some (.int ka a)) (some (.int kb b)) (some (.int km mm))).run P w=.ok (a.toNat,b.toNat,mm.toNat) w:=by
       intro ln cap hc;simp only[Instr.sliceBounds,Sem.run_bind,Sem.run_pure,Result.andThen,if_true,Option.isSome_some];rw[sb (by omega) (by omega)]
       simp only[Result.andThen];rw[sb (by omega) (by omega)]
       simp only[Result.andThen];rw[sb (by omega) (by omega)]
      have run:∀{ad:Option Addr} {ln cap:Nat},ac.eval x=.slice ad ln cap→c.cnt≤cap→
       (execOp ac.eval o).run P w=.ok (.value (.slice (if mm.toNat=a.toNat then ad else ad.map (·.add (a.toNat*te'.size))) (b.toNat-a.toNat) (mm.toNat-a.toNat))) w:=by
       intro ad ln cap hev hc;simp only[execOp,ho];refine dQ ?_;simp only[Instr.sliceAt,Instr.slice,Sem.run_bind,run_underlying (hτ.und _ _ ht),hu,Result.andThen,hev,ahV,ea,eb,em,hb hc,bQ hτ ht',Sem.run_pure]
      cases hx with
      |islnil _ _ _ hz=>
       have e1:=run hev (by omega)
       refine⟨_,e1,?_⟩;have qa:a.toNat=0:=by omega
       have qb:b.toNat=0:=by omega
       have qm:mm.toNat=0:=by omega
       simp only[qa,qb,qm,if_true];exact .islnil _ _ _ (by rw[iO _ (by omega)])
      |isl _ _ _ bk off cap hc hs hh hf ho'=>
       refine⟨_,run hev hc,?_⟩;by_cases hca:mm.toNat=a.toNat
       ·rw[if_pos hca]
        have:b.toNat-a.toNat=0:=by omega
        rw[this];exact iY _ (by rw[iO _ (by omega)];omega) (.inr ⟨_,_,rfl⟩) _
       ·rw[if_neg hca]
        simp only[ahV,dX,←hsz];exact nH hs hh (by omega) (by omega) (by omega) _
     ·exact h.elim
    ·exact h.elim
   ·exact h.elim
  ·exact h.elim
 ·exact h.elim
theorem JW (hτ:aY P τ) {md rf CP YP} {o:Oper} {ρ:Operand→PV} {H:Hp} {n:Nat} {t:TypeId} {x:Operand} {lo hi mx:Option Operand} (ho:o.op=.slice t x lo hi mx) {K:KR}
 (h:opK τ md rf CP YP ρ H n o.dst o.op K):∃v sets accs news,K v sets accs news∧bE P r o ρ H v sets accs news:=by
 rw[ho]at h;cases mx with
 |some m=>exact Gc hτ ho h
 |none=>
 simp only[opK,cB,dZ,gM]at h;obtain⟨te,ht,h⟩:=h;have hd:∀c,o.op≠ .defer c:=fun c e=>by rw[ho]at e;cases e
 have hb:∃ln,xO ln (lo.map ρ) (hi.map ρ) (fun a b=>
  match te.und with
  |.string=>match ρ x with
   |.str s=>K (.str (s.extract a b)) [] [] []
   |_=>False
  |.slice e=>∃te',τ e=some te'∧match ρ x with
   |.isl c tk=>ifK (ah6 c.esz te'.size) (K (.isl (c.sub a b) .none) [] [] [])
   |.rsl k off m=>match(match o.dst with|some d=>gT d rf|none=>false)with
    |true=>bU H k fun o=>Af o fun q xs=>ifK (ah6 off 0&&ah6 a 0) (K (.rsl k 0 b) [(k,.cells (.ints q (xs.take b)) false)] [k] [])
    |false=>K (.rsl k (off+a*te'.size) (b-a)) [] [] []
   |.nils=>K .nils [] [] []
   |_=>False
  |.array m e=>∃te',τ e=some te'∧match ρ x with
   |.rp k off=>bU H k fun o=>match o with
    |.cells c _=>off+m*te'.size≤c.ncell∧ifK (Nat.ble 1 te'.size) (K (.rsl k (off+a*te'.size) (b-a)) [] [k] [])
    |_=>False
   |.ip c off=>off+m≤c.ncell∧ifK (ah6 c.esz 1&&ah6 te'.size 1) (K (.isl (c.sub (off+a) (off+b)) .none) [] [] [])
   |_=>False
  |_=>False)∧(match ρ x with|.isl c _=>ln=c.cnt|.rsl _ _ m=>ln=m|.str s=>ln=s.size|.nils=>ln=0|_=>(match te.und with|.array m _=>ln=m|_=>False)):=by
  split at h
  ·exact⟨_,h,by simp[*]⟩
  ·exact⟨_,h,by simp[*]⟩
  ·exact⟨_,h,by simp[*]⟩
  ·exact⟨_,h,by simp[*]⟩
  ·split at h
   ·exact⟨_,h,by simp[*]⟩
   ·exact h.elim
 obtain⟨ln,hb,hln⟩:=hb;obtain⟨a,b,hK,hab,hbl,hrun⟩:=EO (P:=P) hb;have runB:∀{S:Imm} {w:World} {ι:Ix} {ac:Act} {cap:Nat} {isS:Bool},(∀x∈o.op.operands.toList,Rep S w ι (ρ x) (ac.eval x))→ln≤cap→
  (Instr.sliceBounds isS ln cap (lo.map ac.eval) (hi.map ac.eval) none).run P w=.ok (a,b,cap) w:=by
  intro S w ι ac cap isS hr hc;refine hrun (S:=S) (w:=w) (ι:=ι) hc ?_ (fun e=>by cases lo<;>simp at e⊢) ?_ (fun e=>by cases hi<;>simp at e⊢)
  ·intro p hp
   cases lo with
   |none=>simp at hp
   |some q=>simp at hp;subst hp;exact⟨_,rfl,hr q (by simp[ho,Op.operands])⟩
  ·intro p hp
   cases hi with
   |none=>simp at hp
   |some q=>simp at hp;subst hp;exact⟨_,rfl,hr q (by simp[ho,Op.operands])⟩
 split at hK
 ·
  rename_i hu;split at hK
  ·rename_i s hρ
   refine⟨_,_,_,_,hK,aU hd fun S w ι H' ac M hr ha=>?_⟩;have hx:=hr x (by simp[ho,Op.operands])
   rw[hρ]at hx hln;cases hev:ac.eval x<;>rw[hev]at hx<;>cases hx
   simp only at hln;subst hln;refine⟨.string (s.extract a b),?_,.str _ _⟩;simp only[execOp,ho];refine dQ ?_;simp only[Instr.sliceAt,Instr.slice,Sem.run_bind,run_underlying (hτ.und _ _ ht),hu,Result.andThen,hev,aiE,Option.isSome_none,aiF,if_false,Sem.run_pure,runB hr (ahO _)]
  ·exact hK.elim
 ·
  rename_i e hu;obtain⟨te',ht',hK⟩:=hK;have run:∀{S:Imm} {w:World} {ι:Ix} {ac:Act} {ad:Option Addr} {cap:Nat},(∀x∈o.op.operands.toList,Rep S w ι (ρ x) (ac.eval x))→ac.eval x=.slice ad ln cap→ln≤cap→
   (execOp ac.eval o).run P w=.ok (.value (.slice (if cap=a then ad else ad.map (·.add (a*te'.size))) (b-a) (cap-a))) w:=by
   intro S w ι ac ad cap hr hev hc;simp only[execOp,ho];refine dQ ?_;simp only[Instr.sliceAt,Instr.slice,Sem.run_bind,run_underlying (hτ.und _ _ ht),hu,Result.andThen,hev,aiE,runB hr hc,bQ hτ ht',Sem.run_pure]
  split at hK
  ·rename_i c tk hρ
   rw[aL]at hK;have hsz:=aib hK.1;refine⟨_,_,_,_,hK.2,aU hd fun S w ι H' ac M hr ha=>?_⟩;have hx:=hr x (by simp[ho,Op.operands])
   rw[hρ]at hx hln;simp only at hln;subst hln;obtain⟨vx,hev⟩:∃v,ac.eval x=v:=⟨_,rfl⟩;rw[hev]at hx;cases hx with
   |islnil _ _ _ hz=>
    have e1:=run hr (by rw[hev,hz]) (by omega)
    refine⟨_,e1,?_⟩;have ea:a=0:=by omega
    have eb:b=0:=by omega
    subst ea;subst eb;simp only[if_true];exact .islnil _ _ _ (by rw[iO _ (by omega)])
   |isl _ _ _ bk off cap hc hs hh hf ho'=>
    refine⟨_,run hr hev hc,?_⟩;by_cases hca:cap=a
    ·rw[if_pos hca]
     have:b-a=0:=by omega
     rw[this];exact iY _ (by rw[iO _ hbl];omega) (.inr ⟨_,_,rfl⟩) _
    ·rw[if_neg hca]
     simp only[ahV,dX,←hsz];exact nH hs hh hab hbl (by omega) _
  ·rename_i k off m hρ
   split at hK
   ·rw[aX]at hK
    obtain⟨ob,hob,hK⟩:=hK;obtain⟨q,xs,eob,hK'⟩:=Ng hK;clear hK;have hK:=hK';clear hK';subst eob
    ·rw[aL,aia]at hK
     have e1:=aib hK.1.1;have e2:=aib hK.1.2;subst e1 e2;refine⟨_,_,_,_,hK.2,fun S w ι H' ac next Q M hr ha hn hk=>?_⟩;have hx:=hr x (by simp[ho,Op.operands])
     rw[hρ]at hx hln;simp only at hln;subst hln;obtain⟨vx,hev⟩:∃v,ac.eval x=v:=⟨_,rfl⟩;rw[hev]at hx;have hob':=(ha k (by simp)).trans hob
     obtain⟨b0,arr,e0,g1,g2,g3,g4,g5⟩:=M.obj k _ hob';obtain⟨M',T⟩:=M.write (c':=.ints q (xs.take b)) hob' g1 g2 ⟨.refl _,fun _ _=>rfl,g2⟩ (ahO _)
      (by simp only[CL.ncell,aiG]at g3⊢;omega) (fun j hj=>by
       simp only[CL.ncell,aiG]at hj;have:=g4 j (by simp only[CL.ncell];omega)
       simpa [CL.get,aiB,show j<b by omega]using this)
     cases hx with
     |rslz _ _ _ bk o' hk'=>
      have eb:b=0:=by omega
      subst eb;exact d9 hd (run hr hev (by omega)) (hk _ S w ι M' (.refl _) (.refl _ _) (by simp only[if_true];exact .rslz _ _ _ _ _ hk') T)
     |rsl _ _ _ _ bk cap hk' hc hrd=>
      refine d9 hd (run hr hev hc) (hk _ S w ι M' (.refl _) (.refl _ _) ?_ T);simp only[Nat.sub_zero,aiH];split
      ·exact .rsl _ _ _ _ _ _ hk' (by omega) hrd
      ·simp only[ahV,dX];exact .rsl _ _ _ _ _ _ hk' (by omega) hrd
   refine⟨_,_,_,_,hK,aU hd fun S w ι H' ac M hr ha=>?_⟩;have hx:=hr x (by simp[ho,Op.operands])
   rw[hρ]at hx hln;simp only at hln;subst hln;obtain⟨vx,hev⟩:∃v,ac.eval x=v:=⟨_,rfl⟩;rw[hev]at hx;cases hx with
   |rslz _ _ _ bk o' hk=>
    have e1:=run hr hev (by omega)
    refine⟨_,e1,?_⟩;have ea:a=0:=by omega
    have eb:b=0:=by omega
    subst ea;subst eb;simp only[if_true];exact .rslz _ _ _ _ _ hk
   |rsl _ _ _ _ bk cap hk hc hrd=>
    refine⟨_,run hr hev hc,?_⟩;by_cases hca:cap=a
    ·rw[if_pos hca]
     have:b-a=0:=by omega
     rw[this,hca,aiq];exact .rslz _ _ _ _ _ hk
    ·rw[if_neg hca]
     simp only[ahV,dX];exact .rsl _ _ _ _ _ _ hk (by omega) (fun h0 j hj=>hrd (by omega) j (by omega))
  ·rename_i hρ
   refine⟨_,_,_,_,hK,aU hd fun S w ι H' ac M hr ha=>?_⟩;have hx:=hr x (by simp[ho,Op.operands])
   rw[hρ]at hx hln;simp only at hln;subst hln;cases hev:ac.eval x<;>rw[hev]at hx<;>cases hx
   refine⟨_,run hr hev (ahO _),?_⟩;have ea:a=0:=by omega
   have eb:b=0:=by omega
   subst ea;subst eb;exact .nils _
  ·exact hK.elim
 ·rename_i m e hu
  obtain⟨te',ht',hK⟩:=hK;have run:∀{S:Imm} {w:World} {ι:Ix} {ac:Act} {bk of:Nat},(∀x∈o.op.operands.toList,Rep S w ι (ρ x) (ac.eval x))→ac.eval x=.pointer (some ⟨bk,of,none⟩)→ln=m→
   (execOp ac.eval o).run P w=.ok (.value (.slice (some (if m=a then⟨bk,of,none⟩else⟨bk,of+a*te'.size,none⟩)) (b-a) (m-a))) w:=by
   intro S w ι ac bk of hr hev hc;subst hc;simp only[execOp,ho];refine dQ ?_;simp only[Instr.sliceAt,Sem.run_bind,run_underlying (hτ.und _ _ ht),hu,Result.andThen,hev,Instr.sureAddr,aiE,runB hr (ahO _),bQ hτ ht',Sem.run_pure,dX]
  split at hK
  ·rename_i k off hρ
   rw[aX]at hK;obtain⟨ob,hob,hK⟩:=hK;split at hK
   ·rename_i c fz
    rw[aL]at hK;obtain⟨hbn,hsz,hK⟩:=hK;have hsz:=aio hsz;refine⟨_,_,_,_,hK,aU hd fun S w ι H' ac M hr ha=>?_⟩;have hx:=hr x (by simp[ho,Op.operands])
    rw[hρ]at hx hln;simp only[hu]at hln;cases hev:ac.eval x<;>rw[hev]at hx<;>cases hx
    rename_i bk hk;have hl:=M.lies ((ha k (by simp)).trans hob) hk
    refine⟨_,run hr hev hln,?_⟩;have hms:m≤m*te'.size:=aiI _ hsz;split
    ·rename_i hma
     have:b-a=0:=by omega
     rw[this,hma,aiq];exact .rslz _ _ _ _ _ hk
    ·exact .rsl _ _ _ _ _ _ hk (by omega) (fun h0 j hj=>by have:=(hl j (by omega)).1;rwa [aic]at this)
   ·exact hK.elim
  ·rename_i c off hρ
   rw[aL,aia]at hK;have h1:=aib hK.2.1.1;have h2:=aib hK.2.1.2;refine⟨_,_,_,_,hK.2.2,aU hd fun S w ι H' ac M hr ha=>?_⟩;have hx:=hr x (by simp[ho,Op.operands])
   rw[hρ]at hx hln;simp only[hu]at hln;obtain⟨vx,hev⟩:∃v,ac.eval x=v:=⟨_,rfl⟩;rw[hev]at hx;cases hx with
   |ip _ _ _ bk o' hs hh=>
    refine⟨_,run hr hev hln,?_⟩;have hcn:c.ncell=c.cnt:=by rw[bS,h1,aip]
    have hle:=hK.1;split
    ·have:b-a=0:=by omega
     rw[this];exact iY _ (by rw[iO _ (by omega)];omega) (.inr ⟨_,_,rfl⟩) _
    ·have:=nH hs hh (x:=off+a) (y:=off+b) (by omega) (by omega) (cap:=m-a) (by omega) ι
     rw[h1,aip,show off+b-(off+a)=b-a by omega,←ahL]at this
     rw[h2,aip];exact this
  ·exact hK.elim
 ·exact hK.elim
variable {P:Program} {r:Option Nat} {τ:TypeId→Option TE}
theorem Mem.newImm {S:Imm} {w:World} {ι:Ix} {H:Hp} (M:Mem S w ι H) {c:CL} {arr:Array Value} {e:TypeId} (hn:c.ncell≤arr.size)
 (hc:∀j,j<c.ncell→Rep S w noI (c.get j) (arr.getD j undef)):
 ∃S',Mem S' {w with heap:=w.heap.push (.cells arr e)} ι H∧Keeps S w S' {w with heap:=w.heap.push (.cells arr e)}∧
  (∀j,j<c.ncell→S' w.heap.size j)∧(∀j,j<c.ncell→Rep S' {w with heap:=w.heap.push (.cells arr e)} noI (c.get j) (rdv {w with heap:=w.heap.push (.cells arr e)} w.heap.size j))∧
  ∀p,Tr p S w ι H S' {w with heap:=w.heap.push (.cells arr e)} ι H:=by
 let w':World:={w with heap:=w.heap.push (.cells arr e)}
 let S':Imm:=fun b j=>S b j∨(b=w.heap.size∧j<c.ncell)
 have hk0:=kH M.imm (w:=w) (.cells arr e);have hkeep:Keeps S w S' w':=⟨fun b j h=>⟨.inl h,(hk0.imm b j h).2⟩,hk0.cells⟩;have hnew:∀j,rd w' w.heap.size j=arr[j]? :=fun j=>aN (fQ w _) j;have hrep:∀j,j<c.ncell→Rep S' w' noI (c.get j) (rdv w' w.heap.size j):=fun j hj=>by
  have:=(hc j hj).mono hkeep _ (.refl _);rw[ahW]at this;rw[rdv,hnew];exact this
 have hlt:∀k o b,ay H k=some o→o.has ι k b→b<w.heap.size:=fun k o b ho hb=>(M.obj k o ho).lt hb;refine⟨S',⟨?_,M.liveO,M.liveT,M.dist,?_⟩,hkeep,fun j hj=>.inr ⟨rfl,hj⟩,hrep,fun p=>⟨kG _ _ (fJ _ _),fun b hb _=>gX hb,hkeep,?_,fun b h=>.inl h,fun k _ b h=>h,fun k _ b n h=>⟨b,n,h,.inl ⟨rfl,ahO _⟩⟩⟩⟩
 ·intro k o ho
  refine(M.obj k o ho).mono hkeep (.refl _) (kG _ _ (fJ _ _)) (fun b hb=>gX (hlt k o b ho hb)) (fun _=>rfl) rfl (fun b j hb hs=>?_);rcases hs with h|⟨h,_⟩
  ·exact h
  ·have:=hlt k o b ho hb;omega
 ·intro b j hs
  rcases hs with h|⟨rfl,h⟩
  ·rw[(hkeep.imm b j h).2];exact M.imm b j h
  ·rw[hnew,ahT (by omega)];rfl
 ·intro b j hb hs
  rcases hs with h|⟨h,_⟩
  ·exact .inl h
  ·omega
theorem vU {o:Oper} {ρ:Operand→PV} {H0:Hp} {c:CL} {accs:List Nat} (hd:∀c,o.op≠ .defer c)
 (h:∀(S:Imm) (w:World) (ι:Ix) (H:Hp) (a:Act),Mem S w ι H→(∀x∈o.op.operands.toList,Rep S w ι (ρ x) (a.eval x))→(∀k∈accs,ay H k=ay H0 k)→
  ∃arr e,(execOp a.eval o).run P w=.ok (.value (.slice (some ⟨w.heap.size,0,none⟩) c.cnt c.cnt)) {w with heap:=w.heap.push (.cells arr e)}∧c.ncell≤arr.size∧(∀j,j<c.ncell→Rep S w noI (c.get j) (arr.getD j undef))):
 bE P r o ρ H0 (.isl c .full) [] accs []:=by
 intro S w ι H a next Q M hr ha hn hk;obtain⟨arr,e,h1,h2,h3⟩:=h S w ι H a M hr ha;obtain⟨S',M',K,hs,hh,T⟩:=M.newImm h2 h3 (e:=e);refine d9 hd h1 (hk _ S' _ ι M' (.refl _) K ?_ T);exact .isl _ _ _ _ _ _ (ahO _) (fun j hj=>by rw[aic];exact hs j hj) (fun j hj=>by rw[aic];exact hh j hj) (fun _=>rfl) (fun k e=>by cases e)
theorem gu {p q:PV} (h:fu p=some q) {S:Imm} {w:World} {ι:Ix} {v:Value} (hr:Rep S w ι p v):Rep S w noI q v:=by
 cases p with
 |isl c t=>
  have key:∀t',(t'=.full→t=.full)→(∀k,t'≠ .own k)→Rep S w noI (.isl c t') v:=by
   intro t' h1 h2;cases hr with
   |islnil _ _ _ hc=>exact .islnil _ _ _ hc
   |isl _ _ _ b off cap hc hs hh hf ho=>exact .isl _ _ _ _ _ _ hc hs hh (fun e=>hf (h1 e)) (fun k e=>absurd e (h2 k))
  cases t<;>cases h<;>exact key _ (by simp) (by simp)
 |ip c o=>cases h;cases hr with|ip _ _ _ b o' hs hh=>exact .ip _ _ _ _ _ hs hh
 |fn f us vs=>
  simp only[fu]at h;split at h
  ·rename_i h1
   split at h
   ·rename_i h2
    cases h
    cases hr with
    |fn _ _ _ _ us' vs' hk hl hu hv=>exact .fn _ _ _ _ _ _ hk hl (fun i hi=>mq h1 i hi (hu i hi)) (fun i hi=>mq h2 i hi (hv i hi))
   ·cases h
  ·cases h
 |ipe c i j=>cases h;cases hr with|ipe _ _ _ _ b o' hs hh=>exact .ipe _ _ _ _ _ _ hs hh
 |_=>first|(cases h;cases hr;constructor)|(simp[fu]at h)
theorem kZ:∀{ps qs:List PV},mg ps=some qs→qs.length=ps.length∧∀i,i<ps.length→∀{S:Imm} {w:World} {ι:Ix} {v:Value},Rep S w ι (aD ps i) v→Rep S w noI (aD qs i) v:=by
 intro ps;induction ps with
 |nil=>intro qs h;simp[mg]at h;subst h;exact⟨rfl,fun i hi=>by simp at hi⟩
 |cons p ps ih=>
  intro qs h;unfold mg at h;split at h
  ·rename_i y hy
   split at h
   ·rename_i ys hys
    cases h
    obtain⟨h1,h2⟩:=ih hys;refine⟨by simp[h1],fun i hi=>?_⟩
    cases i with
    |zero=>intro S w ι v hr;exact gu hy hr
    |succ i=>exact h2 i (by simpa using hi)
   ·cases h
  ·cases h
theorem vV {k:IntKind}:∀{ps:List PV} {xs:List Int},sH k ps=some xs→xs.length=ps.length∧∀i,i<ps.length→∀{S:Imm} {w:World} {ι:Ix} {v:Value},Rep S w ι (aD ps i) v→Rep S w noI (.int k (xs.getD i 0)) v:=by
 intro ps;induction ps with
 |nil=>intro qs h;simp[sH]at h;subst h;exact⟨rfl,fun i hi=>by simp at hi⟩
 |cons p ps ih=>
  intro qs h;unfold sH at h;split at h
  ·rename_i e;cases e
  ·rename_i k' n r e
   cases e
   split at h
   ·rename_i hk
    have hk:=of_decide_eq_true hk;subst hk;split at h
    ·rename_i ys hys
     cases h
     obtain⟨h1,h2⟩:=ih hys;refine⟨by simp[h1],fun i hi=>?_⟩
     cases i with
     |zero=>intro S w ι v hr;cases hr;exact .int _ _ _
     |succ i=>intro S w ι v hr;simpa using h2 i (by simpa using hi) hr
    ·cases h
   ·cases h
  ·cases h
theorem vH:∀{ps:List PV} {xs:List Bool},nA ps=some xs→xs.length=ps.length∧∀i,i<ps.length→∀{S:Imm} {w:World} {ι:Ix} {v:Value},Rep S w ι (aD ps i) v→Rep S w noI (.bp (xs.getD i false)) v:=by
 intro ps;induction ps with
 |nil=>intro qs h;simp[nA]at h;subst h;exact⟨rfl,fun i hi=>by simp at hi⟩
 |cons p ps ih=>
  intro qs h;unfold nA at h;split at h
  ·rename_i e;cases e
  ·rename_i n r e
   cases e
   split at h
   ·rename_i ys hys
    cases h
    obtain⟨h1,h2⟩:=ih hys;refine⟨by simp[h1],fun i hi=>?_⟩
    cases i with
    |zero=>intro S w ι v hr;cases hr;exact .bp _ _
    |succ i=>intro S w ι v hr;simpa using h2 i (by simpa using hi) hr
   ·cases h
  ·rename_i n r e
   cases e
   split at h
   ·rename_i ys hys
    cases h
    obtain⟨h1,h2⟩:=ih hys;refine⟨by simp[h1],fun i hi=>?_⟩
    cases i with
    |zero=>intro S w ι v hr;cases hr;exact .bp _ _
    |succ i=>intro S w ι v hr;simpa using h2 i (by simpa using hi) hr
   ·cases h
  ·cases h
theorem Gd:∀{ps:List PV} {xs:List ByteArray},strsOf ps=some xs→xs.length=ps.length∧∀i,i<ps.length→∀{S:Imm} {w:World} {ι:Ix} {v:Value},Rep S w ι (aD ps i) v→Rep S w noI (.str (xs.getD i .empty)) v:=by
 intro ps;induction ps with
 |nil=>intro qs h;simp[strsOf]at h;subst h;exact⟨rfl,fun i hi=>by simp at hi⟩
 |cons p ps ih=>
  intro qs h;unfold strsOf at h;split at h
  ·rename_i e;cases e
  ·rename_i n r e
   cases e
   split at h
   ·rename_i ys hys
    cases h
    obtain⟨h1,h2⟩:=ih hys;refine⟨by simp[h1],fun i hi=>?_⟩
    cases i with
    |zero=>intro S w ι v hr;cases hr;exact .str _ _
    |succ i=>intro S w ι v hr;simpa using h2 i (by simpa using hi) hr
   ·cases h
  ·cases h
theorem Rep.toNoI {S:Imm} {w:World} {ι:Ix} {c:CL} {v:Value} (h:Rep S w ι (.isl c .none) v):Rep S w noI (.isl c .none) v:=gu (p:=.isl c .none) rfl h
theorem Gf {k:IntKind}:∀{ps:List PV} {xs:List (List Int)},rowsOf k ps=some xs→xs.length=ps.length∧∀i,i<ps.length→∀{S:Imm} {w:World} {ι:Ix} {v:Value},Rep S w ι (aD ps i) v→Rep S w noI (.isl (.ints k (xs.getD i [])) .none) v:=by
 intro ps;induction ps with
 |nil=>intro qs h;simp[rowsOf]at h;subst h;exact⟨rfl,fun i hi=>by simp at hi⟩
 |cons p ps ih=>
  intro qs h;unfold rowsOf at h;split at h
  ·rename_i e;cases e
  ·rename_i k' n t r e
   cases e
   split at h
   ·rename_i hk
    have hk:=of_decide_eq_true hk;subst hk;split at h
    ·rename_i ys hys
     cases h
     obtain⟨h1,h2⟩:=ih hys;refine⟨by simp[h1],fun i hi=>?_⟩
     cases i with
     |zero=>intro S w ι v hr;exact hr.drop.toNoI
     |succ i=>intro S w ι v hr;simpa using h2 i (by simpa using hi) hr
    ·cases h
   ·cases h
  ·rename_i r e
   cases e
   split at h
   ·rename_i ys hys
    cases h
    obtain⟨h1,h2⟩:=ih hys;refine⟨by simp[h1],fun i hi=>?_⟩
    cases i with
    |zero=>intro S w ι v hr;cases hr;exact .islnil _ _ _ rfl
    |succ i=>intro S w ι v hr;simpa using h2 i (by simpa using hi) hr
   ·cases h
  ·cases h
theorem Nv {z:Value} {els:List PV} {K:CL→Prop} (h:Ux z els K):∃c,K c∧c.esz=1∧c.cnt=els.length∧
 ∀i,i<els.length→∀{S:Imm} {w:World} {ι:Ix} {v:Value},Rep S w ι (aD els i) v→Rep S w noI (c.get i) v:=by
 have pvc:(match mg els with|some l=>K (.pv l)|none=>False)→∃c,K c∧c.esz=1∧c.cnt=els.length∧
  ∀i,i<els.length→∀{S:Imm} {w:World} {ι:Ix} {v:Value},Rep S w ι (aD els i) v→Rep S w noI (c.get i) v:=by
  intro h;split at h
  ·rename_i l hl
   obtain⟨h1,h2⟩:=kZ hl;exact⟨_,h,rfl,h1,h2⟩
  ·exact h.elim
 unfold Ux at h;split at h
 ·split at h
  ·rename_i l hl
   obtain⟨h1,h2⟩:=vV hl;exact⟨_,h,rfl,h1,h2⟩
  ·exact h.elim
 ·split at h
  ·rename_i l hl
   obtain⟨h1,h2⟩:=vH hl;exact⟨_,h,rfl,h1,h2⟩
  ·exact h.elim
 ·split at h
  ·rename_i l hl
   obtain⟨h1,h2⟩:=Gd hl;exact⟨_,h,rfl,h1,h2⟩
  ·exact h.elim
 ·split at h
  ·rename_i l hl
   obtain⟨h1,h2⟩:=Gf hl;exact⟨_,h,rfl,h1,h2⟩
  ·exact pvc h
 ·exact pvc h
theorem y7 (n:Nat):(lJ n).length=n:=by
 induction n with
 |zero=>rfl
 |succ n ih=>simp[lJ,ih]
theorem Gg (n i:Nat):aD (lJ n) i=.any:=by
 induction n generalizing i with
 |zero=>rfl
 |succ n ih=>cases i with
  |zero=>rfl
  |succ i=>exact ih i
theorem pq (m:Nat):∀(n:Nat) (l:List PV),(chunks m n l).length=n:=by
 intro n;induction n with
 |zero=>intro l;rfl
 |succ n ih=>intro l;simp[chunks,ih]
theorem Nw (m:Nat):∀(n:Nat) (l:List PV) (i q:Nat),i<n→q<m→aD ((chunks m n l).getD i []) q=aD l (i*m+q):=by
 intro n;induction n with
 |zero=>intro l i q h;omega
 |succ n ih=>
  intro l i q h hq;cases i with
  |zero=>simp only[chunks,aiJ,aiH,aic];exact Ef _ _ _ hq
  |succ i=>
   simp only[chunks,List.getD_cons_succ];rw[ih _ i q (by omega) hq,Ee]
   congr 1;rw[ain];omega
theorem QU {l:List PV} {i:Nat} (h:l.length≤i):aD l i=.any:=by
 induction l generalizing i with
 |nil=>rfl
 |cons x xs ih=>cases i with
  |zero=>simp at h
  |succ i=>exact ih (by simpa using h)
theorem Gh:∀(rs:List (List PV)),pO rs→∀i,fu.inlF (rs.getD i [])=true:=by
 intro rs;induction rs with
 |nil=>intro _ i;simp[fu.inlF]
 |cons r rs ih=>
  intro h i;cases i with
  |zero=>exact h.1
  |succ i=>simpa using ih h.2 i
theorem JX {o:AO} {m:Nat} {K:RC→Prop} (h:Nf o m K):∃c rc,o=.cells c false∧c.cnt=m∧0<m∧(∀b,rc.at b=c)∧
 (∀j,j<c.ncell→∀{S:Imm} {w:World} {ι:Ix} {v:Value},Rep S w ι (c.get j) v→Rep S w noI (c.get j) v)∧K rc:=by
 unfold Nf at h;split at h
 ·split at h
  ·exact h.elim
  ·split at h
   ·exact⟨_,_,rfl,h.1.1.symm,h.1.2,fun _=>rfl,fun j _ S w ι v hv=>by cases hv;exact .int _ _ _,h.2⟩
   ·rename_i e rs
    refine⟨_,_,rfl,h.1.1.symm,h.1.2.1,fun _=>rfl,fun j hj S w ι v hv=>?_,h.2⟩;simp only[CL.get]at hv⊢;by_cases hl:j % e<(rs.getD (j / e) []).length
    ·exact mq (Gh _ h.1.2.2 _) _ hl hv
    ·rw[QU (by omega)];exact .any _ _
   ·exact h.elim
 ·exact h.elim
theorem Mem.newImmF {S:Imm} {w w':World} {ι:Ix} {H:Hp} (M:Mem S w ι H) {c:CL} {arr:Array Value} {e:TypeId} {fz:Nat × Nat} (hn:c.ncell≤arr.size)
 (hc:∀j,j<c.ncell→Rep S w noI (c.get j) (arr.getD j undef)) (hh:w'.heap=w.heap.push (.cells arr e fz)) (hos:w'.os=w.os) (htp:w'.tape=w.tape) (hou:w'.output=w.output):
 ∃S',Mem S' w' ι H∧Keeps S w S' w'∧(∀j,j<c.ncell→S' w.heap.size j)∧(∀j,j<c.ncell→Rep S' w' noI (c.get j) (rdv w' w.heap.size j))∧∀p,Tr p S w ι H S' w' ι H:=by
 let S':Imm:=fun b j=>S b j∨(b=w.heap.size∧j<c.ncell)
 have hold:∀b,b<w.heap.size→w'.heap[b]? =w.heap[b]? :=fun b hb=>by rw[hh,ahS,if_neg (by omega)]
 have hnw:w'.heap[w.heap.size]? =some (.cells arr e fz):=by rw[hh];simp
 have hbel:Bel w w':=⟨hos,htp,hou,by rw[hh];simp,fun b hb=>eZ (hold b hb)⟩
 have hrd:∀b j,(rd w b j).isSome→rd w' b j=rd w b j:=fun b j h=>dh (hold b (eY h)) j;have hkeep:Keeps S w S' w':=⟨fun b j h=>⟨.inl h,hrd b j (M.imm b j h)⟩,fun b j h=>by rw[hrd b j h];exact h⟩
 have hnew:∀j,rd w' w.heap.size j=arr[j]? :=fun j=>aN hnw j;have hrep:∀j,j<c.ncell→Rep S' w' noI (c.get j) (rdv w' w.heap.size j):=fun j hj=>by
  have:=(hc j hj).mono hkeep _ (.refl _);rw[ahW]at this;rw[rdv,hnew];exact this
 have hlt:∀k o b,ay H k=some o→o.has ι k b→b<w.heap.size:=fun k o b ho hb=>(M.obj k o ho).lt hb;refine⟨S',⟨?_,M.liveO,M.liveT,M.dist,?_⟩,hkeep,fun j hj=>.inr ⟨rfl,hj⟩,hrep,fun p=>⟨hbel,fun b hb _=>hold b hb,hkeep,?_,fun b h=>.inl h,fun k _ b h=>h,fun k _ b n h=>⟨b,n,h,.inl ⟨rfl,ahO _⟩⟩⟩⟩
 ·intro k o ho
  refine(M.obj k o ho).mono hkeep (.refl _) hbel (fun b hb=>hold b (hlt k o b ho hb)) (fun _=>rfl) rfl (fun b j hb hs=>?_);rcases hs with h|⟨h,_⟩
  ·exact h
  ·have:=hlt k o b ho hb;omega
 ·intro b j hs
  rcases hs with h|⟨rfl,h⟩
  ·rw[(hkeep.imm b j h).2];exact M.imm b j h
  ·rw[hnew,ahT (by omega)];rfl
 ·intro b j hb hs
  rcases hs with h|⟨h,_⟩
  ·exact .inl h
  ·omega
theorem JY (hτ:aY P τ) {md rf CP YP} {o:Oper} {ρ:Operand→PV} {H:Hp} {n:Nat} {s d:TypeId} {x:Operand} (ho:o.op=.convert s d x) {K:KR}
 (h:opK τ md rf CP YP ρ H n o.dst o.op K):∃v sets accs news,K v sets accs news∧bE P r o ρ H v sets accs news:=by
 by_cases hno:∀ts td,τ s=some ts→τ d=some td→cvN τ ts td≠1
 ·exact Ns hτ ho hno h
 rw[ho]at h;simp only[opK,cB]at h;obtain⟨ts,hts,td,htd,h⟩:=h;have h1:cvN τ ts td=1:=aiK.1 fun e=>hno fun ts' td' a b=>by
  rw[hts]at a;rw[htd]at b;cases a;cases b;exact e
 rw[h1]at h;simp only at h;obtain⟨e,te,hd,he,hu⟩:=Za h1;split at h
 ·rename_i b hb
  refine⟨_,_,_,_,h,fun S w ι H' a next Q M hr ha hn hk=>?_⟩;have hx:=hr x (by simp[ho,Op.operands])
  rw[hb]at hx;have hv:a.eval x=.string b:=by generalize a.eval x=v at hx;cases hx;rfl
  have hrun:=Lib.run_convert_string_bytes (P:=P) w s d e b (hτ.und s ts hts) ((hτ.und d td htd).trans (congrArg some hd)) ((hτ.und e te he).trans (congrArg some hu));have hlen:(dK b).length=b.size:=by unfold dK;rw[List.length_map,ais];rfl
  have hheap:(Lib.bytesWorld w e b).heap=w.heap.push (.cells (Lib.bytesCells w e b) e ((Lib.bytesCells w e b).size,(Lib.bytesCells w e b).size+1)):=by
   apply Array.ext_getElem?;intro j;rcases Nat.lt_trichotomy j w.heap.size with hj|hj|hj
   ·rw[Lib.bytesWorld_at_old w e b j hj,ahS,if_neg (by omega)]
   ·subst hj;rw[Lib.bytesWorld_at_new];simp
   ·rw[ahQ (by rw[Lib.bytesWorld_size];omega),ahQ (by simp;omega)]
  have hg:=grownCap_ge w b.size 0 e;obtain⟨S',M',K',hs',hh',T'⟩:=M.newImmF (c:=.ints .u8 (dK b)) (w':=Lib.bytesWorld w e b) (arr:=Lib.bytesCells w e b) (by simp only[CL.ncell,hlen,Lib.bytesCells];rw[aiL,aiM];exact Nat.le_add_right b.data.size _) (fun j hj=>by
   simp only[CL.ncell,hlen]at hj;have:(Lib.bytesCells w e b).getD j undef=.int .u8 ((dK b).getD j 0):=by
    have hj':j<b.data.size:=hj;have e1:b.data[j]? =some b.data[j]:=ahT hj';rw[ahW,Lib.bytesCells,Array.getElem?_append,aiM,if_pos hj',aiN,e1,ahZ,dK,aiO,Array.getElem?_toList,e1];rfl
   rw[this];exact .int _ _ _) hheap (by unfold Lib.bytesWorld World.freeze;split<;>rfl) (by unfold Lib.bytesWorld World.freeze;split<;>rfl) (by unfold Lib.bytesWorld World.freeze;split<;>rfl)
  refine d9 (fun c e=>by rw[ho]at e;cases e) (w':=Lib.bytesWorld w e b) (val:=.slice (some ⟨w.heap.size,0,none⟩) b.size (grownCap w b.size 0 e)) (by simp only[execOp,ho];rw[hv];exact dQ hrun) (hk _ S' _ ι M' (.refl _) K' ?_ T')
  have:=Rep.isl (S:=S') (w:=Lib.bytesWorld w e b) ι (.ints .u8 (dK b)) .none w.heap.size 0 (grownCap w b.size 0 e) (by simp only[CL.cnt,hlen];exact hg) (fun j hj=>by rw[aic];exact hs' j hj) (fun j hj=>by rw[aic];exact hh' j hj) (fun e=>by cases e) (fun k e=>by cases e)
  simpa only[CL.cnt,hlen]using this
 ·exact h.elim
theorem y8 (hτ:aY P τ) {md rf CP YP} {o:Oper} {ρ:Operand→PV} {H:Hp} {n:Nat} {t:TypeId} {len:Nat} {parts:Array (Nat × Operand)} (ho:o.op=.buildSlice t len parts) {K:KR}
 (h:opK τ md rf CP YP ρ H n o.dst o.op K):∃v sets accs news,K v sets accs news∧bE P r o ρ H v sets accs news:=by
 rw[ho]at h;simp only[opK,cB,aL,QG]at h;obtain⟨te,ht,h⟩:=h;have hd:∀c,o.op≠ .defer c:=fun c e=>by rw[ho]at e;cases e
 split at h
 ·rename_i e hu
  obtain⟨te',ht',hsz,h⟩:=h;have hsz:=aio hsz;split at h
  ·rename_i cs hcs
   have run:∀{S:Imm} {w:World} {ι:Ix} {a:Act},(∀x∈o.op.operands.toList,Rep S w ι (ρ x) (a.eval x))→∃arr,bF S w ι cs arr∧cs.length=len*te'.size∧
    (execOp a.eval o).run P w=.ok (.value (.slice (some ⟨w.heap.size,0,none⟩) len len)) {w with heap:=w.heap.push (.cells arr e)}:=by
    intro S w ι a hr;have hparts:∀x∈parts.toList,Rep S w ι (ρ x.2) (a.eval x.2):=by
     intro x hx;exact hr x.2 (by simp[ho,Op.operands];exact⟨x.1,by simpa using hx⟩)
    have hfill:∀zc:Array Value,zc.size=len*te'.size→∃vs',Instr.fill (fun i=>some (i*te'.size,te'.size)) zc (parts.map fun x=>(x.1,a.eval x.2)).toList=some vs'∧bF S w ι cs vs':=by
     intro zc hzs;obtain⟨vs',h1,h2⟩:=uf (S:=S) (w:=w) (ι:=ι) (ρ:=ρ) (a:=a) (place:=fun i=>some (i*te'.size,te'.size)) (F:=fun l ps=>jT l te'.size ps) (fun l=>by simp[jT])
      (fun l i v rest cs hh=>ug l i v rest cs hh) parts.toList _ cs zc hparts hcs ⟨by rw[y7,hzs],fun i hi=>by rw[Gg];exact .any _ _⟩
     exact⟨vs',by simpa using h1,h2⟩
    have hlen:cs.length=len*te'.size:=by
     have:∀(ps:List (Nat × PV)) (l cs:List PV),jT l te'.size ps=some cs→cs.length=l.length:=by
      intro ps;induction ps with
      |nil=>intro l cs hh;simp[jT]at hh;rw[hh]
      |cons x xs ih=>
       intro l cs hh;obtain⟨i,v⟩:=x;obtain⟨o',sz,ds,_,_,_,h4,_⟩:=ug (S:=S) (w:=w) (ι:=ι) l i v xs cs hh;rw[ih _ _ h4,mh]
     rw[this _ _ _ hcs,y7]
    have pre:∀X,(∀{w':World},(Instr.buildSlice t len (parts.map fun x=>(x.1,a.eval x.2))).run P w=.ok X w'→(execOp a.eval o).run P w=.ok (.value X) w'):=by
     intro X w' hX;simp only[execOp,ho];exact dQ hX
    by_cases h0:len*te'.size=0
    ·obtain⟨vs',h1,h2⟩:=hfill ((aiP (len*te'.size)).map fun x=>(#[]:Array Value)[x % (#[]:Array Value).size]!) (by simp)
     refine⟨vs',h2,hlen,pre _ ?_⟩;simp only[Instr.buildSlice,Sem.run_bind,run_underlying (hτ.und _ _ ht),hu,Result.andThen,bQ hτ ht'];rw[if_neg (by omega),Sem.run_ite,if_pos h0]
     simp only[Sem.run_bind,Sem.run_pure,Result.andThen,h1];simp[newRow,Result.andThen]
    ·obtain⟨vs',h1,h2⟩:=hfill ((aiP (len*te'.size)).map fun x=>te'.zero.cells[x % te'.zero.cells.size]!) (by simp)
     refine⟨vs',h2,hlen,pre _ ?_⟩;simp only[Instr.buildSlice,Sem.run_bind,run_underlying (hτ.und _ _ ht),hu,Result.andThen,bQ hτ ht'];rw[if_neg (by omega),Sem.run_ite,if_neg h0]
     simp only[Sem.run_bind,Sem.run_pure,Result.andThen,gN hτ ht',h1];simp[newRow,Result.andThen]
   split at h
   ·rename_i a m hrl
    have hcs1:cs=[.rsl a 0 m]:=by
     unfold QK at hrl;split at hrl
     ·split at hrl
      ·split at hrl
       ·cases hrl;rfl
       ·cases hrl
      ·cases hrl
     ·cases hrl
    rw[aX,aia]at h;obtain⟨⟨es,el⟩,ob,hob,h⟩:=h;have es:=aib es;have el:=aib el;subst el;obtain⟨c,rc,hobc,hm,hm0,hrc,hno,h⟩:=JX h;rw[cO]at h;refine⟨_,_,_,_,h.2,?_⟩;intro S w ι H' a' next Q M hr ha hn hk;have hob':=(ha a (by simp)).trans (hob.trans (by rw[hobc]))
    have hnn:=hn n (by simp)
    obtain⟨arr,h1,h2,h3⟩:=run hr;rw[hcs1]at h1 h2;have h0:=h1.2 0 (by simp)
    simp only[aD]at h0;obtain⟨x0,hx0⟩:∃x0,arr.getD 0 undef=x0:=⟨_,rfl⟩;rw[hx0]at h0;have hsz1:arr.size=1:=by have:=h1.1;simp at this;omega
    cases h0 with
    |rslz=>omega
    |rsl _ _ _ _ b cap hkb hc hrd=>
     have hw2:∃w':World,w'={w with heap:=w.heap.push (.cells arr e)}:=⟨_,rfl⟩;obtain⟨w',hw'⟩:=hw2;rw[←hw']at h3;have hheap:w'.heap=w.heap.push (.cells arr e):=by rw[hw']
     have hbelow:Bel w w':=by rw[hw'];exact kG _ _ (fJ _ _)
     obtain⟨X,M',le,K',T⟩:=M.absorb hob' hnn hkb (rc:=rc) hrc (fun j hj v hv=>hno j hj hv) (arr:=arr) (e:=e) (by omega) (cap:=cap) (by omega) (by rw[hx0,hm]) hheap hbelow
     have hio:(ι.setm n w.heap.size X).o n=some w.heap.size:=by simp[Ix.setm]
     refine d9 hd h3 (hk _ S w' _ M' le K' (.rsl _ _ _ _ _ _ hio (ahO _) (fun _ j hj=>?_)) T);have hat:w'.heap[w.heap.size]? =some (.cells arr e (0,0)):=by rw[hheap];simp
     rw[aN hat,ahT (by omega)];rfl
   split at h
   ·split at h
    ·rename_i ds hds
     obtain⟨i1,i2⟩:=kZ hds;have hm:=aio h.1;have hrec:∀{S:Imm} {w:World} {ι:Ix} {arr:Array Value},bF S w ι cs arr→cs.length=len*te'.size→∀j,j<(CL.recs te'.size (chunks te'.size len ds)).ncell→
      Rep S w noI ((CL.recs te'.size (chunks te'.size len ds)).get j) (arr.getD j undef):=by
      intro S w ι arr ha hl j hj;simp only[CL.ncell,pq]at hj;have hq:j % te'.size<te'.size:=aiQ _ hm;have hd':j / te'.size<len:=by rw[aix hm];exact hj
      simp only[CL.get];rw[Nw _ _ _ _ _ hd' hq,Nat.div_add_mod'];exact i2 j (by omega) (ha.2 j (by omega))
     have h:=h.2;split at h
     ·rw[cO]at h
      refine⟨_,_,_,_,h.2,lW hd fun S w ι H' a M hr ha=>?_⟩;obtain⟨arr,h1,h2,h3⟩:=run hr;have e1:=h1.1;exact⟨_,arr,e,h3,by simp[CL.ncell,pq];omega,fun j hj=>(hrec h1 h2 j hj).up ι,fun S' w' ι' hi hw=>.rsl _ _ _ _ _ _ hi (ahO _) (fun _ j hj=>by
       have:=aiI len hm;rw[aN hw,ahT (by omega)];rfl)⟩
     ·refine⟨_,_,_,_,h,vU hd fun S w ι H' a M hr ha=>?_⟩
      obtain⟨arr,h1,h2,h3⟩:=run hr;have e1:=h1.1;exact⟨arr,e,by simpa [CL.cnt,pq]using h3,by simp[CL.ncell,pq];omega,hrec h1 h2⟩
    ·exact h.elim
   ·obtain⟨c,h,c1,c2,c3⟩:=Nv h
    have hm:=aib h.1;have hcn:c.ncell=cs.length:=by rw[bS,c1,c2,aip]
    have h:=h.2;split at h
    ·rw[cO]at h
     refine⟨_,_,_,_,h.2,lW hd fun S w ι H' a M hr ha=>?_⟩;obtain⟨arr,h1,h2,h3⟩:=run hr;have e1:=h1.1;exact⟨_,arr,e,h3,by omega,fun j hj=>(c3 j (by omega) (h1.2 j (by omega))).up ι,fun S' w' ι' hi hw=>.rsl _ _ _ _ _ _ hi (ahO _) (fun _ j hj=>by
      rw[hm,aip]at h2;rw[aN hw,ahT (by omega)];rfl)⟩
    ·refine⟨_,_,_,_,h,vU hd fun S w ι H' a M hr ha=>?_⟩
     obtain⟨arr,h1,h2,h3⟩:=run hr;have e1:=h1.1;have e2:c.cnt=len:=by rw[c2,h2,hm,aip]
     exact⟨arr,e,by rw[e2];exact h3,by omega,fun j hj=>c3 j (by omega) (h1.2 j (by omega))⟩
  ·exact h.elim
 ·exact h.elim
variable {P:Program} {r:Option Nat} {τ:TypeId→Option TE}
theorem fE {w:World} {b off n size len cap:Nat} (h:∀j,j<n*size→(rd w b (off+j)).isSome):
 (Builtin.firstCells size n (.slice (some ⟨b,off,none⟩) len cap)).run P w=.ok ((ahX (n*size)).map fun j=>rdv w b (off+j)).toArray w:=by
 simp only[Builtin.firstCells];exact run_loadCells P h
theorem mY {w:World} {a:Option Addr} {size len cap:Nat}:(Builtin.firstCells size 0 (.slice a len cap)).run P w=.ok #[] w:=by
 cases a with
 |none=>rfl
 |some a=>simp only[Builtin.firstCells,aiH];rfl
theorem run_firstCells_none {w:World} {n size len cap:Nat}:(Builtin.firstCells size n (.slice none len cap)).run P w=.ok #[] w:=rfl
theorem QV (n:Nat) (c:Nat) (h:c<n):Builtin.growBy n 4 c≤3*n+2000:=by
 simp only[Builtin.growBy];split
 ·omega
 ·split
  ·omega
  ·split
   ·omega
   ·split<;>omega
theorem Ao {n c:Nat} (h:c<n):Builtin.nextslicecap n c≤3*n+2000:=by
 unfold Builtin.nextslicecap;split
 ·omega
 ·split
  ·omega
  ·exact QV n c h
theorem run_append_grow (hτ:aY P τ) {t u ty e:TypeId} {tt tu te:TE} (ht:τ t=some tt) (hu:τ u=some tu) (he:τ e=some te) (hd:tt.und=.slice e) {e':TypeId} (hd':tu.und=.slice e') {w:World}
 {base:Option Addr} {sLen sCap n:Nat} {xb:Option Addr} {xc:Nat} (hgrow:sCap<sLen+n) (hbd:sLen+n≤1073741824) (hby:te.bytes≤65536) {old new:Array Value}
 (hold:(Builtin.firstCells te.size sLen (.slice base sLen sCap)).run P {w with drawn:=w.drawn+1}=.ok old {w with drawn:=w.drawn+1})
 (hnew:(Builtin.firstCells te.size n (.slice xb n xc)).run P {w with drawn:=w.drawn+1}=.ok new {w with drawn:=w.drawn+1}):
 ∃cap',sLen+n≤cap'∧(Builtin.append_ #[t,u] ty #[.slice base sLen sCap,.slice xb n xc]).run P w=
  .ok (.slice (some ⟨w.heap.size,0,none⟩) (sLen+n) cap') {({w with drawn:=w.drawn+1}:World)with heap:=w.heap.push (.cells (old++new++Builtin.zeroCells te.zero.cells (cap'-(sLen+n))) e)}:=by
 obtain⟨i,hi,hz,hs,hb⟩:=jD hτ he w;obtain⟨i2,hi2,hz2,hs2,hb2⟩:=jD hτ he {w with drawn:=w.drawn+1};have hcap:=Ao hgrow;refine⟨(Question.appendCap (sLen+n) sCap e).cut (w.tape w.drawn (.appendCap (sLen+n) sCap e)),by simp[Question.cut],?_⟩
 simp only[Builtin.append_,aiR,aiS,aiT,Sem.run_bind,run_underlying (hτ.und _ _ ht),hd,Result.andThen,bQ hτ he,run_underlying (hτ.und _ _ hu),hd',Sem.run_pure,aiF,if_false,Builtin.lenOf];simp only[aiz,if_true];rw[Sem.run_ite,if_neg (by omega)]
 simp only[Sem.run_bind,hi,Result.andThen,hb];rw[Sem.run_ite,if_neg (by simp[IntKind.max,IntKind.signed,IntKind.bits];omega)]
 simp only[Sem.run_bind,Sem.run_pure,Result.andThen,hi,hb];rw[Sem.run_ite,if_neg (by
  have:Builtin.nextslicecap (sLen+n) sCap*te.bytes≤3221227472*65536:=aiU (by omega) hby
  omega)]
 simp only[Sem.run_bind,run_choose,Question.forced,aiF,if_false,Result.andThen,hi2,hb2,run_askRoom,hold,hnew,aiz,if_true,gN hτ he,newRow,run_newObj,Sem.run_pure]
theorem Ap (hτ:aY P τ) {t u ty e:TypeId} {tt tu te:TE} (ht:τ t=some tt) (hu:τ u=some tu) (he:τ e=some te) (hd:tt.und=.slice e) {k:IntKind} (hd':tu.und=.int k) {w:World}
 {n:Nat} (hn:0<n∧n≤1000000) (hby:te.bytes≤65536) (h1:te.size=1):
 ∃cap',n≤cap'∧(Builtin.append_ #[t,u] ty #[.slice none 0 0,.int .i64 (n:Int)]).run P w=
  .ok (.slice (some ⟨w.heap.size,0,none⟩) n cap') {({w with drawn:=w.drawn+1}:World)with heap:=w.heap.push (.cells (#[]++Builtin.zeroCells te.zero.cells n++Builtin.zeroCells te.zero.cells (cap'-n)) e)}:=by
 obtain⟨i,hi,hz,hs,hb⟩:=jD hτ he w;obtain⟨i2,hi2,hz2,hs2,hb2⟩:=jD hτ he {w with drawn:=w.drawn+1};have hcap:=Ao (n:=n) (c:=0) hn.1;have hw:IntKind.i64.wrap (n:Int)=n:=by simp[IntKind.wrap,IntKind.signed,IntKind.bits];omega
 have hmul:n*te.bytes≤1000000*65536:=aiU hn.2 hby;refine⟨(Question.appendCap n 0 e).cut (w.tape w.drawn (.appendCap n 0 e)),by simp[Question.cut],?_⟩
 simp only[Builtin.append_,aiR,aiS,aiT,Sem.run_bind,run_underlying (hτ.und _ _ ht),hd,Result.andThen,bQ hτ he,run_underlying (hτ.und _ _ hu),hd',Sem.run_pure,if_true,asInt,asIntOf,hw];rw[Sem.run_ite,if_neg (by omega)]
 simp only[Sem.run_bind,hi,Result.andThen,hb];rw[Sem.run_ite,if_neg (by omega)]
 simp only[Sem.run_bind,Sem.run_pure,Result.andThen,aiV,aic];rw[Sem.run_ite,if_neg (by omega)]
 simp only[Sem.run_bind,hi,Result.andThen,hb];rw[Sem.run_ite,if_neg (by simp[IntKind.max,IntKind.signed,IntKind.bits];omega)]
 simp only[Sem.run_bind,Sem.run_pure,Result.andThen,hi,hb];rw[Sem.run_ite,if_neg (by
  have:Builtin.nextslicecap n 0*te.bytes≤3002000*65536:=aiU (by omega) hby
  omega)]
 have hz:¬n*te.size=0:=by rw[h1];omega
 simp only[Sem.run_bind,run_choose,Question.forced,aiF,if_false,Result.andThen,hi2,hb2,run_askRoom,run_firstCells_none,Bool.not_true,hz,gN hτ he,newRow,run_newObj,Sem.run_pure]
theorem kJ (hτ:aY P τ) {t u ty e:TypeId} {tt tu te:TE} (ht:τ t=some tt) (hu:τ u=some tu) (he:τ e=some te) (hd:tt.und=.slice e) {e':TypeId} (hd':tu.und=.slice e') {w w':World}
 {base:Option Addr} {sLen sCap n:Nat} {xb:Option Addr} {xc:Nat} (hfit:sLen+n≤sCap) {new:Array Value}
 (hnew:(Builtin.firstCells te.size n (.slice xb n xc)).run P w=.ok new w)
 (hst:((match base with|some a=>storeCells (a.add (sLen*te.size)) new.toList|none=>pure ()):Sem Unit).run P w=.ok () w'):
 (Builtin.append_ #[t,u] ty #[.slice base sLen sCap,.slice xb n xc]).run P w=.ok (.slice base (sLen+n) sCap) w':=by
 simp only[Builtin.append_,aiR,aiS,aiT,Sem.run_bind,run_underlying (hτ.und _ _ ht),hd,Result.andThen,bQ hτ he,run_underlying (hτ.und _ _ hu),hd',Sem.run_pure,aiF,if_false,Builtin.lenOf];rw[Sem.run_ite,if_pos hfit];simp only[Sem.run_bind,aiz,if_true,hnew,Result.andThen];cases base with
 |none=>simp at hst;subst hst;rfl
 |some a=>simp only at hst;simp only[Sem.run_bind,hst,Result.andThen,Sem.run_pure]
theorem Mem.tokStep {S:Imm} {w w':World} {ι:Ix} {H:Hp} (M:Mem S w ι H) {k b esz hw':Nat} {arr':Array Value} {e:TypeId}
 (below:Bel w w') (other:∀b',b'<w.heap.size→b'≠b→w'.heap[b']? =w.heap[b']?) (here:w'.heap[b]? =some (.cells arr' e (0,0))) (hpos:0<hw') (hsz:hw'*esz≤arr'.size)
 (hk:ay H k=none∨∃hw,ay H k=some (.tok esz hw))
 (hle:∀b0 hw,ι.t k=some (b0,hw)→(b=b0∧hw≤hw')∨hw<hw')
 (hb:w.heap.size≤b∨∃hw arr e0,ay H k=some (.tok esz hw)∧ι.t k=some (b,hw)∧w.heap[b]? =some (.cells arr e0 (0,0))∧arr.size≤arr'.size∧∀j,j<hw*esz→arr'[j]? =arr[j]?):
 ∃S',Mem S' w' (ι.sett k b hw') (aQ H k (.tok esz hw'))∧Keeps S w S' w'∧ι.le (ι.sett k b hw')∧(∀j,j<hw'*esz→S' b j)∧∀p,Tr p S w ι H S' w' (ι.sett k b hw') (aQ H k (.tok esz hw')):=by
 let S':Imm:=fun b' j=>S b' j∨(b'=b∧j<hw'*esz)
 have hnotO:ι.o k=none:=by
  cases eo:ι.o k with
  |none=>rfl
  |some x=>
   obtain⟨o,g1,g2⟩:=M.liveO k x eo;rcases hk with h|⟨hw,h⟩
   ·rw[h]at g1;cases g1
   ·rw[h]at g1;cases g1;simp[AO.isTok]at g2
 have hSb:∀j,S b j→∃hw arr e0,w.heap[b]? =some (.cells arr e0 (0,0))∧arr.size≤arr'.size∧j<hw*esz∧hw≤hw'∧∀j,j<hw*esz→arr'[j]? =arr[j]? :=by
  intro j hs;have hlt:=eY (M.imm b j hs);rcases hb with h|⟨hw,arr,e0,h1,h2,h3,h4,h5⟩
  ·omega
  ·obtain⟨g1,g2⟩:=M.obj k _ h1
   rcases aiC hw with hz|hz
   ·rw[g1 hz]at h2;cases h2
   ·obtain⟨b',arr2,e2,q1,q2,q3⟩:=g2 hz
    rw[h2]at q1;cases q1
    have:=hle b hw h2;exact⟨hw,arr,e0,h3,h4,q3 j hs,by omega,h5⟩
 have keeps:Keeps S w S' w':=by
  refine⟨fun b' j hs=>⟨.inl hs,?_⟩,fun b' j hs=>?_⟩
  ·by_cases eb:b'=b
   ·subst eb
    obtain⟨hw,arr,e0,h3,h4,h5,h6,h7⟩:=hSb j hs;rw[aN here,aN h3];exact h7 j h5
   ·exact dh (other b' (eY (M.imm b' j hs)) eb) j
  ·by_cases eb:b'=b
   ·subst eb
    have hlt:=eY hs;rcases hb with h|⟨hw,arr,e0,h1,h2,h3,h4,h5⟩
    ·omega
    ·rw[aN h3]at hs
     rw[aN here];have:j<arr.size:=by
      rcases ahP j arr.size with h1|h1
      ·exact h1
      ·rw[ahQ h1]at hs;simp at hs
     rw[ahT (by omega)];rfl
   ·rw[dh (other b' (eY hs) eb) j];exact hs
 have le:ι.le (ι.sett k b hw'):=⟨fun _ _ h=>h,fun k' b0 hw h=>by
  by_cases ek:k'=k
  ·subst ek
   refine⟨b,hw',by simp[Ix.sett],?_⟩
   rcases hle b0 hw h with⟨h1,h2⟩|h1
   ·exact .inl ⟨h1,h2⟩
   ·exact .inr h1
  ·exact⟨b0,hw,by simp[Ix.sett,ek,h],.inl ⟨rfl,ahO _⟩⟩⟩
 have hbl:∀b',(AO.tok esz hw').has (ι.sett k b hw') k b'↔b'=b:=fun b'=>by simp[AO.has,Ix.sett,eq_comm]
 obtain⟨M',T⟩:=M.step (S':=S') (b:=b) (k:=k) (o':=.tok esz hw') below other keeps (fun b' j h=>by rcases h with h|⟨h,_⟩;exact .inl h;exact .inr h)
  (fun j h=>by
   rw[aN here];have:j<arr'.size:=by
    rcases h with h|⟨_,h⟩
    ·obtain⟨hw,arr,e0,h3,h4,h5,h6,h7⟩:=hSb j h
     have:hw*esz≤hw'*esz:=ail _ h6;omega
    ·omega
   rw[ahT this];rfl)
  le (fun _ _=>rfl) (fun k' h=>by simp[Ix.sett,h]) rfl
  (by
   rcases hb with h|⟨hw,arr,e0,h1,h2,h3,h4,h5⟩
   ·exact .inl h
   ·exact .inr ⟨_,h1,rfl,_,h2⟩)
  hbl (fun _=>by simpa [Ix.sett]using hnotO) (fun h=>by simp[AO.isTok]at h)
  ⟨fun hz=>by omega,fun _=>⟨b,arr',e,by simp[Ix.sett],here,fun j h=>by
   rcases h with h|⟨_,h⟩
   ·obtain⟨hw,arr,e0,h3,h4,h5,h6,h7⟩:=hSb j h
    have:hw*esz≤hw'*esz:=ail _ h6;omega
   ·exact h⟩⟩
 exact⟨S',M',keeps,le,fun j hj=>.inr ⟨rfl,hj⟩,T⟩
theorem Mem.virgin {S:Imm} {w:World} {ι:Ix} {H:Hp} (M:Mem S w ι H) {k:Nat} (hk:ay H k=none) (esz:Nat):
 Mem S w ι (aQ H k (.tok esz 0))∧∀p,Tr p S w ι H S w ι (aQ H k (.tok esz 0)):=by
 have hno:=M.none_o hk;have hnt:=M.none_t hk;have get:∀k' o,ay (aQ H k (.tok esz 0)) k'=some o→(k'=k∧o=.tok esz 0)∨(k'≠k∧ay H k'=some o):=by
  intro k' o h;rw[bq]at h;by_cases e:k'=k
  ·subst e;simp at h;exact .inl ⟨rfl,h.symm⟩
  ·rw[if_neg e]at h;exact .inr ⟨e,h⟩
 have up:∀k' o,ay H k'=some o→ay (aQ H k (.tok esz 0)) k'=some o:=by
  intro k' o h;rw[bq];by_cases e:k'=k
  ·subst e;rw[hk]at h;cases h
  ·rw[if_neg e];exact h
 have own:∀b,owned ι (aQ H k (.tok esz 0)) b→owned ι H b:=by
  rintro b ⟨k',o,h1,h2,h3⟩
  rcases get k' o h1 with⟨rfl,rfl⟩|⟨_,h⟩
  ·simp[AO.has,hnt]at h3
  ·exact⟨k',o,h,h2,h3⟩
 refine⟨⟨?_,?_,?_,?_,M.imm⟩,fun p=>⟨Bel.refl _,fun _ _ _=>rfl,.refl _ _,fun _ _ _ h=>.inl h,fun b h=>.inl (own b h),fun _ _ _ h=>h,fun _ _ b n h=>⟨b,n,h,.inl ⟨rfl,ahO _⟩⟩⟩⟩
 ·intro k' o h
  rcases get k' o h with⟨rfl,rfl⟩|⟨_,h⟩
  ·exact⟨fun _=>hnt,fun h=>by omega⟩
  ·exact M.obj k' o h
 ·intro k' b h
  obtain⟨o,h1,h2⟩:=M.liveO k' b h;exact⟨o,up k' o h1,h2⟩
 ·intro k' x h
  obtain⟨o,h1,h2⟩:=M.liveT k' x h;exact⟨o,up k' o h1,h2⟩
 ·intro k1 k2 o1 o2 b h1 h2 hb1 hb2
  rcases get k1 o1 h1 with⟨rfl,rfl⟩|⟨_,h1⟩
  ·simp[AO.has,hnt]at hb1
  ·rcases get k2 o2 h2 with⟨rfl,rfl⟩|⟨_,h2⟩
   ·simp[AO.has,hnt]at hb2
   ·exact M.dist k1 k2 o1 o2 b h1 h2 hb1 hb2
theorem JZ:∀(rs:List (List PV)),pO rs→∀i,fu.inlF (rs.getD i [])=true:=by
 intro rs;induction rs with
 |nil=>intro _ i;rfl
 |cons x r ih=>
  intro h i;cases i with
  |zero=>exact h.1
  |succ i=>simpa using ih h.2 i
theorem jX {c:CL} {K:CL→Prop} (h:qp c K):∃d,K d∧d.esz=c.esz∧d.ncell=c.ncell∧∀j,j<c.ncell→∀{S:Imm} {w:World} {ι:Ix} {v:Value},Rep S w ι (c.get j) v→Rep S w noI (d.get j) v:=by
 unfold qp at h;split at h
 ·exact⟨_,h,rfl,rfl,fun j hj S w ι v hr=>by cases hr;exact .int _ _ _⟩
 ·exact⟨_,h,rfl,rfl,fun j hj S w ι v hr=>by cases hr;exact .bp _ _⟩
 ·exact⟨_,h,rfl,rfl,fun j hj S w ι v hr=>by cases hr;exact .str _ _⟩
 ·exact⟨_,h,rfl,rfl,fun j hj S w ι v hr=>hr.toNoI⟩
 ·split at h
  ·rename_i ds hds
   obtain⟨h1,h2⟩:=kZ hds;exact⟨_,h,rfl,h1,fun j hj S w ι v hr=>h2 j hj hr⟩
  ·exact h.elim
 ·rename_i m rs
  refine⟨_,h.2,rfl,rfl,fun j hj S w ι v hr=>?_⟩;simp only[CL.get]at hr⊢;by_cases hl:j % m<(rs.getD (j / m) []).length
  ·exact mq (JZ rs h.1 _) _ hl hr
  ·have:aD (rs.getD (j / m) []) (j % m)=.any:=by
    generalize rs.getD (j / m) []=l at hl
    generalize j % m=q at hl
    induction l generalizing q with
    |nil=>rfl
    |cons x xs ih=>cases q with
     |zero=>simp at hl
     |succ q=>exact ih q (by simpa using hl)
   rw[this];exact .any _ _
 ·exact h.elim
def Src (S:Imm) (w:World) (d:CL) (vx:Value):Prop:=
 ∃ad cap,vx=.slice ad d.cnt cap∧∃vals:Array Value,vals.size=d.ncell∧(∀j,j<d.ncell→Rep S w noI (d.get j) (vals.getD j undef))∧
  ∀(P:Program) (w':World),w'.heap=w.heap→(Builtin.firstCells d.esz d.cnt vx).run P w'=.ok vals w'
theorem nU {S:Imm} {w:World} {d:CL} {b off cap:Nat} (h:∀j,j<d.ncell→(rd w b (off+j)).isSome) (hr:∀j,j<d.ncell→Rep S w noI (d.get j) (rdv w b (off+j))):
 Src S w d (.slice (some ⟨b,off,none⟩) d.cnt cap):=by
 refine⟨_,_,rfl,((ahX d.ncell).map fun j=>rdv w b (off+j)).toArray,by simp,fun j hj=>?_,fun P w' hw=>?_⟩
 ·have:=hr j hj
  simpa [ahW,hj]using this
 ·have e:∀j,rd w' b j=rd w b j:=fun j=>by simp[rd,hw]
  have:=fE (P:=P) (w:=w') (b:=b) (off:=off) (n:=d.cnt) (size:=d.esz) (len:=d.cnt) (cap:=cap) (fun j hj=>by rw[e];exact h j (by rw[bS];exact hj))
  rw[this,bS];simp only[rdv,e]
theorem K9 {S:Imm} {w:World} {d:CL} {a:Option Addr} (h:d.cnt=0):Src S w d (.slice a 0 0):=by
 have hn:d.ncell=0:=by rw[bS,h,aiH]
 exact⟨a,0,by rw[h], #[],by rw[hn];rfl,fun j hj=>by omega,fun P w' hw=>by rw[h];exact mY⟩
theorem mD {H:Hp} {x:PV} {K:CL→List Nat→Prop} (h:yY H x K):∃d acc,K d acc∧∀{S:Imm} {w:World} {ι:Ix} {H':Hp} {vx:Value},Mem S w ι H'→(∀k∈acc,ay H' k=ay H k)→Rep S w ι x vx→Src S w d vx:=by
 unfold yY at h;split at h
 ·rename_i c t
  refine⟨_,_,h,fun M ha hr=>?_⟩;cases hr with
  |islnil _ _ _ hc=>exact K9 hc
  |isl _ _ _ b off cap hc hs hh hf ho=>exact nU (fun j hj=>M.imm _ _ (hs j hj)) hh
 ·rename_i k off n
  rw[aX]at h;obtain⟨o,ho,h⟩:=h;split at h
  ·rename_i c fz
   obtain⟨d,h,d1,d2,d3⟩:=jX h;simp only[gM,dZ,aL]at h;obtain⟨h1,h2,h3⟩:=h;have h2:=aib h2;have hcnt:(d.sub off (off+n)).cnt=n:=by rw[iO _ h1];omega
   have hnc:(d.sub off (off+n)).ncell=n:=by rw[bS,hcnt,K7,h2,aip]
   have hdn:d.ncell=d.cnt:=by rw[bS,h2,aip]
   refine⟨_,_,h3,fun M ha hr=>?_⟩;rename_i S w ι H' vx;have ho':=(ha k (by simp)).trans ho
   cases hr with
   |rslz _ _ _ b o' hk=>
    have:=nU (S:=S) (w:=w) (d:=d.sub off (off+0)) (b:=b) (off:=o') (cap:=0) (fun j hj=>by omega) (fun j hj=>by omega)
    rw[hcnt]at this;exact this
   |rsl _ _ _ _ b cap hk hc _=>
    have hl:=M.lies ho' hk;have:=nU (S:=S) (w:=w) (d:=d.sub off (off+n)) (b:=b) (off:=off) (cap:=cap)
     (fun j hj=>by have:=(hl (off+j) (by omega)).1;rwa [aic]at this)
     (fun j hj=>by
      rw[K8 d (by rw[h2,aip];omega),h2,aip]
      have:=d3 (off+j) (by omega) (hl (off+j) (by omega)).2
      rwa [aic]at this)
    rw[hcnt]at this;exact this
  ·exact h.elim
 ·exact h.elim
theorem nV (l m:List PV):∀j,(j<l.length→aD (l++m) j=aD l j)∧aD (l++m) (l.length+j)=aD m j:=by
 induction l with
 |nil=>intro j;exact⟨fun h=>by simp at h,by simp⟩
 |cons x xs ih=>
  intro j;refine⟨fun h=>?_,?_⟩
  ·cases j with
   |zero=>rfl
   |succ j=>exact(ih j).1 (by simpa using h)
  ·rw[ahK,show xs.length+1+j=(xs.length+j)+1 by omega]
   exact(ih j).2
theorem uh {c d:CL} {K:CL→Prop} (h:F3 c d K):∃e,K e∧e.esz=c.esz∧d.esz=c.esz∧e.cnt=c.cnt+d.cnt∧(∀j,j<c.ncell→e.get j=c.get j)∧∀j,j<d.ncell→e.get (c.ncell+j)=d.get j:=by
 unfold F3 at h;split at h
 ·exact⟨_,h,rfl,rfl,by simp[CL.cnt],fun j hj=>((nV _ _ j).1 hj),fun j hj=>(nV _ _ j).2⟩
 ·rw[aL]at h
  have e:=of_decide_eq_true h.1;subst e;exact⟨_,h.2,rfl,rfl,by simp[CL.cnt],fun j hj=>by simp only[CL.ncell]at hj;simp[CL.get,aiW,hj],fun j hj=>by simp[CL.get,CL.ncell,aiX]⟩
 ·exact⟨_,h,rfl,rfl,by simp[CL.cnt],fun j hj=>by simp only[CL.ncell]at hj;simp[CL.get,aiW,hj],fun j hj=>by simp[CL.get,CL.ncell,aiX]⟩
 ·exact⟨_,h,rfl,rfl,by simp[CL.cnt],fun j hj=>by simp only[CL.ncell]at hj;simp[CL.get,aiW,hj],fun j hj=>by simp[CL.get,CL.ncell,aiX]⟩
 ·rw[aL]at h
  have e:=of_decide_eq_true h.1;subst e;exact⟨_,h.2,rfl,rfl,by simp[CL.cnt],fun j hj=>by simp only[CL.ncell]at hj;simp[CL.get,aiW,hj],fun j hj=>by simp[CL.get,CL.ncell,aiX]⟩
 ·rename_i m xs m' ys
  rw[aL]at h;have e:=aib h.1;subst e;refine⟨_,h.2,rfl,rfl,by simp[CL.cnt],fun j hj=>?_,fun j hj=>?_⟩
  ·simp only[CL.ncell]at hj
   have hm:0<m:=by rcases aiC m with h|h;(subst h;simp at hj);exact h
   have:j / m<xs.length:=by rw[aix hm];exact hj
   simp[CL.get,aiW,this]
  ·simp only[CL.ncell]at hj⊢
   have hm:0<m:=by rcases aiC m with h|h;(subst h;simp at hj);exact h
   simp only[CL.get];rw[show(xs.length*m+j) / m=xs.length+j / m by rw[aie,aif hm],show(xs.length*m+j) % m=j % m by rw[aie,aij]]
   simp[aiX]
 ·exact h.elim
variable {P:Program} {r:Option Nat} {τ:TypeId→Option TE}
theorem kK {ι:Ix} {H H':Hp} (h:∀k,ay H k=ay H' k) (b:Nat):owned ι H b↔owned ι H' b:=by
 simp only[owned,h]
theorem Mem.congr {S:Imm} {w:World} {ι:Ix} {H H':Hp} (h:∀k,ay H k=ay H' k) (M:Mem S w ι H):Mem S w ι H':=
 ⟨fun k o ho=>M.obj k o ((h k).trans ho),fun k b hb=>by obtain⟨o,h1,h2⟩:=M.liveO k b hb;exact⟨o,(h k).symm.trans h1,h2⟩,
  fun k b hb=>by obtain⟨o,h1,h2⟩:=M.liveT k b hb;exact⟨o,(h k).symm.trans h1,h2⟩,
  fun k k' o o' b h1 h2=>M.dist k k' o o' b ((h k).trans h1) ((h k').trans h2),M.imm⟩
theorem Tr.congr {p:Nat} {S S':Imm} {w w':World} {ι ι':Ix} {H H' H1:Hp} (h:∀k,ay H k=ay H1 k) (t:Tr p S w ι H S' w' ι' H'):Tr p S w ι H1 S' w' ι' H':=
 ⟨t.below,fun b hb ho=>t.same b hb (fun h'=>ho ((kK h b).1 h')),t.keeps,fun b j hb hs=>Or.imp id (fun h'=>(kK h b).1 h') (t.immN b j hb hs),
  fun b ho=>Or.imp (fun h'=>(kK h b).1 h') id (t.own b ho),t.protO,t.protT⟩
theorem Tr.congr' {p:Nat} {S S':Imm} {w w':World} {ι ι':Ix} {H H' H1:Hp} (h:∀k,ay H' k=ay H1 k) (t:Tr p S w ι H S' w' ι' H'):Tr p S w ι H S' w' ι' H1:=
 ⟨t.below,t.same,t.keeps,t.immN,fun b ho=>t.own b ((kK h b).2 ho),t.protO,t.protT⟩
theorem Eh {H:Hp} {k:Nat} {o:AO} (h:ay H k=some o) (k':Nat):ay H k'=ay (aQ H k o) k':=by
 rw[bq];by_cases e:k'=k
 ·subst e;simp[h]
 ·simp[e]
def iE (P:Program) (S:Imm) (w:World) (ι:Ix) (H:Hp) (s:Sem Value) (v:PV) (sets:List (Nat × AO)):Prop:=
 ∃val S' w' ι',s.run P w=.ok val w'∧Mem S' w' ι' (aZ H sets)∧ι.le ι'∧Keeps S w S' w'∧Rep S' w' ι' v val∧∀p,Tr p S w ι H S' w' ι' (aZ H sets)
theorem iE.same {S:Imm} {w:World} {ι:Ix} {H:Hp} {s:Sem Value} {v:PV} {val:Value} (M:Mem S w ι H) (h:s.run P w=.ok val w) (hr:Rep S w ι v val):iE P S w ι H s v []:=
 ⟨val,S,w,ι,h,M,.refl _,.refl _ _,hr,fun p=>.refl _ _ _ _ _⟩
theorem iE.again {S:Imm} {w:World} {ι:Ix} {H:Hp} {s:Sem Value} {v:PV} {val:Value} {k:Nat} {ob:AO} (hk:ay H k=some ob) (M:Mem S w ι H) (h:s.run P w=.ok val w) (hr:Rep S w ι v val):iE P S w ι H s v [(k,ob)]:=
 ⟨val,S,w,ι,h,M.congr (Eh hk),.refl _,.refl _ _,hr,fun p=>(Tr.refl _ _ _ _ _).congr' (Eh hk)⟩
theorem iE.virgin {S:Imm} {w:World} {ι:Ix} {H:Hp} {s:Sem Value} {v:PV} {val:Value} {k:Nat} (hk:ay H k=none) (esz:Nat) (M:Mem S w ι H) (h:s.run P w=.ok val w) (hr:Rep S w ι v val):iE P S w ι H s v [(k,.tok esz 0)]:=
 ⟨val,S,w,ι,h,(M.virgin hk esz).1,.refl _,.refl _ _,hr,(M.virgin hk esz).2⟩
structure Row (S:Imm) (w:World) (esz:Nat) (n:Nat) (g:Nat→PV) (vs:Value) (vals:Array Value):Prop where
 size:vals.size=n*esz
 rep:∀j,j<n*esz→Rep S w noI (g j) (vals.getD j undef)
 run:∀(P:Program) (w':World),w'.heap=w.heap→(Builtin.firstCells esz n vs).run P w'=.ok vals w'
theorem y9 (hτ:aY P τ) {t u ty e:TypeId} {tt tu te:TE} (ht:τ t=some tt) (hu:τ u=some tu) (he:τ e=some te) (hd:tt.und=.slice e) {e':TypeId} (hd':tu.und=.slice e')
 {S:Imm} {w:World} {ι:Ix} {H:Hp} (M:Mem S w ι H) {k:Nat} (hk:ay H k=none∨∃hw,ay H k=some (.tok te.size hw)) {base xb:Option Addr} {cn sCap dn xc:Nat}
 (hlt:∀b0 hw,ι.t k=some (b0,hw)→hw<cn+dn) (hgrow:sCap<cn+dn) (hbd:cn+dn≤1073741824) (hby:te.bytes≤65536) {E:CL} (hE:E.cnt=cn+dn) (hEs:E.esz=te.size)
 {old new:Array Value} (ho:Row S w te.size cn E.get (.slice base cn sCap) old) (hn:Row S w te.size dn (fun j=>E.get (cn*te.size+j)) (.slice xb dn xc) new):
 iE P S w ι H (Builtin.append_ #[t,u] ty #[.slice base cn sCap,.slice xb dn xc]) (.isl E (.own k)) [(k,.tok te.size (cn+dn))]:=by
 obtain⟨cap',hcap,hrun⟩:=run_append_grow (ty:=ty) hτ ht hu he hd hd' hgrow hbd hby (ho.run P {w with drawn:=w.drawn+1} rfl) (hn.run P {w with drawn:=w.drawn+1} rfl);have hEn:E.ncell=(cn+dn)*te.size:=by rw[bS,hE,hEs]
 have hzc:te.zero.cells.size=te.size:=hτ.zsz _ _ he;have e1:∀{arr:Array Value} {e0:TypeId},({({w with drawn:=w.drawn+1}:World)with heap:=w.heap.push (.cells arr e0)}:World).heap=w.heap.push (.cells arr e0):=rfl;generalize hzz:Builtin.zeroCells te.zero.cells (cap'-(cn+dn))=zz at hrun
 have hzs:zz.size=(cap'-(cn+dn))*te.size:=by
  rw[←hzz];simp[Builtin.zeroCells,hzc]
 have hsz:(old++new++zz).size=cap'*te.size:=by
  simp only[aiL,ho.size,hn.size,hzs,←ain];congr 1;omega
 have hle:(cn+dn)*te.size≤cap'*te.size:=ail _ hcap;generalize hw':({({w with drawn:=w.drawn+1}:World)with heap:=w.heap.push (.cells (old++new++zz) e)}:World)=w' at hrun
 have hheap:w'.heap=w.heap.push (.cells (old++new++zz) e):=by rw[←hw']
 have hbelow:Bel w w':=by
  refine .block w.heap.size (by rw[←hw']) (by rw[←hw']) (by rw[←hw']) (by rw[←hw'];simp) (fun b' hb'=>by rw[hheap,ahS,if_neg hb']) (by rw[ahQ (ahO _)];exact ni) (by rw[hheap];simp;exact fJ _ _)
 have hnew:w'.heap[w.heap.size]? =some (.cells (old++new++zz) e (0,0)):=by rw[hheap];simp
 obtain⟨S',M',K',L',hS,T⟩:=M.tokStep (k:=k) (b:=w.heap.size) (esz:=te.size) (hw':=cn+dn) hbelow (fun b' hb' _=>by rw[hheap,ahS];rw[if_neg (by omega)]) hnew (by omega) (by omega) hk
  (fun b0 hw h=>.inr (hlt b0 hw h)) (.inl (ahO _))
 refine⟨_,S',w',_,hrun,M',L',K',?_,T⟩;have hval:∀j,j<(cn+dn)*te.size→Rep S w noI (E.get j) (rdv w' w.heap.size j):=by
  intro j hj;rw[rdv,aN hnew];by_cases h:j<cn*te.size
  ·have:=ho.rep j h
   rw[ahW]at this;rw[aiY (by simp only[aiL,ho.size];omega),aiY (by rw[ho.size];omega)]
   exact this
  ·have h2:j-cn*te.size<dn*te.size:=by rw[ain]at hj;omega
   have:=hn.rep (j-cn*te.size) h2;rw[ahW,show cn*te.size+(j-cn*te.size)=j by omega]at this
   rw[aiY (by simp only[aiL,ho.size,hn.size];omega),aiZ (by rw[ho.size];omega),ho.size]
   exact this
 have:=Rep.isl (S:=S') (w:=w') (ι.sett k w.heap.size (cn+dn)) E (.own k) w.heap.size 0 cap' (by omega) (fun j hj=>by rw[aic];exact hS j (by omega))
  (fun j hj=>by rw[aic];exact(hval j (by omega)).mono K' _ (.refl _)) (fun h=>by cases h)
  (fun k' h=>by
   cases h
   exact .inr ⟨w.heap.size,cn+dn,by simp[Ix.sett],by omega,.inl ⟨rfl,rfl,fun j hj=>by
    rw[aN hnew,ahT (by rw[hsz,←hEs];exact hj)];rfl⟩⟩)
 rw[hE]at this;exact this
theorem Src.row {S:Imm} {w:World} {d:CL} {vx:Value} (h:Src S w d vx):∃ad cap vals,vx=.slice ad d.cnt cap∧Row S w d.esz d.cnt d.get (.slice ad d.cnt cap) vals:=by
 obtain⟨ad,cap,rfl,vals,h1,h2,h3⟩:=h;exact⟨ad,cap,vals,rfl,⟨by rw[h1,bS],fun j hj=>h2 j (by rw[bS];exact hj),h3⟩⟩
theorem Aq {S:Imm} {w:World} {ι:Ix} {H:Hp} (M:Mem S w ι H) {c:CL} {t:Tok} {v:Value} (h:Rep S w ι (.isl c t) v):Src S w c v:=by
 cases h with
 |islnil _ _ _ hc=>exact K9 hc
 |isl _ _ _ b off cap hc hs hh hf ho=>exact nU (fun j hj=>M.imm _ _ (hs j hj)) hh
theorem J2 {m:Nat}:∀(rs:List (List PV)),Cm m rs→∀i,i<rs.length→om (rs.getD i [])=true∧(rs.getD i []).length=m:=by
 intro rs;induction rs with
 |nil=>intro _ i hi;simp at hi
 |cons r rs ih=>
  intro h i hi;cases i with
  |zero=>have:=h.1;rw[aia]at this;exact⟨this.2,aib this.1⟩
  |succ i=>simpa using ih h.2 i (by simpa using hi)
theorem Gi {d:CL} {K:Prop} (h:Na d K):K∧∀j,j<d.ncell→one (d.get j)=true:=by
 unfold Na at h;split at h
 ·rw[aL]at h
  exact⟨h.2,fun j hj=>o7 _ h.1 j hj⟩
 ·exact⟨h,fun j _=>rfl⟩
 ·exact⟨h,fun j _=>rfl⟩
 ·exact⟨h,fun j _=>rfl⟩
 ·exact⟨h,fun j _=>rfl⟩
 ·rename_i m rs
  refine⟨h.2,fun j hj=>?_⟩;simp only[CL.ncell]at hj;have hm:0<m:=by rcases aiC m with h|h;(subst h;simp at hj);exact h
  have h1:j / m<rs.length:=by rw[aix hm];exact hj
  obtain⟨g1,g2⟩:=J2 rs h.1 _ h1;exact o7 _ g1 _ (by rw[g2];exact aiQ _ hm)
 ·exact h.elim
theorem Zd (hτ:aY P τ) {t u ty e:TypeId} {tt tu te:TE} (ht:τ t=some tt) (hu:τ u=some tu) (he:τ e=some te) (hd:tt.und=.slice e) {e':TypeId} (hd':tu.und=.slice e')
 {S:Imm} {w:World} {ι:Ix} {H:Hp} (M:Mem S w ι H) {k hw b:Nat} (hk:ay H k=some (.tok te.size hw)) (hb:ι.t k=some (b,hw)) {xb:Option Addr} {cap dn xc:Nat}
 (hfit:hw+dn≤cap) (hcells:∀j,j<cap*te.size→(rd w b j).isSome) (hpos:0<hw) {E:CL} (hE:E.cnt=hw+dn) (hEs:E.esz=te.size)
 (hold:∀j,j<hw*te.size→S b j∧Rep S w noI (E.get j) (rdv w b j)) {new:Array Value} (hone:∀j,j<dn*te.size→one (E.get (hw*te.size+j))=true)
 (hn:Row S w te.size dn (fun j=>E.get (hw*te.size+j)) (.slice xb dn xc) new):
 iE P S w ι H (Builtin.append_ #[t,u] ty #[.slice (some ⟨b,0,none⟩) hw cap,.slice xb dn xc]) (.isl E (.own k)) [(k,.tok te.size (hw+dn))]:=by
 have hEn:E.ncell=(hw+dn)*te.size:=by rw[bS,hE,hEs]
 obtain⟨_,g⟩:=M.obj k _ hk;obtain⟨b',arr,e0,g1,g2,g3⟩:=g hpos;rw[hb]at g1;cases g1
 have hsz:cap*te.size≤arr.size:=by
  rcases aiC (cap*te.size)with h|h
  ·omega
  ·have:=hcells (cap*te.size-1) (by omega)
   rw[aN g2]at this;rcases ahP (cap*te.size-1) arr.size with h1|h1
   ·omega
   ·rw[ahQ h1]at this;simp at this
 have hle:(hw+dn)*te.size≤cap*te.size:=ail _ hfit;have hadd:(hw+dn)*te.size=hw*te.size+dn*te.size:=ain _ _ _;have honeV:∀v∈new.toList,v.oneCell'=true:=by
  intro v hv;obtain⟨i,hi,rfl⟩:=ah3 hv;have hi':i<dn*te.size:=by rw[←hn.size];simpa using hi
  have:=(hn.rep i hi').oneCell (hone i hi');simpa [ahW,ahT (show i<new.size by simpa using hi)]using this
 obtain⟨w',r1,uu⟩:=eH P new.toList (o:=hw*te.size) (i:=0) g2 honeV (by simp[hn.size];omega)
 have hput:∀j,(putRow arr (hw*te.size+0) new.toList).getD j undef=if hw*te.size≤j∧j<hw*te.size+dn*te.size then new.getD (j-hw*te.size) undef else arr.getD j undef:=by
  intro j;rw[ji _ _ _ _ (by simp[hn.size];omega)]
  simp only[ahH,ais,hn.size];congr 1;simp[ahW]
 have hsz':(putRow arr (hw*te.size+0) new.toList).size=arr.size:=eT _ _ _;obtain⟨S',M',K',L',hS,T⟩:=M.tokStep (k:=k) (b:=b) (esz:=te.size) (hw':=hw+dn) uu.below (fun b' _ hb'=>uu.other b' hb') uu.here (by omega) (by omega) (.inr ⟨hw,hk⟩)
  (fun b0 hw0 h=>by rw[hb]at h;cases h;exact .inl ⟨rfl,by omega⟩) (.inr ⟨hw,arr,e0,hk,hb,g2,by omega,fun j hj=>by
   have:=hput j;rw[if_neg (by omega)]at this
   have hj1:j<arr.size:=by omega
   simp only[ahW,ahT hj1,ahT (show j<(putRow arr (hw*te.size+0) new.toList).size by omega),ah5]at this
   rw[ahT hj1,ahT (by omega),this]⟩)
 have hrun:=kJ (ty:=ty) (w':=w') hτ ht hu he hd hd' (base:=some ⟨b,0,none⟩) (sLen:=hw) (sCap:=cap) hfit (hn.run P w rfl) (by simpa [dX]using r1)
 refine⟨_,S',w',_,hrun,M',L',K',?_,T⟩;have:=Rep.isl (S:=S') (w:=w') (ι.sett k b (hw+dn)) E (.own k) b 0 cap (by omega) (fun j hj=>by rw[aic];exact hS j (by omega))
  (fun j hj=>by
   rw[aic];by_cases h:j<hw*te.size
   ·obtain⟨h1,h2⟩:=hold j h
    have:=h2.mono K' _ (.refl _);rw[rdv,(K'.imm b j h1).2];exact this
   ·have h2:j-hw*te.size<dn*te.size:=by omega
    have:=(hn.rep _ h2).mono K' _ (.refl _);rw[show hw*te.size+(j-hw*te.size)=j by omega]at this
    have h3:=hput j;rw[if_pos (by omega)]at h3
    rw[rdv,aN uu.here,←ahW,h3];exact this) (fun h=>by cases h)
  (fun k' h=>by
   cases h
   exact .inr ⟨b,hw+dn,by simp[Ix.sett],by omega,.inl ⟨rfl,rfl,fun j hj=>K'.cells _ _ (hcells j (by rw[←hEs];exact hj))⟩⟩)
 rw[hE]at this;exact this
theorem Rep.islSlice {S:Imm} {w:World} {ι:Ix} {c:CL} {t:Tok} {v:Value} (h:Rep S w ι (.isl c t) v):∃ad cap,v=.slice ad c.cnt cap:=by
 cases h with
 |islnil _ _ _ hc=>exact⟨_,0,by rw[hc]⟩
 |isl _ _ _ b off cap=>exact⟨_,_,rfl⟩
theorem Rep.islCap {S:Imm} {w:World} {ι:Ix} {c:CL} {t:Tok} {v:Value} (h:Rep S w ι (.isl c t) v):∃ad cap,v=.slice ad c.cnt cap∧c.cnt≤cap:=by
 cases h with
 |islnil _ _ _ hc=>exact⟨_,0,by rw[hc],by omega⟩
 |isl _ _ _ b off cap hc=>exact⟨_,_,rfl,hc⟩
theorem Rep.rslSlice {S:Imm} {w:World} {ι:Ix} {k off n:Nat} {v:Value} (h:Rep S w ι (.rsl k off n) v):∃ad cap,v=.slice ad n cap:=by
 cases h<;>exact⟨_,_,rfl⟩
theorem oq (hτ:aY P τ) {t u ty e:TypeId} {tt tu te:TE} (ht:τ t=some tt) (hu:τ u=some tu) (he:τ e=some te) (hd:tt.und=.slice e) {e':TypeId} (hd':tu.und=.slice e') (hby:te.bytes≤65536)
 {H:Hp} {n:Nat} {s x:PV} {K:KR} (h:nD te H n s x K):
 ∃v sets accs news,K v sets accs news∧∀{S:Imm} {w:World} {ι:Ix} {H':Hp} {vs vx:Value},Mem S w ι H'→Rep S w ι s vs→Rep S w ι x vx→(∀k∈accs,ay H' k=ay H k)→(∀k∈news,ay H' k=none)→
  iE P S w ι H' (Builtin.append_ #[t,u] ty #[vs,vx]) v sets:=by
 have nil0:∀{base:Option Addr} {sLen sCap:Nat} (w:World),sLen≤sCap→∀{xb:Option Addr} {xc:Nat},(Builtin.firstCells te.size 0 (.slice xb 0 xc)).run P w=.ok #[] w→
  (Builtin.append_ #[t,u] ty #[.slice base sLen sCap,.slice xb 0 xc]).run P w=.ok (.slice base sLen sCap) w:=by
  intro base sLen sCap w hle xb xc hf;have:=kJ (ty:=ty) (w':=w) hτ ht hu he hd hd' (base:=base) (sLen:=sLen) (sCap:=sCap) (n:=0) (xb:=xb) (xc:=xc) (by omega) hf (by cases base<;>rfl)
  simpa using this
 have row0:∀{S:Imm} {w:World} {esz:Nat} {g:Nat→PV} {vx:Value} {vals:Array Value},Row S w esz 0 g vx vals→(Builtin.firstCells esz 0 vx).run P w=.ok #[] w:=by
  intro S w esz g vx vals h;have:=h.run P w rfl;have hs:=h.size;rw[aiH]at hs;rw[Array.eq_empty_of_size_eq_zero hs]at this;exact this
 unfold nD KU at h;split at h
 ·
  split at h
  ·refine⟨_,_,_,_,h,fun M hs hx ha hn=>?_⟩
   cases hs;cases hx
   exact .same M (nil0 _ (ahO _) rfl) (.nils _)
  ·obtain⟨d,acc,h,hd0⟩:=mD h
   simp only[dZ,gM,cO,aL]at h;obtain⟨hfr,hbd,hez,hK⟩:=h;have hez:=aib hez;refine⟨_,_,_,_,hK,fun M hs hx ha hn=>?_⟩;rename_i S w ι H' vs vx;have hno:=hn n (by simp)
   have hsrc:=hd0 M ha hx;obtain⟨ad,cap,vals,rfl,hrow⟩:=hsrc.row;cases hs
   by_cases h0:d.cnt=0
   ·rw[h0]at hrow⊢
    rw[hez];rw[hez]at hrow;exact .virgin hno _ M (nil0 _ (ahO _) (row0 hrow)) (.islnil _ _ _ h0)
   ·have:=y9 (ty:=ty) hτ ht hu he hd hd' M (k:=n) (.inl hno) (base:=none) (xb:=ad) (cn:=0) (sCap:=0) (dn:=d.cnt) (xc:=cap) (fun b0 hw hh=>by rw[M.none_t hno]at hh;cases hh) (by omega) (by omega) hby
     (E:=d) (by omega) hez (old:= #[]) ⟨by simp,fun j hj=>by simp at hj,fun P w' hw=>rfl⟩ (new:=vals) (by
      rw[hez]at hrow;refine⟨hrow.size,fun j hj=>?_,hrow.run⟩;rw[aiH,aic];exact hrow.rep j hj)
    rw[aic]at this;rw[hez];exact this
 ·rename_i c tk
  split at h
  ·
   simp only[dZ,gM,aL]at h;obtain⟨hbd,hez,hK⟩:=h;refine⟨_,_,_,_,hK,fun M hs hx ha hn=>?_⟩;cases hx
   obtain⟨ad,cap,e1,hcap⟩:=hs.islCap;subst e1;exact .same M (nil0 _ hcap rfl) hs.drop
  ·have h':=mD h
   clear h;obtain⟨d,acc,h,hd0⟩:=h';split at h
   ·
    rename_i k;rw[aX]at h;obtain⟨ob,hob,h⟩:=h;split at h
    ·rename_i m hw
     simp only[dZ,gM,aL]at h;obtain⟨hhw,hm,h⟩:=h;have hm:=aib hm;obtain⟨h,hone⟩:=Gi h;obtain⟨E,h,a1,a2,a3,a4,a5⟩:=uh h;try simp only[dZ,gM,aL]at h
     obtain⟨hbd,hez,hK⟩:=h;have hez:=aib hez;refine⟨_,_,_,_,hK,fun M hs hx ha hn=>?_⟩;rename_i S w ι H' vs vx;have hobj:=(ha k (by simp)).trans hob
     have hsrc:=hd0 M (fun k' hk'=>ha k' (by simp[hk'])) hx
     obtain⟨ad,xcap,vals,rfl,hrow⟩:=hsrc.row;have hde:d.esz=te.size:=by omega
     have hce:c.esz=te.size:=by omega
     rw[hde]at hrow;have hm':m=te.size:=by omega
     subst hm';obtain⟨o1,o2⟩:=M.obj k _ hobj;have hcn:c.ncell=c.cnt*te.size:=by rw[bS,hce]
     have hdn:d.ncell=d.cnt*te.size:=by rw[bS,hde]
     have hrow':Row S w te.size d.cnt (fun j=>E.get (c.cnt*te.size+j)) (.slice ad d.cnt xcap) vals:=
      ⟨hrow.size,fun j hj=>by rw[←hcn,a5 j (by omega)];exact hrow.rep j hj,hrow.run⟩
     have hold:∀{base cap},Row S w te.size c.cnt c.get (.slice base c.cnt cap) (vals)∨True→True:=fun _=>trivial;have grow:∀{base:Option Addr} {cap:Nat},Rep S w ι (.isl c (.own k)) (.slice base c.cnt cap)→cap<c.cnt+d.cnt→0<d.cnt→
      iE P S w ι H' (Builtin.append_ #[t,u] ty #[.slice base c.cnt cap,.slice ad d.cnt xcap]) (.isl E (.own k)) [(k,.tok te.size (hw+d.cnt))]:=by
      intro base cap hr hlt hpos;obtain⟨ad2,cap2,vals2,e1,hrow2⟩:=(Aq M hr).row;cases e1
      rw[hce]at hrow2;have:=y9 (ty:=ty) hτ ht hu he hd hd' M (k:=k) (.inr ⟨hw,hobj⟩) (base:=base) (xb:=ad) (cn:=c.cnt) (sCap:=cap) (dn:=d.cnt) (xc:=xcap) (fun b0 hw0 hh=>by
       rcases aiC hw with hz|hz
       ·rw[o1 hz]at hh;cases hh
       ·obtain⟨b',arr,e0,g1,g2,g3⟩:=o2 hz
        rw[hh]at g1;cases g1;omega) hlt (by omega) hby (E:=E) a3 hez (old:=vals2)
       ⟨hrow2.size,fun j hj=>by rw[a4 j (by omega)];exact hrow2.rep j hj,hrow2.run⟩ hrow'
      rw[←hhw]at this⊢;exact this
     cases hs with
     | @islnil _ _ _ a0 hc=>
      by_cases h0:d.cnt=0
      ·rw[h0]at hrow⊢
       refine .again hobj M (nil0 _ (ahO _) (row0 hrow)) (.islnil _ _ _ (by omega))
      ·have:=grow (base:=a0) (cap:=0) (by rw[hc];exact .islnil _ _ _ hc) (by omega) (by omega)
       rw[hc]at this;exact this
     |isl _ _ _ b off cap hc hss hh hf ho=>
      have hr:=Rep.isl (S:=S) (w:=w) ι c (.own k) b off cap hc hss hh hf ho;by_cases hfit:c.cnt+d.cnt≤cap
      ·by_cases h0:d.cnt=0
       ·rw[h0]at hrow⊢
        refine .again hobj M (nil0 _ hc (row0 hrow)) ?_;have hEc:E.cnt=c.cnt:=by omega
        have hEn:E.ncell=c.ncell:=by rw[bS,bS,hEc,a1]
        have:=Rep.isl (S:=S) (w:=w) ι E (.own k) b off cap (by omega) (fun j hj=>hss j (by omega)) (fun j hj=>by rw[a4 j (by omega)];exact hh j (by omega)) (fun h=>by cases h)
         (fun k' hk'=>by rw[hEc,a1];exact ho k' hk')
        rw[hEc]at this;exact this
       ·rcases ho k rfl with hz|⟨b1,n1,g1,g2,g3⟩
        ·omega
        ·rcases aiC hw with hz|hz
         ·rw[o1 hz]at g1;cases g1
         ·obtain⟨b',arr,e0,q1,q2,q3⟩:=o2 hz
          rw[g1]at q1;cases q1
          rcases g3 with⟨rfl,rfl,g3⟩|g3
          ·subst hhw
           refine Zd (ty:=ty) hτ ht hu he hd hd' M hobj g1 hfit (fun j hj=>g3 j (by rw[hce];exact hj)) hz a3 hez (fun j hj=>?_) (fun j hj=>?_) hrow'
           ·rw[a4 j (by omega)]
            have h1:=hss j (by omega)
            have h2:=hh j (by omega)
            rw[aic]at h1 h2;exact⟨h1,h2⟩
           ·rw[←hcn,a5 j (by omega)];exact hone j (by omega)
          ·omega
      ·exact grow hr (by omega) (by omega)
    ·exact h.elim
   ·
    simp only[dZ,gM]at h;obtain⟨hor,h⟩:=h;obtain⟨E,h,a1,a2,a3,a4,a5⟩:=uh h;simp only[dZ,gM,aL,cO]at h;obtain⟨hfr,hbd,hez,hK⟩:=h;have hez:=aib hez;refine⟨_,_,_,_,hK,fun M hs hx ha hn=>?_⟩;rename_i S w ι H' vs vx;have hno:=hn n (by simp)
    have hsrc:=hd0 M ha hx;obtain⟨ad,xcap,vals,rfl,hrow⟩:=hsrc.row;have hde:d.esz=te.size:=by omega
    have hce:c.esz=te.size:=by omega
    rw[hde]at hrow;have hcn:c.ncell=c.cnt*te.size:=by rw[bS,hce]
    have hdn:d.ncell=d.cnt*te.size:=by rw[bS,hde]
    have hrow':Row S w te.size d.cnt (fun j=>E.get (c.cnt*te.size+j)) (.slice ad d.cnt xcap) vals:=
     ⟨hrow.size,fun j hj=>by rw[←hcn,a5 j (by omega)];exact hrow.rep j hj,hrow.run⟩
    have hcap:∃base,vs=.slice base c.cnt c.cnt:=by
     cases hs with
     |islnil _ _ _ hc=>exact⟨_,by rw[hc]⟩
     |isl _ _ _ b off cap hc hss hh hf ho=>exact⟨_,by rw[hf rfl]⟩
    obtain⟨base,rfl⟩:=hcap;obtain⟨ad2,cap2,vals2,e1,hrow2⟩:=(Aq M hs).row;cases e1
    rw[hce]at hrow2;rw[hez,a3];by_cases h0:d.cnt=0
    ·have hc0:c.cnt=0:=by omega
     have hE0:E.cnt=0:=by omega
     rw[h0]at hrow⊢;rw[show c.cnt+0=0 by omega]
     refine .virgin hno _ M (nil0 _ (ahO _) (row0 hrow)) ?_;have key:∀vs:Value,Rep S w ι (.isl c .full) vs→Rep S w ι (.isl E (.own n)) vs:=by
      intro vs hs;cases hs with
      |islnil _ _ _ hc=>exact .islnil _ _ _ hE0
      |isl _ _ _ b off cap hc hss hh hf ho=>
       have:=Rep.isl (S:=S) (w:=w) ι E (.own n) b off 0 (by omega) (fun j hj=>by rw[bS,hE0]at hj;omega) (fun j hj=>by rw[bS,hE0]at hj;omega) (fun h=>by cases h) (fun _ _=>.inl rfl)
       rw[hE0]at this;rw[hf rfl,hc0];exact this
     exact key _ hs
    ·exact y9 (ty:=ty) hτ ht hu he hd hd' M (k:=n) (.inl hno) (base:=base) (xb:=ad) (cn:=c.cnt) (sCap:=c.cnt) (dn:=d.cnt) (xc:=xcap) (fun b0 hw hh=>by rw[M.none_t hno]at hh;cases hh) (by omega) (by omega) hby
      (E:=E) a3 hez (old:=vals2) ⟨hrow2.size,fun j hj=>by rw[a4 j (by omega)];exact hrow2.rep j hj,hrow2.run⟩ hrow'
   ·exact h.elim
 ·exact h.elim
variable {P:Program} {r:Option Nat} {τ:TypeId→Option TE}
abbrev dead:AO:=.cells (.pv []) true
theorem Mem.cells_t {S:Imm} {w:World} {ι:Ix} {H:Hp} (M:Mem S w ι H) {k:Nat} {o:AO} (h:ay H k=some o) (ho:o.isTok=false):ι.t k=none:=by
 cases et:ι.t k with
 |none=>rfl
 |some x=>obtain⟨o',g1,g2⟩:=M.liveT k x et;rw[h]at g1;cases g1;rw[ho]at g2;cases g2
theorem Mem.move {S:Imm} {w:World} {ι:Ix} {H:Hp} (M:Mem S w ι H) {k n b:Nat} {c:CL} (hk:ay H k=some (.cells c false)) (hn:ay H n=none) (hb:ι.o k=some b):
 Mem S w (ι.seto n b) (aQ (aQ H k dead) n (.cells c false))∧ι.le (ι.seto n b)∧∀p,Tr p S w ι H S w (ι.seto n b) (aQ (aQ H k dead) n (.cells c false)):=by
 have hno:=M.none_o hn;have hle:ι.le (ι.seto n b):=jG hno;have hkn:k≠n:=fun e=>by subst e;rw[hk]at hn;cases hn
 have get:∀k',ay (aQ (aQ H k dead) n (.cells c false)) k'=if k'=n then some (.cells c false)else if k'=k then some dead else ay H k':=fun k'=>by rw[bq,bq]
 have so:∀k',k'≠n→(ι.seto n b).o k'=ι.o k':=fun k' e=>by simp[Ix.seto,e]
 have sn:(ι.seto n b).o n=some b:=by simp[Ix.seto]
 have hhas:∀k' o b',k'≠n→(AO.has (ι.seto n b) k' o b'↔AO.has ι k' o b'):=by
  intro k' o b' e;have et:(ι.seto n b).t k'=ι.t k':=rfl;have ex:(ι.seto n b).x k'=ι.x k':=rfl;cases o<;>simp only[AO.has,so k' e,et,ex]
 refine⟨⟨fun k' o ho=>?_,fun k' b' h=>?_,fun k' x h=>?_,fun k1 k2 o1 o2 b' h1 h2 b1 b2=>?_,M.imm⟩,hle,fun p=>⟨.refl _,fun _ _ _=>rfl,.refl _ _,fun _ _ _ h=>.inl h,?_,fun k' _ b' h=>hle.o k' b' h,fun k' _ b' n' h=>hle.t k' b' n' h⟩⟩
 ·rw[get]at ho
  split at ho
  ·rename_i e;subst e;cases ho
   obtain⟨b0,arr,e0,g1,g2,g3,g4,g5⟩:=M.obj k _ hk;rw[hb]at g1;cases g1
   exact⟨b,arr,e0,sn,g2,g3,fun j hj=>(g4 j hj).mono (.refl _ _) _ hle,g5⟩
  ·rename_i e
   split at ho
   ·rename_i e2;subst e2;cases ho
    exact⟨b,by rw[so _ e];exact hb,fun j hj=>by simp[CL.ncell]at hj⟩
   ·exact(M.obj k' o ho).mono (.refl _ _) hle (.refl _) (fun _ _=>rfl) (fun _=>rfl) rfl (fun _ _ _ h=>h)
 ·rw[get]
  by_cases e:k'=n
  ·rw[if_pos e];exact⟨_,rfl,rfl⟩
  ·rw[if_neg e]
   rw[so _ e]at h;by_cases e2:k'=k
   ·rw[if_pos e2];exact⟨_,rfl,rfl⟩
   ·rw[if_neg e2];exact M.liveO k' b' h
 ·rw[get]
  have h:ι.t k'=some x:=h;by_cases e:k'=n
  ·subst e;have h2:ι.t k'=some x:=h;rw[M.none_t hn]at h2;cases h2
  ·rw[if_neg e]
   by_cases e2:k'=k
   ·subst e2;have h2:ι.t k'=some x:=h;rw[M.cells_t hk rfl]at h2;cases h2
   ·rw[if_neg e2];exact M.liveT k' x h
 ·rw[get]at h1 h2
  have main:∀k2 o2,k2≠n→(if k2=k then some dead else ay H k2)=some o2→AO.has (ι.seto n b) k2 o2 b→False:=by
   intro k2 o2 e h2 b2;split at h2
   ·cases h2;exact b2.elim
   ·rename_i e2
    rw[hhas _ _ _ e]at b2;exact e2 (M.dist k2 k o2 _ b h2 hk b2 hb)
  by_cases e1:k1=n
  ·subst e1
   rw[if_pos rfl]at h1;cases h1
   simp only[AO.has,sn]at b1;cases b1
   by_cases e2:k2=k1
   ·exact e2.symm
   ·rw[if_neg e2]at h2;exact(main k2 o2 e2 h2 b2).elim
  ·rw[if_neg e1]at h1
   by_cases e2:k2=n
   ·subst e2
    rw[if_pos rfl]at h2;cases h2
    simp only[AO.has,sn]at b2;cases b2
    exact(main k1 o1 e1 h1 b1).elim
   ·rw[if_neg e2]at h2
    rw[hhas _ _ _ e1]at b1;rw[hhas _ _ _ e2]at b2;split at h1
    ·cases h1;exact b1.elim
    ·split at h2
     ·cases h2;exact b2.elim
     ·exact M.dist k1 k2 o1 o2 b' h1 h2 b1 b2
 ·rintro b' ⟨k',o,h1,h2,h3⟩
  rw[get]at h1;split at h1
  ·rename_i e;subst e;cases h1
   simp only[AO.has,sn]at h3;cases h3
   exact .inl ⟨k,_,hk,rfl,hb⟩
  ·rename_i e
   rw[hhas _ _ _ e]at h3;split at h1
   ·cases h1;exact h3.elim
   ·exact .inl ⟨k',o,h1,h2,h3⟩
theorem Mem.drop {S:Imm} {w:World} {ι:Ix} {H:Hp} (M:Mem S w ι H) {k:Nat} {c:CL} (hk:ay H k=some (.cells c false)):
 Mem S w ι (aQ H k dead)∧∀p,Tr p S w ι H S w ι (aQ H k dead):=by
 obtain⟨b,arr,e,h1,h2,h3,h4,h5⟩:=M.obj k _ hk;exact M.step1 (b:=b) (.refl _) (fun _ _ _=>rfl) (.refl _ _) (fun b' j h=>.inl h) (fun j hs=>absurd hs (h5 j)) (.refl _) (fun _ _=>rfl) (fun _ _=>rfl) rfl
  (.inr ⟨_,hk,rfl,h1⟩) (fun b' h=>h.elim) (by simp[AO.isTok]) (fun _=>M.cells_t hk rfl) ⟨b,h1,fun j hj=>by simp[CL.ncell]at hj⟩
theorem Mem.new' {S:Imm} {w w':World} {ι:Ix} {H:Hp} (M:Mem S w ι H) {k:Nat} (hk:ay H k=none) {c:CL} {arr:Array Value} {e:TypeId} (hheap:w'.heap=w.heap.push (.cells arr e)) (hbelow:Bel w w')
 (hn:c.ncell≤arr.size) (hc:∀j,j<c.ncell→Rep S w ι (c.get j) (arr.getD j undef)):
 Mem S w' (ι.seto k w.heap.size) (aQ H k (.cells c false))∧Keeps S w S w'∧∀p,Tr p S w ι H S w' (ι.seto k w.heap.size) (aQ H k (.cells c false)):=by
 have ho:=M.none_o hk;have old:∀b',b'<w.heap.size→w'.heap[b']? =w.heap[b']? :=fun b' hb'=>by rw[hheap,ahS,if_neg (by omega)]
 have hkeep:Keeps S w S w':=by
  have:∀b j,(rd w b j).isSome→rd w' b j=rd w b j:=fun b j h=>dh (old b (eY h)) j;exact⟨fun b j h=>⟨h,this b j (M.imm b j h)⟩,fun b j h=>by rw[this b j h];exact h⟩
 have hnoS:∀j,¬S w.heap.size j:=fun j hs=>by have:=eY (M.imm _ _ hs);omega
 have:=M.step (b:=w.heap.size) (w':=w') (S':=S) (k:=k) (o':=.cells c false) (ι':=ι.seto k w.heap.size) hbelow (fun b' hb' _=>old b' hb') hkeep (fun b' j h=>.inl h) (fun j h=>absurd h (hnoS j))
  (jG ho) (fun k' h=>by simp[Ix.seto,h]) (fun _ _=>rfl) rfl (.inl (ahO _)) (fun b'=>by simp[AO.has,Ix.seto,eq_comm]) (by simp[AO.isTok]) (fun _=>M.none_t hk)
  ⟨w.heap.size,arr,e,by simp[Ix.seto],by rw[hheap];simp,hn,fun j hj=>(hc j hj).mono hkeep _ (jG ho),hnoS⟩
 exact⟨this.1,hkeep,this.2⟩
theorem Ei (hτ:aY P τ) {t u ty e:TypeId} {tt tu te:TE} (ht:τ t=some tt) (hu:τ u=some tu) (he:τ e=some te) (hd:tt.und=.slice e) {e':TypeId} (hd':tu.und=.slice e')
 {S:Imm} {w:World} {ι:Ix} {H:Hp} (M:Mem S w ι H) {n:Nat} (hno:ay H n=none) {base xb:Option Addr} {cn sCap dn xc:Nat}
 (hgrow:sCap<cn+dn) (hbd:cn+dn≤1073741824) (hby:te.bytes≤65536) (h1:te.size=1) {E:CL} (hE:E.cnt=cn+dn) (hEs:E.esz=1)
 {old new:Array Value} (ho:Row S w te.size cn E.get (.slice base cn sCap) old) (hn:Row S w te.size dn (fun j=>E.get (cn*te.size+j)) (.slice xb dn xc) new):
 iE P S w ι H (Builtin.append_ #[t,u] ty #[.slice base cn sCap,.slice xb dn xc]) (.rsl n 0 (cn+dn)) [(n,.cells E false)]:=by
 obtain⟨cap',hcap,hrun⟩:=run_append_grow (ty:=ty) hτ ht hu he hd hd' hgrow hbd hby (ho.run P {w with drawn:=w.drawn+1} rfl) (hn.run P {w with drawn:=w.drawn+1} rfl);have hEn:E.ncell=cn+dn:=by rw[bS,hE,hEs,aip]
 have hzc:te.zero.cells.size=te.size:=hτ.zsz _ _ he;generalize hzz:Builtin.zeroCells te.zero.cells (cap'-(cn+dn))=zz at hrun
 have hzs:zz.size=cap'-(cn+dn):=by
  rw[←hzz];simp[Builtin.zeroCells,hzc,h1]
 have os:=ho.size;have ns:=hn.size;rw[h1,aip]at os ns;have hsz:(old++new++zz).size=cap':=by
  simp only[aiL,os,ns,hzs];omega
 generalize hw':({({w with drawn:=w.drawn+1}:World)with heap:=w.heap.push (.cells (old++new++zz) e)}:World)=w' at hrun
 have hheap:w'.heap=w.heap.push (.cells (old++new++zz) e):=by rw[←hw']
 have hbelow:Bel w w':=by
  refine .block w.heap.size (by rw[←hw']) (by rw[←hw']) (by rw[←hw']) (by rw[←hw'];simp) (fun b' hb'=>by rw[hheap,ahS,if_neg hb']) (by rw[ahQ (ahO _)];exact ni) (by rw[hheap];simp;exact fJ _ _)
 obtain⟨M',K',T⟩:=M.new' hno (c:=E) hheap hbelow (by omega) (fun j hj=>by
  rw[hEn]at hj;by_cases h:j<cn
  ·have:=ho.rep j (by rw[h1];omega)
   rw[ahW]at this⊢;rw[aiY (by simp only[aiL,os];omega),aiY (by omega)]
   exact this.up ι
  ·have:=hn.rep (j-cn) (by rw[h1];omega)
   rw[h1,aip,ahW,show cn+(j-cn)=j by omega]at this
   rw[ahW,aiY (by simp only[aiL,os,ns];omega),aiZ (by omega),os]
   exact this.up ι)
 refine⟨_,S,w',_,hrun,M',jG (M.none_o hno),K',?_,T⟩;exact .rsl _ _ _ _ _ _ (by simp[Ix.seto]) hcap (fun _ j hj=>by
  rw[aN (arr:=old++new++zz) (e:=e) (f:=(0,0)) (by rw[hheap];simp),ahT (by rw[hsz];exact hj)];rfl)
theorem Ar (hτ:aY P τ) {t u ty e:TypeId} {tt tu te:TE} (ht:τ t=some tt) (hu:τ u=some tu) (he:τ e=some te) (hd:tt.und=.slice e) {e':TypeId} (hd':tu.und=.slice e') (hby:te.bytes≤65536)
 {H:Hp} {n:Nat} {x:PV} {K:KR} (h:xM te H n x K) {s0:PV} (hs0:s0=.nils∨∃c,s0=.isl c .full∧c.cnt=0):
 ∃v sets accs news,K v sets accs news∧∀{S:Imm} {w:World} {ι:Ix} {H':Hp} {vs vx:Value},Mem S w ι H'→Rep S w ι s0 vs→Rep S w ι x vx→(∀k∈accs,ay H' k=ay H k)→(∀k∈news,ay H' k=none)→
  iE P S w ι H' (Builtin.append_ #[t,u] ty #[vs,vx]) v sets:=by
 unfold xM at h;obtain⟨d,acc,h,hd0⟩:=mD h;simp only[dZ,gM,cO,aL,aia]at h;obtain⟨⟨hpos,hbd⟩,⟨e1,e2⟩,hfr,hK⟩:=h;have e1:=aib e1;have e2:=aib e2;refine⟨_,_,_,_,hK,fun{S w ι H' vs vx} M hs hx ha hn=>?_⟩;have hno:=hn n (by simp)
 have hsrc:=hd0 M ha hx;obtain⟨ad,cap,vals,rfl,hrow⟩:=hsrc.row;obtain⟨base,rfl,hfc⟩:∃base,vs=.slice base 0 0∧∀(P':Program) w',(Builtin.firstCells te.size 0 (.slice base 0 0)).run P' w'=.ok #[] w':=by
  rcases hs0 with rfl|⟨c,rfl,hc⟩
  ·cases hs;exact⟨_,rfl,fun _ _=>rfl⟩
  ·cases hs with
   |islnil=>exact⟨_,rfl,fun _ _=>mY⟩
   |isl _ _ _ b off cap hcc hs h hf ho=>
    rw[hf rfl,hc];refine⟨_,rfl,fun P' w'=>?_⟩;have:=fE (P:=P') (w:=w') (b:=b) (off:=off) (n:=0) (size:=te.size) (len:=0) (cap:=0) (fun j hj=>by omega)
    simpa using this
 have h1:te.size=1:=by omega
 have:=Ei (ty:=ty) hτ ht hu he hd hd' M (n:=n) hno (base:=base) (xb:=ad) (cn:=0) (sCap:=0) (dn:=d.cnt) (xc:=cap) (by omega) (by omega) hby h1
  (E:=d) (by omega) e2 (old:= #[]) ⟨by simp,fun j hj=>by simp at hj,fun P' w' hw=>hfc P' w'⟩ (new:=vals) (by
   rw[e1]at hrow;refine⟨hrow.size,fun j hj=>?_,hrow.run⟩;rw[aiH,aic];exact hrow.rep j hj)
 rw[aic]at this;exact this
theorem Ny (hτ:aY P τ) {t u ty e:TypeId} {tt tu te:TE} (ht:τ t=some tt) (hu:τ u=some tu) (he:τ e=some te) (hd:tt.und=.slice e) {e':TypeId} (hd':tu.und=.slice e') (hby:te.bytes≤65536)
 {H:Hp} {n k off m:Nat} {x:PV} {K:KR} (h:Cn te H n k off m x K):
 ∃v sets accs news,K v sets accs news∧∀{S:Imm} {w:World} {ι:Ix} {H':Hp} {vs vx:Value},Mem S w ι H'→Rep S w ι (.rsl k off m) vs→Rep S w ι x vx→(∀k∈accs,ay H' k=ay H k)→(∀k∈news,ay H' k=none)→
  iE P S w ι H' (Builtin.append_ #[t,u] ty #[vs,vx]) v sets:=by
 unfold Cn at h;obtain⟨c,acc,hA,hc0⟩:=mD h;clear h;obtain⟨d,acc',hB,hd0⟩:=mD hA;clear hA;rw[aX]at hB;obtain⟨ob,hob,hC⟩:=hB;split at hC
 ·rename_i c1
  simp only[dZ,gM,aL,aia]at hC;obtain⟨⟨hpos,hbd⟩,⟨⟨e0,e1⟩,e2⟩,hD⟩:=hC;have e0:=aib e0;have e1:=aib e1;have e2:=aib e2;subst e0;obtain⟨hE,hone⟩:=Gi hD;obtain⟨E,hF,a1,a2,a3,a4,a5⟩:=uh hE;rw[cO]at hF;obtain⟨hfr,hK⟩:=hF;refine⟨_,_,_,_,hK,fun M hs hx ha hn=>?_⟩;rename_i S w ι H' vs vx;have hno:=hn n (by simp)
  have hobj:=(ha k (by simp)).trans hob
  have hsrc:=hd0 M (fun k' hk'=>ha k' (by simp[hk'])) hx
  obtain⟨ad,xcap,vals,rfl,hrow⟩:=hsrc.row;have hsrc2:=hc0 M (fun k' hk'=>ha k' (by simp[hk'])) hs
  obtain⟨ad2,cap,vals2,e3,hrow2⟩:=hsrc2.row;have h1:te.size=1:=by omega
  have hcm:c.cnt=m:=by
   obtain⟨ad',cap',e5⟩:=hs.rslSlice;rw[e3]at e5;cases e5;rfl
  have hcn:c.ncell=m:=by rw[bS,e2,aip,hcm]
  have hdn:d.ncell=d.cnt:=by rw[bS,a2,e2,aip]
  have hEn:E.ncell=m+d.cnt:=by rw[bS,a3,a1,e2,aip,hcm]
  have hkn:n≠k:=fun e=>by subst e;rw[hobj]at hno;cases hno
  rw[a2,e2]at hrow;rw[e2]at hrow2;subst e3;rw[hcm]at hs hrow2⊢;have rowD:Row S w te.size d.cnt (fun j=>E.get (m*te.size+j)) (.slice ad d.cnt xcap) vals:=
   ⟨by rw[h1];exact hrow.size,fun j hj=>by rw[h1]at hj;rw[h1,aip,←hcn,a5 j (by omega)];exact hrow.rep j hj,by rw[h1];exact hrow.run⟩
  have rowC:Row S w te.size m E.get (.slice ad2 m cap) vals2:=
   ⟨by rw[h1];exact hrow2.size,fun j hj=>by rw[h1]at hj;rw[a4 j (by omega)];exact hrow2.rep j hj,by rw[h1];exact hrow2.run⟩
  by_cases hfit:m+d.cnt≤cap
  ·
   have hin:∃b,ad2=some ⟨b,0,none⟩∧ι.o k=some b∧∀j,j<cap→(rd w b j).isSome:=by
    cases hs with
    |rsl _ _ _ _ b cap hk hc hr=>exact⟨b,rfl,hk,hr rfl⟩
    |rslz _ _ _ b o hk=>omega
   obtain⟨b,rfl,hkb,hrd⟩:=hin;obtain⟨M1,L1,T1⟩:=M.move hobj hno hkb;have hob1:ay (aQ (aQ H' k dead) n (.cells c1 false)) n=some (.cells c1 false):=by rw[bq];simp
   have hb1:(ι.seto n b).o n=some b:=by simp[Ix.seto]
   obtain⟨b',arr,e4,g1,g2,g3,g4,g5⟩:=M.obj k _ hobj;rw[hkb]at g1;cases g1
   have hcap:cap≤arr.size:=by
    have:=hrd (cap-1) (by omega)
    rw[aN g2]at this;rcases ahP (cap-1) arr.size with h1|h1
    ·omega
    ·rw[ahQ h1]at this;simp at this
   have vs:=hrow.size;rw[aip]at vs;have honeV:∀v∈vals.toList,v.oneCell'=true:=by
    intro v hv;obtain⟨i,hi,rfl⟩:=ah3 hv;have hi':i<d.cnt:=by rw[←vs];simpa using hi
    have:=(hrow.rep i (by omega)).oneCell (hone i (by omega))
    simpa [ahW,ahT (show i<vals.size by simpa using hi)]using this
   obtain⟨w',r1,uu⟩:=eH P vals.toList (o:=m) (i:=0) g2 honeV (by simp[vs];omega)
   have hput:∀j,(putRow arr (m+0) vals.toList).getD j undef=if m≤j∧j<m+d.cnt then vals.getD (j-m) undef else arr.getD j undef:=by
    intro j;rw[ji _ _ _ _ (by simp[vs];omega)]
    simp only[ahH,ais,vs];congr 1;simp[ahW]
   have hsz':(putRow arr (m+0) vals.toList).size=arr.size:=eT _ _ _;have hrun:=kJ (ty:=ty) (w':=w') hτ ht hu he hd hd' (base:=some ⟨b,0,none⟩) (sLen:=m) (sCap:=cap) hfit (rowD.run P w rfl) (by rw[h1];simpa [dX]using r1)
   have old:∀j,j<m→Rep S w noI (E.get j) (arr.getD j undef):=by
    intro j hj;have hr2:=rowC.rep j (by rw[h1];omega)
    have hh:=rowC.run P w rfl;rw[h1,fE (P:=P) (w:=w) (b:=b) (off:=0) (n:=m) (size:=1) (len:=m) (cap:=cap) (fun j hj=>by rw[aic];exact hrd j (by omega))]at hh
    cases hh
    rw[ahW]at hr2⊢;simp only[aip,aiR,aiO,ai0 hj,ahV,ah5,aic]at hr2;rw[rdv,aN g2]at hr2;exact hr2
   obtain⟨M2,T2⟩:=M1.write (c':=E) hob1 hb1 g2 uu (by omega) (by omega) (fun j hj=>by
    rw[hput];by_cases hj':j<m
    ·rw[if_neg (by omega)];exact(old j hj').up _
    ·rw[if_pos (by omega)]
     have:=rowD.rep (j-m) (by rw[h1];omega)
     rw[h1,aip,show m+(j-m)=j by omega]at this
     exact this.up _)
   have hg:∀k',ay (aQ (aQ (aQ H' k dead) n (.cells c1 false)) n (.cells E false)) k'=ay (aQ (aQ H' k dead) n (.cells E false)) k':=fun k'=>by
    simp only[bq];split<;>rfl
   have hK2:Keeps S w S w':=(T2 0).keeps;refine⟨_,S,w',_,hrun,M2.congr hg,L1,hK2,?_,fun p=>((T1 p).trans (T2 p)).congr' hg⟩;exact .rsl _ _ _ _ _ _ hb1 hfit (fun _ j hj=>hK2.cells _ _ (hrd j hj))
  ·obtain⟨M1,T1⟩:=M.drop hobj
   have hno1:ay (aQ H' k dead) n=none:=by rw[bq,if_neg hkn];exact hno
   obtain⟨val,S',w',ι',r1,M2,L2,K2,R2,T2⟩:=Ei (ty:=ty) hτ ht hu he hd hd' M1 (n:=n) hno1 (base:=ad2) (xb:=ad) (cn:=m) (sCap:=cap) (dn:=d.cnt) (xc:=xcap) (by omega) hbd hby h1
    (E:=E) (by omega) (by omega) rowC rowD
   exact⟨val,S',w',ι',r1,M2,L2,K2,R2,fun p=>(T1 p).trans (T2 p)⟩
 ·exact hC.elim
theorem Nz (hτ:aY P τ) {t u ty e:TypeId} {tt tu te:TE} (ht:τ t=some tt) (hu:τ u=some tu) (he:τ e=some te) (hd:tt.und=.slice e) {e':TypeId} (hd':tu.und=.slice e') (hby:te.bytes≤65536)
 {H:Hp} {n:Nat} {mu:Bool} {s x:PV} {K:KR} (h:Co mu te H n s x K):
 ∃v sets accs news,K v sets accs news∧∀{S:Imm} {w:World} {ι:Ix} {H':Hp} {vs vx:Value},Mem S w ι H'→Rep S w ι s vs→Rep S w ι x vx→(∀k∈accs,ay H' k=ay H k)→(∀k∈news,ay H' k=none)→
  iE P S w ι H' (Builtin.append_ #[t,u] ty #[vs,vx]) v sets:=by
 unfold Co at h;split at h
 ·exact Ny hτ ht hu he hd hd' hby h
 ·split at h
  ·exact Ar hτ ht hu he hd hd' hby h (.inl rfl)
  ·exact oq hτ ht hu he hd hd' hby h
 ·split at h
  ·split at h
   ·rw[dZ]at h
    split at h
    ·rename_i c hc
     exact Ar hτ ht hu he hd hd' hby h (.inr ⟨_,rfl,aib hc⟩)
    ·exact oq hτ ht hu he hd hd' hby h
   ·exact oq hτ ht hu he hd hd' hby h
  ·exact oq hτ ht hu he hd hd' hby h
 ·exact oq hτ ht hu he hd hd' hby h
theorem Gj {H:Hp} {x:PV} {d r q:Nat} {rc:RC} (h:F5 H x=some (d,r,q,rc)):x=.rsl d 0 r∧ay H d=some (.pmat q rc):=by
 unfold F5 at h;split at h
 ·split at h
  ·split at h
   ·rename_i o ho
    split at h
    ·cases h;exact⟨rfl,ho⟩
    ·cases h
   ·cases h
  ·cases h
 ·cases h
theorem J3 {a b:RC} {m:Nat} {K:RC→Prop} (h:Nb a m b K):∃c,K c∧a.kin b∧c.kin a∧∀i,c.at i=if i<m then a.at i else b.at (i-m):=by
 unfold Nb at h;split at h
 ·split at h
  ·rw[aL]at h
   have e:=of_decide_eq_true h.1;subst e;exact⟨_,h.2,rfl,rfl,fun i=>by simp only[RC.at];split<;>rfl⟩
  ·exact h.elim
 ·split at h
  ·rw[aL]at h
   have e:=aib h.1;subst e;exact⟨_,h.2,rfl,rfl,fun i=>by simp only[RC.at];split<;>rfl⟩
  ·exact h.elim
theorem za {S:Imm} {w:World} {ι:Ix} {H:Hp} (M:Mem S w ι H) {d r b:Nat} {rc:RC} (hd:ay H d=some (.pmat r rc)) (hb:ι.o d=some b):
 ∃arr e,w.heap[b]? =some (.cells arr e (0,0))∧r≤arr.size∧∀i,i<r→∃a n cap,rd w b i=some (.slice a n cap):=by
 obtain⟨all,l,rc',⟨b0,arr,e,p1,p2,p3,p4,p5,p6,p7,p8⟩,pk,pl,pn,pall,pa⟩:=M.obj d _ hd;rw[hb]at p1;cases p1
 refine⟨arr,e,p2,by omega,fun i hi=>?_⟩
 obtain⟨g1,cap,g2,g3⟩:=p8 i (by omega)
 have e2:rd w b i=some (.slice (some ⟨l.getD i 0,0,none⟩) (rc'.at (l.getD i 0)).cnt cap):=by
  rw[aN p2,ahT (by omega),←g3,ahW,ahT (by omega)];rfl
 exact⟨_,_,_,e2⟩
theorem uj (hτ:aY P τ) {e:TypeId} {te:TE} (he:τ e=some te) (h1:te.size=1) (n:Nat):(Builtin.zeroCells te.zero.cells n).size=n:=by
 have:=hτ.zsz _ _ he;simp[Builtin.zeroCells,this,h1]
theorem NA (hτ:aY P τ) {t u ty e:TypeId} {tt tu te:TE} (ht:τ t=some tt) (hu:τ u=some tu) (he:τ e=some te) (hd:tt.und=.slice e) {e':TypeId} (hd':tu.und=.slice e') (hby:te.bytes≤65536)
 {H:Hp} {n:Nat} {mu:Bool} {s x:PV} {K:KR} (h:Cq mu te H n s x K):
 ∃v sets accs news,K v sets accs news∧∀{S:Imm} {w:World} {ι:Ix} {H':Hp} {vs vx:Value},Mem S w ι H'→Rep S w ι s vs→Rep S w ι x vx→(∀k∈accs,ay H' k=ay H k)→(∀k∈news,ay H' k=none)→
  iE P S w ι H' (Builtin.append_ #[t,u] ty #[vs,vx]) v sets:=by
 unfold Cq at h;split at h
 ·rename_i d r q rc hsrc
  obtain⟨rfl,hdq⟩:=Gj hsrc;have src:∀{S:Imm} {w:World} {ι:Ix} {H':Hp} {vx:Value},Mem S w ι H'→ay H' d=some (.pmat r rc)→0<r→Rep S w ι (.rsl d 0 r) vx→∃bd xc,vx=.slice (some ⟨bd,0,none⟩) r xc∧ι.o d=some bd∧
   (∀j,j<r*1→(rd w bd (0+j)).isSome)∧∀i,i<r→∃a n cap,rd w bd i=some (.slice a n cap):=by
   intro S w ι H' vx M hg hr0 hx;cases hx with
   |rslz=>omega
   |rsl _ _ _ _ b cap hk hc hr=>
    obtain⟨arr,e1,q1,q2,q3⟩:=za M hg hk;exact⟨b,cap,rfl,hk,fun j hj=>by obtain⟨a,n,c,h⟩:=q3 (0+j) (by omega);rw[h];rfl,q3⟩
  unfold KV at h;split at h
  ·rw[aL,cO]at h
   obtain⟨⟨hrq,hr0,hbd⟩,h1,hfr,hK⟩:=h;have h1:=aib h1;subst hrq;refine⟨_,_,_,_,hK,fun M hs hx ha hn=>?_⟩;rename_i S w ι H' vs vx;have hno:=hn n (by simp)
   have hg:=(ha d (by simp)).trans hdq
   obtain⟨bd,xc,rfl,hbdk,hsome,hsl⟩:=src M hg hr0 hx;cases hs
   obtain⟨cap',hcap,hrun⟩:=run_append_grow (ty:=ty) hτ ht hu he hd hd' (w:=w) (base:=none) (sLen:=0) (sCap:=0) (n:=r) (xb:=some ⟨bd,0,none⟩) (xc:=xc) (by omega) (by omega) hby
    (old:= #[]) (by simp[Builtin.firstCells]) (by rw[h1];exact fE (P:=P) (w:={w with drawn:=w.drawn+1}) (b:=bd) (off:=0) (n:=r) (size:=1) (len:=r) (cap:=xc) hsome)
   generalize hzz:Builtin.zeroCells te.zero.cells (cap'-(0+r))=zz at hrun
   have hzs:zz.size=cap'-r:=by rw[←hzz,uj hτ he h1];omega
   generalize hnw:(((ahX (r*1)).map fun j=>rdv {w with drawn:=w.drawn+1} bd (0+j)).toArray)=nw at hrun
   have hns:nw.size=r:=by rw[←hnw];simp
   generalize hw':({({w with drawn:=w.drawn+1}:World)with heap:=w.heap.push (.cells (#[]++nw++zz) e)}:World)=w' at hrun
   have hheap:w'.heap=w.heap.push (.cells (#[]++nw++zz) e):=by rw[←hw']
   have hbelow:Bel w w':=by
    refine .block w.heap.size (by rw[←hw']) (by rw[←hw']) (by rw[←hw']) (by rw[←hw'];simp) (fun b' hb'=>by rw[hheap,ahS,if_neg hb']) (by rw[ahQ (ahO _)];exact ni) (by rw[hheap];simp;exact fJ _ _)
   have hat:w'.heap[w.heap.size]? =some (.cells (#[]++nw++zz) e (0,0)):=by rw[hheap];simp
   have hasz:(#[]++nw++zz).size=cap':=by simp[hns,hzs];omega
   obtain⟨X,M',le,K',T⟩:=M.matNew hg hno hbdk hbelow hat (fun b hb=>by rw[hheap,ahS,if_neg (by omega)]) (by omega) (fun i hi=>by
    obtain⟨a,n2,c2,hrd⟩:=hsl i hi;rw[ahW,aiY (by simp[hns];exact hi),ai1,←hnw]
    simp only[aiR,aiO];rw[ai0 (by omega)]
    simp only[ahV,ah5,aic];show some (rdv w bd i)=_;rw[rdv,hrd];rfl)
   have hio:(ι.setm n w.heap.size X).o n=some w.heap.size:=by simp[Ix.setm]
   rw[aic]at hrun hcap;exact⟨_,S,w',_,hrun,M',le,K',.rsl _ _ _ _ _ _ hio hcap (fun _ j hj=>by rw[aN hat,ahT (by omega)];rfl),T⟩
  ·rename_i k off m
   rw[aX]at h;obtain⟨ob,hob,h⟩:=h;split at h
   ·rename_i m' rc0
    rw[aL]at h;simp only[aia,Bool.not_eq_true']at h;obtain⟨⟨rfl,hrq,hr0,hbd⟩,⟨⟨h1,e0⟩,hkd⟩,h⟩:=h;have h1:=aib h1;have e0:=aib e0;subst hrq;subst e0;have hkd:k≠d:=fun e=>by subst e;simp at hkd
    obtain⟨rc2,h,hkin,hkin2,hrc2⟩:=J3 h;rw[cO]at h;refine⟨_,_,_,_,h.2,fun M hs hx ha hn=>?_⟩;rename_i S w ι H' vs vx;have hno:=hn n (by simp)
    have hg:=(ha d (by simp)).trans hdq
    have hgk:=(ha k (by simp)).trans hob
    obtain⟨bd,xc,rfl,hbdk,hsome,hsl⟩:=src M hg hr0 hx;have hk0:∃b o cap,vs=.slice (some ⟨b,o,none⟩) m cap∧ι.o k=some b∧(m+r≤cap→o=0∧∀j,j<cap→(rd w b j).isSome)∧∀j,j<m*1→(rd w b (o+j)).isSome:=by
     cases hs with
     |rslz _ _ _ b o hk=>exact⟨b,o,0,rfl,hk,fun h=>by omega,fun j hj=>by omega⟩
     |rsl _ _ _ _ b cap hk hc hr=>
      obtain⟨arr,e1,q1,q2,q3⟩:=za M hgk hk;exact⟨b,0,cap,rfl,hk,fun _=>⟨rfl,hr rfl⟩,fun j hj=>by obtain⟨a,n,c,h⟩:=q3 (0+j) (by omega);rw[h];rfl⟩
    obtain⟨b0,o0,cap,rfl,hb0,hfitc,holds⟩:=hk0;obtain⟨arr0,e1,q1,q2,q3⟩:=za M hgk hb0;by_cases hfit:m+r≤cap
    ·obtain⟨rfl,hrd⟩:=hfitc hfit
     have hcap:cap≤arr0.size:=by
      have:=hrd (cap-1) (by omega)
      rw[aN q1]at this;rcases ahP (cap-1) arr0.size with h1|h1
      ·omega
      ·rw[ahQ h1]at this;simp at this
     generalize hnw:(((ahX (r*1)).map fun j=>rdv w bd (0+j)).toArray)=nw
     have hns:nw.size=r:=by rw[←hnw];simp
     have hnv:∀i,i<r→some (nw.getD i undef)=rd w bd i:=fun i hi=>by
      obtain⟨a,n2,c2,hrd2⟩:=hsl i hi;rw[←hnw,ahW];simp only[aiR,aiO];rw[ai0 (by omega)]
      simp only[ahV,ah5,aic];rw[rdv,hrd2];rfl
     have honeV:∀v∈nw.toList,v.oneCell'=true:=by
      intro v hv;obtain⟨i,hi,rfl⟩:=ah3 hv;have hi':i<r:=by simpa [hns]using hi
      obtain⟨a,n2,c2,hrd2⟩:=hsl i hi';have:=hnv i hi';rw[hrd2,ahW,ahT (by omega)]at this
      simp only[ah5,Option.some.injEq]at this;simp only[Array.getElem_toList];rw[this];rfl
     obtain⟨w',r1,uu⟩:=eH P nw.toList (b:=b0) (o:=m) (i:=0) q1 honeV (by simp[hns];omega)
     have hput:∀j,(putRow arr0 (m+0) nw.toList).getD j undef=if m≤j∧j<m+r then nw.getD (j-m) undef else arr0.getD j undef:=by
      intro j;rw[ji _ _ _ _ (by simp[hns];omega)]
      simp only[ahH,ais,hns];congr 1;simp[ahW]
     have hrun:=kJ (ty:=ty) (w':=w') hτ ht hu he hd hd' (base:=some ⟨b0,0,none⟩) (sLen:=m) (sCap:=cap) (n:=r) (xb:=some ⟨bd,0,none⟩) (xc:=xc) hfit (new:=nw)
      (by rw[h1,←hnw];exact fE (P:=P) (w:=w) (b:=bd) (off:=0) (n:=r) (size:=1) (len:=r) (cap:=xc) hsome) (by rw[h1];simpa [dX]using r1)
     have hsz':(putRow arr0 (m+0) nw.toList).size=arr0.size:=eT _ _ _;obtain⟨X,M',le,K',T⟩:=M.matApp (bn:=b0) hgk hg hno hkd hb0 hbdk hkin hkin2 hrc2 uu.below uu.here (fun b _ hb=>uu.other b hb) (.inr ⟨rfl,arr0,e1,q1,by omega⟩) (by omega) (fun i hi=>by
      rw[hput,if_neg (by omega),aN q1,ahW,ahT (by omega)];rfl) (fun i hi=>by
      rw[hput,if_pos (by omega),show m+i-m=i by omega];exact hnv i hi)
     have hio:(ι.setm n b0 X).o n=some b0:=by simp[Ix.setm]
     exact⟨_,S,w',_,hrun,M',le,K',.rsl _ _ _ _ _ _ hio hfit (fun _ j hj=>by rw[aN uu.here,ahT (by omega)];rfl),T⟩
    ·obtain⟨cap',hcap,hrun⟩:=run_append_grow (ty:=ty) hτ ht hu he hd hd' (w:=w) (base:=some ⟨b0,o0,none⟩) (sLen:=m) (sCap:=cap) (n:=r) (xb:=some ⟨bd,0,none⟩) (xc:=xc) (by omega) (by omega) hby
      (by rw[h1];exact fE (P:=P) (w:={w with drawn:=w.drawn+1}) (b:=b0) (off:=o0) (n:=m) (size:=1) (len:=m) (cap:=cap) holds)
      (by rw[h1];exact fE (P:=P) (w:={w with drawn:=w.drawn+1}) (b:=bd) (off:=0) (n:=r) (size:=1) (len:=r) (cap:=xc) hsome)
     generalize hzz:Builtin.zeroCells te.zero.cells (cap'-(m+r))=zz at hrun
     have hzs:zz.size=cap'-(m+r):=by rw[←hzz,uj hτ he h1]
     generalize hod:(((ahX (m*1)).map fun j=>rdv {w with drawn:=w.drawn+1} b0 (o0+j)).toArray)=od at hrun
     generalize hnw:(((ahX (r*1)).map fun j=>rdv {w with drawn:=w.drawn+1} bd (0+j)).toArray)=nw at hrun
     have hos:od.size=m:=by rw[←hod];simp
     have hns:nw.size=r:=by rw[←hnw];simp
     have ho0:∀i,i<m→o0=0:=fun i hi=>by
      cases hs with
      |rslz=>omega
      |rsl=>rfl
     generalize hw':({({w with drawn:=w.drawn+1}:World)with heap:=w.heap.push (.cells (od++nw++zz) e)}:World)=w' at hrun
     have hheap:w'.heap=w.heap.push (.cells (od++nw++zz) e):=by rw[←hw']
     have hbelow:Bel w w':=by
      refine .block w.heap.size (by rw[←hw']) (by rw[←hw']) (by rw[←hw']) (by rw[←hw'];simp) (fun b' hb'=>by rw[hheap,ahS,if_neg hb']) (by rw[ahQ (ahO _)];exact ni) (by rw[hheap];simp;exact fJ _ _)
     have hat:w'.heap[w.heap.size]? =some (.cells (od++nw++zz) e (0,0)):=by rw[hheap];simp
     have hasz:(od++nw++zz).size=cap':=by simp only[aiL,hos,hns,hzs];omega
     obtain⟨X,M',le,K',T⟩:=M.matApp (bn:=w.heap.size) hgk hg hno hkd hb0 hbdk hkin hkin2 hrc2 hbelow hat (fun b hb _=>by rw[hheap,ahS,if_neg (by omega)]) (.inl rfl) (by omega) (fun i hi=>by
      obtain⟨a,n2,c2,hrd⟩:=q3 i hi;rw[ahW,aiY (by simp only[aiL,hos];omega),aiY (by omega),←hod]
      simp only[aiR,aiO];rw[ai0 (by omega)]
      simp only[ahV,ah5,ho0 i hi,aic];show some (rdv w b0 i)=_;rw[rdv,hrd];rfl) (fun i hi=>by
      obtain⟨a,n2,c2,hrd⟩:=hsl i hi;rw[ahW,aiY (by simp only[aiL,hos,hns];omega),aiZ (by omega),hos,show m+i-m=i by omega,←hnw]
      simp only[aiR,aiO];rw[ai0 (by omega)]
      simp only[ahV,ah5,aic];show some (rdv w bd i)=_;rw[rdv,hrd];rfl)
     have hio:(ι.setm n w.heap.size X).o n=some w.heap.size:=by simp[Ix.setm]
     exact⟨_,S,w',_,hrun,M',le,K',.rsl _ _ _ _ _ _ hio hcap (fun _ j hj=>by rw[aN hat,ahT (by omega)];rfl),T⟩
   ·exact h.elim
  ·exact h.elim
 ·exact Nz hτ ht hu he hd hd' hby h
theorem Ej {z:Value} {n:Nat} {K:CL→Prop} (h:mkK z n K):z.cells= #[z]∧∃d,K d∧d.cnt=n∧d.esz=1∧∀j,j<n→∀{S:Imm} {w:World} {ι:Ix},Rep S w ι (d.get j) z:=by
 unfold mkK at h;split at h
 ·exact⟨rfl,_,h,by simp[CL.cnt],rfl,fun j hj S w ι=>by simp only[CL.get,ahZ,ai2,if_pos hj,ah5];constructor⟩
 ·exact⟨rfl,_,h,by simp[CL.cnt],rfl,fun j hj S w ι=>by simp only[CL.get,ahZ,ai2,if_pos hj,ah5];constructor⟩
 ·exact⟨rfl,_,h,by simp[CL.cnt],rfl,fun j hj S w ι=>by simp only[CL.get,ahZ,ai2,if_pos hj,ah5];constructor⟩
 ·exact⟨rfl,_,h,by simp[CL.cnt],rfl,fun j hj S w ι=>by simp only[CL.get,ahZ,ai2,if_pos hj,ah5];exact .islnil _ _ _ rfl⟩
 ·exact h.elim
theorem NC (hτ:aY P τ) {t u ty e:TypeId} {tt tu te:TE} (ht:τ t=some tt) (hu:τ u=some tu) (he:τ e=some te) (hd:tt.und=.slice e) {q:IntKind} (hd':tu.und=.int q)
 {H:Hp} {n:Nat} {s x:PV} {K:KR} (h:Cr te H n s x K):
 ∃v sets accs news,K v sets accs news∧∀{S:Imm} {w:World} {ι:Ix} {H':Hp} {vs vx:Value},Mem S w ι H'→Rep S w ι s vs→Rep S w ι x vx→(∀k∈accs,ay H' k=ay H k)→(∀k∈news,ay H' k=none)→
  iE P S w ι H' (Builtin.append_ #[t,u] ty #[vs,vx]) v sets:=by
 unfold Cr at h;split at h
 ·split at h
  ·rename_i m
   simp only[cO,aL,aia]at h;obtain⟨hm,⟨e1,e2⟩,hfr,h⟩:=h;have e1:=aib e1;have e2:=aio e2;obtain⟨zc,d,hK,d1,d2,d3⟩:=Ej h;refine⟨_,_,_,_,hK,fun{S w ι H'} {vs vx} M hs hx ha hn=>?_⟩;have hno:=hn n (by simp)
   cases hs
   cases hx
   obtain⟨m',rfl⟩:∃m':Nat,m=m':=⟨m.toNat,by omega⟩
   simp only[aiV]at d1 d3⊢;obtain⟨cap',hcap,hrun⟩:=Ap (P:=P) (ty:=ty) (w:=w) hτ ht hu he hd hd' (n:=m') (by omega) e2 e1
   have hEn:d.ncell=m':=by rw[bS,d1,d2,aip]
   have hzs:∀j,(Builtin.zeroCells te.zero.cells j).size=j:=uj hτ he e1;generalize hzz:Builtin.zeroCells te.zero.cells (cap'-m')=zz at hrun
   have hzl:zz.size=cap'-m':=by rw[←hzz];exact hzs _
   have hsz:(#[]++Builtin.zeroCells te.zero.cells m'++zz).size=cap':=by
    simp only[aiL,hzs,hzl];simp;omega
   generalize hw':({({w with drawn:=w.drawn+1}:World)with heap:=w.heap.push (.cells (#[]++Builtin.zeroCells te.zero.cells m'++zz) e)}:World)=w' at hrun
   have hheap:w'.heap=w.heap.push (.cells (#[]++Builtin.zeroCells te.zero.cells m'++zz) e):=by rw[←hw']
   have hbelow:Bel w w':=by
    refine .block w.heap.size (by rw[←hw']) (by rw[←hw']) (by rw[←hw']) (by rw[←hw'];simp) (fun b' hb'=>by rw[hheap,ahS,if_neg hb']) (by rw[ahQ (ahO _)];exact ni) (by rw[hheap];simp;exact fJ _ _)
   obtain⟨M',K',T⟩:=M.new' hno (c:=d) hheap hbelow (by omega) (fun j hj=>by
    rw[hEn]at hj;have hg:(#[]++Builtin.zeroCells te.zero.cells m'++zz).getD j undef=te.zero:=by
     rw[ahW,aiY (by simp only[aiL,hzs];simp;exact hj),ai1]
     unfold Builtin.zeroCells;rw[aiN,zc];simp[hj];rw[ai3];rfl
    rw[hg];exact d3 j hj)
   refine⟨_,S,w',_,hrun,M',jG (M.none_o hno),K',?_,T⟩;exact .rsl _ _ _ _ _ _ (by simp[Ix.seto]) hcap (fun _ j hj=>by
    rw[aN (arr:= #[]++Builtin.zeroCells te.zero.cells m'++zz) (e:=e) (f:=(0,0)) (by rw[hheap];simp),ahT (by rw[hsz];exact hj)];rfl)
  ·exact h.elim
 ·exact h.elim
variable {P:Program} {r:Option Nat} {τ:TypeId→Option TE}
theorem jH {o:Oper} {a:Act} {b:Builtin} {args:Array Operand} {ats:Array TypeId} (ho:o.op=.call ⟨.builtin b,args,ats⟩) {w w':World} {val:Value} {s:Sem Value}
 (hb:∀cs,builtin b ats o.type cs (args.map a.eval)=(do pure (.value (←s)):Sem Next)) (h:s.run P w=.ok val w'):(execOp a.eval o).run P w=.ok (.value val) w':=by
 simp only[execOp,ho,resolve,Sem.run_bind,Sem.run_pure,Result.andThen,invoke];rw[hb];exact dQ h
theorem vW (b:Bool):∀(r:List PV) (x:PV) {K:PV→Prop},nE 0 b x r K→∃v,K v∧∀{S:Imm} {w:World} {ι:Ix} {vx:Value} {vs:List Value},Rep S w ι x vx→vs.length=r.length→(∀i,i<r.length→Rep S w ι (aD r i) (vs.getD i undef))→
 ∃val,(vs.foldlM (if b then Builtin.max2 else Builtin.min2) vx:Sem Value).run P w=.ok val w∧Rep S w ι v val:=by
 intro r;induction r with
 |nil=>intro x K h;exact⟨x,h,fun hx hl _=>by simp at hl;subst hl;exact⟨_,rfl,hx⟩⟩
 |cons y r ih=>
  intro x K h;cases x<;>(try exact h.elim)<;>cases y<;>(try exact h.elim)
  ·rename_i k p k' q
   simp only[nE]at h;rw[aL]at h;have hk:=of_decide_eq_true h.1;subst hk;have step:∃m,nE 0 b (.int k m) r K∧∀w,((if b then Builtin.max2 else Builtin.min2) (.int k p) (.int k q):Sem Value).run P w=.ok (.int k m) w:=by
    cases b with
    |true=>
     refine⟨_,h.2,fun w=>?_⟩;simp only[if_true,Builtin.max2,Sem.run_pure];congr 2;split<;>omega
    |false=>
     refine⟨_,h.2,fun w=>?_⟩;simp only[aiF,if_false,Builtin.min2,Sem.run_pure];congr 2;split<;>omega
   obtain⟨m,hm,hrun⟩:=step;obtain⟨v,hK,hs⟩:=ih _ hm;refine⟨v,hK,fun hx hl hr=>?_⟩;rename_i S w ι vx vs;cases vs with
   |nil=>simp at hl
   |cons vy vs=>
    have hy:=hr 0 (by simp)
    simp only[aD,aiJ]at hy;cases hx;cases hy
    obtain⟨val,h1,h2⟩:=hs (S:=S) (w:=w) (ι:=ι) (.int _ _ _) (by simpa using hl) (fun i hi=>by simpa [aD]using hr (i+1) (by simpa using hi))
    refine⟨val,?_,h2⟩;rw[List.foldlM_cons,Sem.run_bind,hrun];exact h1
theorem EP (hτ:aY P τ) {md rf CP YP} {o:Oper} {ρ:Operand→PV} {H:Hp} {n:Nat} {c:Call} {b:Builtin} (ho:o.op=.call c) (hc:c.callee=.builtin b) {K:KR}
 (h:opK τ md rf CP YP ρ H n o.dst o.op K):∃v sets accs news,K v sets accs news∧bE P r o ρ H v sets accs news:=by
 obtain⟨callee,args,ats⟩:=c;simp only at hc;subst hc;rw[ho]at h;simp only[opK]at h;have hd:∀c,o.op≠ .defer c:=fun c e=>by rw[ho]at e;cases e
 have hargs:∀{S:Imm} {w:World} {ι:Ix} {a:Act},(∀x∈o.op.operands.toList,Rep S w ι (ρ x) (a.eval x))→bF S w ι (kQ ρ args.toList) (args.map a.eval):=by
  intro S w ι a hr;exact lK args (fun x hx=>hr x (by simp[ho,Op.operands,Call.operands];simpa using hx))
 unfold QI at h;split at h
 ·
  rename_i hb';split at h
  ·rename_i t hats
   rw[cB]at h;obtain⟨te,ht,h⟩:=h;have hats':ats= #[t]:=by rw[←ai4];simpa using hats
   subst hats';split at h
   ·rename_i x hx
    have one':∀{S:Imm} {w:World} {ι:Ix} {a:Act},(∀x∈o.op.operands.toList,Rep S w ι (ρ x) (a.eval x))→∃vx,args.map a.eval= #[vx]∧Rep S w ι x vx:=by
     intro S w ι a hr;obtain⟨h1,h2⟩:=hargs hr;rw[hx]at h1 h2;have h0:=h2 0 (by simp)
     refine⟨(args.map a.eval).getD 0 undef,?_,h0⟩;have hsz:(args.map a.eval).size=1:=h1.symm;apply ai5
     ·simp[hsz]
     ·intro i hi1 hi2
      have:i=0:=by omega
      subst this;simp[ahW,ahT hi1]
    have key:∀{m:Nat},K (.int .i64 m) [] [] []→(∀{S:Imm} {w:World} {ι:Ix} {vx:Value},Rep S w ι x vx→(Builtin.len_ #[t] o.type #[vx]).run P w=.ok (goInt m) w)→
     ∃v sets accs news,K v sets accs news∧bE P r o ρ H v sets accs news:=by
     intro m hK hrun;refine⟨_,_,_,_,hK,aU hd fun S w ι H' a M hr ha=>?_⟩;obtain⟨vx,e1,e2⟩:=one' hr;exact⟨_,jH ho (fun _=>rfl) (by rw[e1];exact hrun e2),.int _ _ _⟩
    split at h
    ·rename_i e hu
     have sl:∀(m:Nat) (vx:Value) (w:World),(∃ad cap,vx=.slice ad m cap)→(Builtin.len_ #[t] o.type #[vx]).run P w=.ok (goInt m) w:=by
      rintro m vx w ⟨ad,cap,rfl⟩
      simp[Builtin.len_,run_underlying (hτ.und _ _ ht),hu,Result.andThen]
     split at h
     ·rw[dZ]at h
      exact key h fun hr=>sl _ _ _ hr.islSlice
     ·exact key h fun hr=>sl _ _ _ hr.rslSlice
     ·exact key (m:=0) h fun hr=>sl _ _ _ (by cases hr;exact⟨_,_,rfl⟩)
     ·exact key h fun hr=>sl _ _ _ (by cases hr;exact⟨_,_,rfl⟩)
     ·exact h.elim
    ·rename_i hu
     split at h
     ·exact key h fun hr=>by cases hr;simp[Builtin.len_,run_underlying (hτ.und _ _ ht),hu,Result.andThen]
     ·exact h.elim
    ·rename_i m e hu
     exact key h fun hr=>by simp[Builtin.len_,run_underlying (hτ.und _ _ ht),hu,Result.andThen]
    ·exact h.elim
   ·exact h.elim
  ·exact h.elim
 ·split at h
  ·rename_i s x hx
   split at h
   ·rename_i t u hats
    have hats':ats= #[t,u]:=by rw[←ai4];simpa using hats
    subst hats';rw[cB]at h;obtain⟨tt,ht,h⟩:=h;split at h
    ·rename_i e hue
     simp only[cB]at h;obtain⟨te',he,tu,hu,h⟩:=h;split at h
     ·rename_i e' hue'
      rw[aL,aia]at h;obtain⟨⟨h1,h2⟩,h⟩:=h;obtain⟨v,sets,accs,news,hK,hs⟩:=NA (P:=P) (ty:=o.type) hτ ht hu he hue hue' (aio h2) h;refine⟨v,sets,accs,news,hK,fun S w ι H' a next Q M hr ha hn hk=>?_⟩;obtain⟨g1,g2⟩:=hargs hr;rw[hx]at g1 g2;have e1:args.map a.eval= #[(args.map a.eval).getD 0 undef,(args.map a.eval).getD 1 undef]:=by
       have hsz:(args.map a.eval).size=2:=g1.symm;apply ai5
       ·simp[hsz]
       ·intro i hi1 hi2
        have:i=0∨i=1:=by omega
        rcases this with rfl|rfl<;>simp only[ahW,ahT (show _<(args.map a.eval).size by omega)]<;>rfl
      obtain⟨val,S',w',ι',r1,M',L',K',R',T⟩:=hs M (g2 0 (by simp)) (g2 1 (by simp)) ha hn
      exact d9 hd (jH ho (fun _=>rfl) (by rw[e1];exact r1)) (hk val S' w' ι' M' L' K' R' T)
     ·rename_i k' hue'
      obtain⟨v,sets,accs,news,hK,hs⟩:=NC (P:=P) (ty:=o.type) hτ ht hu he hue hue' h;refine⟨v,sets,accs,news,hK,fun S w ι H' a next Q M hr ha hn hk=>?_⟩;obtain⟨g1,g2⟩:=hargs hr;rw[hx]at g1 g2;have e1:args.map a.eval= #[(args.map a.eval).getD 0 undef,(args.map a.eval).getD 1 undef]:=by
       have hsz:(args.map a.eval).size=2:=g1.symm;apply ai5
       ·simp[hsz]
       ·intro i hi1 hi2
        have:i=0∨i=1:=by omega
        rcases this with rfl|rfl<;>simp only[ahW,ahT (show _<(args.map a.eval).size by omega)]<;>rfl
      obtain⟨val,S',w',ι',r1,M',L',K',R',T⟩:=hs M (g2 0 (by simp)) (g2 1 (by simp)) ha hn
      exact d9 hd (jH ho (fun _=>rfl) (by rw[e1];exact r1)) (hk val S' w' ι' M' L' K' R' T)
     ·exact h.elim
    ·exact h.elim
   ·exact h.elim
  ·exact h.elim
 ·
  split at h
  ·rename_i x hx
   split at h
   ·rename_i t hats
    rw[cB]at h;obtain⟨te,ht,h⟩:=h;have hats':ats= #[t]:=by rw[←ai4];simpa using hats
    subst hats';split at h
    ·rename_i e hu
     split at h
     ·refine⟨_,_,_,_,h,aU hd fun S w ι H' a M hr ha=>?_⟩
      obtain⟨g1,g2⟩:=hargs hr;rw[hx]at g1 g2;have h0:=g2 0 (by simp)
      have hsz:(args.map a.eval).size=1:=g1.symm;have e1:args.map a.eval= #[(args.map a.eval).getD 0 undef]:=by
       apply ai5
       ·simp[hsz]
       ·intro i hi1 hi2
        have:i=0:=by omega
        subst this;simp[ahW,ahT hi1]
      simp only[aD]at h0;have h0':(args.map a.eval).getD 0 undef=.slice none 0 0:=by
       generalize(args.map a.eval).getD 0 undef=v at h0
       cases h0;rfl
      refine⟨_,jH ho (fun _=>rfl) (s:=Builtin.cap_ #[t] o.type (args.map a.eval)) (val:=goInt 0) ?_,.int _ _ _⟩;rw[e1,h0'];simp[Builtin.cap_,run_underlying (hτ.und _ _ ht),hu,Result.andThen]
     ·exact h.elim
    ·exact h.elim
   ·exact h.elim
  ·exact h.elim
 ·split at h
  ·rename_i x rr hx
   obtain⟨v,hK,hs⟩:=vW (P:=P) true _ _ h;refine⟨v,_,_,_,hK,aU hd fun S w ι H' a M hr ha=>?_⟩;obtain⟨h1,h2⟩:=hargs hr;rw[hx]at h1 h2;obtain⟨vx,vs,hvs⟩:∃vx vs,(args.map a.eval).toList=vx::vs:=by
    cases e:(args.map a.eval).toList with
    |nil=>rw[←ais,e]at h1;simp at h1
    |cons vx vs=>exact⟨vx,vs,rfl⟩
   have hget:∀i,(args.map a.eval).getD i undef=(vx::vs).getD i undef:=fun i=>by rw[←hvs];simp[ahW]
   have hlen:vs.length=rr.length:=by rw[←ais,hvs]at h1;simpa using h1.symm
   obtain⟨val,g1,g2⟩:=hs (S:=S) (w:=w) (ι:=ι) (vx:=vx) (vs:=vs) (by have:=h2 0 (by simp);rw[hget]at this;simpa [aD]using this) hlen
    (fun i hi=>by have:=h2 (i+1) (by simp;omega);rw[hget]at this;simpa [aD]using this)
   refine⟨val,jH ho (fun _=>rfl) ?_,g2⟩;simp only[Builtin.max_,hvs];exact g1
  ·exact h.elim
 ·split at h
  ·rename_i x rr hx
   obtain⟨v,hK,hs⟩:=vW (P:=P) false _ _ h;refine⟨v,_,_,_,hK,aU hd fun S w ι H' a M hr ha=>?_⟩;obtain⟨h1,h2⟩:=hargs hr;rw[hx]at h1 h2;obtain⟨vx,vs,hvs⟩:∃vx vs,(args.map a.eval).toList=vx::vs:=by
    cases e:(args.map a.eval).toList with
    |nil=>rw[←ais,e]at h1;simp at h1
    |cons vx vs=>exact⟨vx,vs,rfl⟩
   have hget:∀i,(args.map a.eval).getD i undef=(vx::vs).getD i undef:=fun i=>by rw[←hvs];simp[ahW]
   have hlen:vs.length=rr.length:=by rw[←ais,hvs]at h1;simpa using h1.symm
   obtain⟨val,g1,g2⟩:=hs (S:=S) (w:=w) (ι:=ι) (vx:=vx) (vs:=vs) (by have:=h2 0 (by simp);rw[hget]at this;simpa [aD]using this) hlen
    (fun i hi=>by have:=h2 (i+1) (by simp;omega);rw[hget]at this;simpa [aD]using this)
   refine⟨val,jH ho (fun _=>rfl) ?_,g2⟩;simp only[Builtin.min_,hvs];exact g1
  ·exact h.elim
 ·exact h.elim
variable {P:Program} {r:Option Nat} {τ:TypeId→Option TE}
def Obj.plain:Obj→Bool
 |.cells _ _ _=>false
 |_=>true
theorem iA {w:World} {b:Nat} {o:Obj} (h:w.heap[b]? =some o) (hp:Obj.plain o=true) (j:Nat):rd w b j=none:=by
 unfold rd;rw[h];cases o<;>simp_all[Obj.plain]
theorem La {ι:Ix} {k b:Nat} {o:AO} (hT:o.isTok=false) (hE:o.isExt=false) (hX:o.excl=true) (hb:ι.o k=some b) (b':Nat):o.has ι k b'↔b'=b:=by
 have e:o.has ι k b'↔ι.o k=some b':=by
  cases o with
  |cells c fz=>cases fz with
   |true=>simp[AO.excl]at hX
   |false=>exact Iff.rfl
  |_=>first|exact Iff.rfl|(simp[AO.isTok]at hT;done)|(simp[AO.isExt]at hE;done)
 rw[e,hb];exact⟨fun h=>(Option.some.inj h).symm,fun h=>by rw[h]⟩
theorem qz {ι:Ix} {k b:Nat} {o:AO} (h:o.has ι k b):o.excl=true:=by
 cases o with
 |cells c fz=>cases fz with
  |true=>exact h.elim
  |false=>rfl
 |_=>rfl
theorem ow {ι ι1:Ix} {k k1:Nat} {o o1:AO} (eo:ι1.o k1=ι.o k) (et:ι1.t k1=ι.t k) (ex:ι1.x k1=ι.x k) (hT:o1.isTok=o.isTok) (hE:o1.isExt=o.isExt) (hX:o1.excl=o.excl) (b:Nat):o1.has ι1 k1 b↔o.has ι k b:=by
 have key:∀{ι:Ix} {k:Nat} {o:AO},o.has ι k b↔(match o.isTok with|true=>∃n,ι.t k=some (b,n)|false=>match o.isExt with|true=>ι.x k b|false=>match o.excl with|true=>ι.o k=some b|false=>False):=by
  intro ι k o;cases o with
  |cells c fz=>cases fz<;>exact Iff.rfl
  |_=>exact Iff.rfl
 rw[key,key,hT,hE,hX,eo,et,ex]
theorem Gl {ι:Ix} {k b:Nat} {o:AO} (hT:o.isTok=false) (hE:o.isExt=false) (hb:ι.o k=some b) (b':Nat) (h:o.has ι k b'):b'=b:=by
 cases hX:o.excl with
 |true=>exact(La hT hE hX hb b').1 h
 |false=>cases o with
  |cells c fz=>cases fz with
   |true=>exact h.elim
   |false=>simp[AO.excl]at hX
  |_=>simp[AO.excl]at hX
theorem gH {o:Obj} (h:Obj.plain o=true):Unf (some o):=by cases o<;>first|(simp[Obj.plain]at h;done)|exact fun _=>rfl
theorem Mem.putObj {S:Imm} {w w':World} {ι:Ix} {H:Hp} (M:Mem S w ι H) {k b:Nat} {o o':AO} {x y:Obj} (ho:ay H k=some o) (hx:o.excl=true) (hoT:o.isTok=false) (hoT':o'.isTok=false) (hoE:o.isExt=false) (hoE':o'.isExt=false)
 (hb:ι.o k=some b) (hw:w.heap[b]? =some x) (hpx:Obj.plain x=true) (hpy:Obj.plain y=true) (below:Bel w w') (here:w'.heap[b]? =some y) (other:∀b',b'≠b→w'.heap[b']? =w.heap[b']?)
 (hobj:∀S',Keeps S w S' w'→gP S' w' ι k o'):Mem S w' ι (aQ H k o')∧Keeps S w S w'∧∀p,Tr p S w ι H S w' ι (aQ H k o'):=by
 have hbl:o.has ι k b:=(La hoT hoE hx hb b).2 rfl;have hbl':∀b',o'.has ι k b'→b'=b:=Gl hoT' hoE' hb;have hnS:∀j,¬S b j:=fun j hs=>by have:=M.imm b j hs;rw[iA hw hpx]at this;simp at this
 have hkeep:Keeps S w S w':=by
  refine⟨fun b' j hs=>⟨hs,?_⟩,fun b' j hs=>?_⟩
  ·by_cases e:b'=b
   ·subst e;exact absurd hs (hnS j)
   ·exact dh (other b' e) j
  ·by_cases e:b'=b
   ·subst e;rw[iA hw hpx]at hs;simp at hs
   ·rw[dh (other b' e) j];exact hs
 have ht:ι.t k=none:=by
  cases et:ι.t k with
  |none=>rfl
  |some x=>obtain⟨o,g1,g2⟩:=M.liveT k x et;rw[ho]at g1;cases g1;rw[hoT]at g2;cases g2
 obtain⟨m,t⟩:=M.step1 (b:=b) (k:=k) (o':=o') below (fun b' _ hb'=>other b' hb') hkeep (fun b' j h=>.inl h) (fun j hs=>absurd hs (hnS j)) (.refl _) (fun _ _=>rfl) (fun _ _=>rfl) rfl
  (.inr ⟨o,ho,hx,hbl⟩) hbl' (fun h=>by rw[hoT']at h;cases h) (fun _=>ht) (hobj S hkeep)
 exact⟨m,hkeep,t⟩
theorem Mem.newObj {S:Imm} {w:World} {ι:Ix} {H:Hp} (M:Mem S w ι H) {k:Nat} (hk:ay H k=none) {o':AO} {y:Obj} (hoT:o'.isTok=false) (hoE:o'.isExt=false) (hy:Obj.plain y=true)
 (hobj:∀w',Keeps S w S w'→w'.heap[w.heap.size]? =some y→gP S w' (ι.seto k w.heap.size) k o'):
 Mem S {w with heap:=w.heap.push y} (ι.seto k w.heap.size) (aQ H k o')∧∀p,Tr p S w ι H S {w with heap:=w.heap.push y} (ι.seto k w.heap.size) (aQ H k o'):=by
 have ho:=M.none_o hk;have hkeep:=kH M.imm (w:=w) y;have hnoS:∀j,¬S w.heap.size j:=fun j hs=>by have:=eY (M.imm _ _ hs);omega
 refine M.step1 (b:=w.heap.size) (kG _ _ (gH hy)) (fun b' hb' _=>gX hb') hkeep (fun b' j h=>.inl h) (fun j h=>absurd h (hnoS j))
  (jG ho) (fun k' h=>by simp[Ix.seto,h]) (fun _ _=>rfl) rfl (.inl (ahO _)) (Gl hoT hoE (by simp[Ix.seto])) (fun h=>by rw[hoT]at h;cases h) (fun _=>M.none_t hk) (hobj _ hkeep (fQ _ _))
theorem ER {md rf CP YP} {o:Oper} {ρ:Operand→PV} {H:Hp} {n:Nat} {t:TypeId} {x:Option Operand} (ho:o.op=.makeMap t x) {K:KR}
 (h:opK τ md rf CP YP ρ H n o.dst o.op K):∃v sets accs news,K v sets accs news∧bE P r o ρ H v sets accs news:=by
 have hd:∀c,o.op≠ .defer c:=fun c e=>by rw[ho]at e;cases e
 rw[ho]at h;cases x with
 |some x=>exact h.elim
 |none=>
  simp only[opK,cO]at h;refine⟨_,_,_,_,h.2,fun S w ι H' a next Q M hr ha hn hk=>?_⟩;have hno:=hn n (by simp)
  obtain⟨M',T⟩:=M.newObj (y:=.map #[] 0) (o':=.map []) hno rfl rfl rfl (fun w' hk' hh=>⟨w.heap.size, #[],0,by simp[Ix.seto],hh,rfl,fun i h=>by simp at h⟩)
  refine d9 hd (w':={w with heap:=w.heap.push (.map #[] 0)}) (val:=.map (some w.heap.size)) ?_ (hk _ S _ _ M' (jG (M.none_o hno)) (kH M.imm _) (.rm _ _ _ (by simp[Ix.seto])) T)
  simp only[execOp,ho];refine dQ ?_;simp[Instr.makeMap,Result.andThen]
theorem Au (hτ:aY P τ) {md rf CP YP} {o:Oper} {ρ:Operand→PV} {H:Hp} {n:Nat} {t:TypeId} {l c:Operand} (ho:o.op=.makeSlice t l c) {K:KR}
 (h:opK τ md rf CP YP ρ H n o.dst o.op K):∃v sets accs news,K v sets accs news∧bE P r o ρ H v sets accs news:=by
 have hd:∀c,o.op≠ .defer c:=fun c e=>by rw[ho]at e;cases e
 rw[ho]at h;simp only[opK,cB]at h;obtain⟨te,ht,h⟩:=h;split at h
 ·rename_i e hu
  obtain⟨te',he,h⟩:=h;split at h
  ·rename_i x hl
   split at h
   ·rename_i y hc
    obtain⟨⟨h1,h2,h3,h4⟩,h⟩:=h;have hxy:x≤y∧y*te'.bytes≤281474976710656∧inR .i64 y:=by
     rcases h4 with rfl|h4
     ·exact⟨Int.le_refl _,h2,h3⟩
     ·exact h4
    clear h2 h4;obtain⟨h4,h2,h5⟩:=hxy;have hN:x.toNat≤y.toNat:=by omega
    rw[cO]at h;obtain⟨hfr,h⟩:=h;have hrun:∀{S:Imm} {w:World} {ι:Ix} {a:Act},(∀x∈o.op.operands.toList,Rep S w ι (ρ x) (a.eval x))→
     ∃arr,(execOp a.eval o).run P w=.ok (.value (.slice (some ⟨w.heap.size,0,none⟩) x.toNat y.toNat)) {w with heap:=w.heap.push (.cells arr e)}∧
      arr=(aiP (y.toNat*te'.size)).map (te'.zero.cells[·% te'.zero.cells.size]!):=by
     intro S w ι a hr;have r1:=hr l (by simp[ho,Op.operands])
     have r2:=hr c (by simp[ho,Op.operands])
     rw[hl]at r1;rw[hc]at r2;cases e1:a.eval l<;>rw[e1]at r1<;>cases r1
     cases e2:a.eval c<;>rw[e2]at r2<;>cases r2
     obtain⟨i,hi,hz,hs,hb⟩:=jD hτ he w;refine⟨_,?_,rfl⟩;simp only[execOp,ho];refine dQ ?_;simp only[Instr.makeSlice,Sem.run_bind,run_underlying (hτ.und _ _ ht),hu,Result.andThen,e1,e2,asInt,asIntOf,Sem.run_pure,hi,sG h3,sG h5,hb];have hmul:(te'.bytes:Int)*y≤281474976710656:=by rw[Int.mul_comm];exact h2
     rw[if_neg (by
      simp only[Bool.or_eq_true,decide_eq_true_eq];have:(2:Int) ^ 48=281474976710656:=by decide
      rw[this];omega)]
     simp only[Sem.run_bind,run_askRoom,Result.andThen,bQ hτ he];by_cases h0:y.toNat*te'.size=0
     ·rw[if_pos h0]
      have e0:∀f g:Nat→Value,(aiP 0).map f=(aiP 0).map g:=fun f g=>by apply ai5<;>simp
      simp[h0,Result.andThen,newRow];rw[e0]
     ·rw[if_neg h0]
      simp[gN hτ he,Result.andThen,newRow]
    have hget:∀{j:Nat},j<y.toNat*te'.size→((aiP (y.toNat*te'.size)).map (te'.zero.cells[·% te'.zero.cells.size]!)).getD j undef=te'.zero.cells.getD (j % te'.size) undef:=by
     intro j hj;have hz:=hτ.zsz _ _ he;have hpos:0<te'.size:=by rcases aiC te'.size with h|h;(rw[h]at hj;simp at hj);exact h
     have hm:j % te'.size<te'.zero.cells.size:=by rw[hz];exact aiQ _ hpos
     simp[ahW,hj,hz,getElem!_pos,hm,aiQ _ hpos]
    have hle:x.toNat*te'.size≤y.toNat*te'.size:=ail _ hN;split at h
    ·rw[bg,aL,aia]at h
     obtain⟨⟨g1,g2⟩,h⟩:=h;have g1:=aib g1;have g2:=aio g2;refine⟨_,_,_,_,h,lW hd fun S w ι H' a M hr ha=>?_⟩;obtain⟨arr,r1,r2⟩:=hrun hr;refine⟨_,arr,e,r1,by rw[r2];simpa [CL.ncell]using hle,fun j hj=>?_,fun S' w' ι' hi hw=>.rsl _ _ _ _ _ _ hi hN (fun _ j hj=>by
      have:=aiI y.toNat g2;have hs:arr.size=y.toNat*te'.size:=by rw[r2];simp
      rw[aN hw,ahT (by omega)];rfl)⟩
     simp only[CL.ncell,List.length_replicate]at hj;rw[r2,hget (Nat.lt_of_lt_of_le hj hle)];have hd':j / te'.size<x.toNat:=by rw[aix g2];exact hj
     have hm:j % te'.size<te'.zero.cells.toList.length:=by simp[hτ.zsz _ _ he];exact aiQ _ g2
     simp only[CL.get,ahZ,ai2,if_pos hd',ah5];have:=tY (S:=S) (w:=w) (ι:=ι) te'.zero.cells.toList (j % te'.size) hm;simpa [ahW]using this
    ·rw[aL]at h
     obtain⟨g1,h⟩:=h;have g1:=aib g1;obtain⟨zc,d,h,d1,d2,d3⟩:=Ej h;refine⟨_,_,_,_,h,lW hd fun S w ι H' a M hr ha=>?_⟩;obtain⟨arr,r1,r2⟩:=hrun hr;have hnc:d.ncell=x.toNat:=by rw[bS,d1,d2,aip]
     refine⟨_,arr,e,r1,by rw[r2,hnc];simp only[aiM,Array.size_range,g1,aip];exact hN,fun j hj=>?_,fun S' w' ι' hi hw=>.rsl _ _ _ _ _ _ hi hN (fun _ j hj=>by
      have hs:arr.size=y.toNat:=by rw[r2];simp[g1]
      rw[aN hw,ahT (by omega)];rfl)⟩
     rw[hnc]at hj;rw[r2,hget (by rw[g1];omega),g1,ai3,zc]
     exact d3 j hj
   ·exact h.elim
  ·exact h.elim
 ·exact h.elim
def Cw (S:Imm) (w:World) (ι:Ix) (es:List (PV × PV)) (ents:List MapEntry):Prop:=
 ents.length=es.length∧∀i (h:i<es.length) (h':i<ents.length),Rep S w ι es[i].1 ents[i].key∧Rep S w ι es[i].2 ents[i].val
theorem Cw.cons {S:Imm} {w:World} {ι:Ix} {k v:PV} {es:List (PV × PV)} {ents:List MapEntry} (h:Cw S w ι ((k,v)::es) ents):
 ∃e ents',ents=e::ents'∧Rep S w ι k e.key∧Rep S w ι v e.val∧Cw S w ι es ents':=by
 obtain⟨h1,h2⟩:=h;cases ents with
 |nil=>simp at h1
 |cons e ents=>
  have h0:=h2 0 (by simp) (by simp)
  exact⟨e,ents,rfl,h0.1,h0.2,by simpa using h1,fun i hi hi'=>h2 (i+1) (by simpa using hi) (by simpa using hi')⟩
theorem rV (s t:ByteArray):Instr.sameNow .string (.string s) (.string t)=some (decide (s=t)):=by
 simp only[Instr.sameNow,Option.some.injEq];by_cases h:s=t
 ·rw[decide_eq_true h];exact(MapKept.bytes_beq s t).2 h
 ·rw[decide_eq_false h]
  cases e:(s==t)with
  |false=>rfl
  |true=>exact absurd ((MapKept.bytes_beq s t).1 e) h
theorem vX {S:Imm} {w:World} {ι:Ix} {s:ByteArray}:∀(es:List (PV × PV)) (ents:List MapEntry) (i:Nat),vR s es→Cw S w ι es ents→Instr.findNow .string (.string s) ents i=some none:=by
 intro es;induction es with
 |nil=>
  intro ents i h he;have:ents=[]:=ai6.1 he.1;subst this;rfl
 |cons x es ih=>
  intro ents i h he;obtain⟨k,v⟩:=x;obtain⟨e,ents',rfl,h1,h2,h3⟩:=he.cons;cases k<;>first|exact h.elim|skip
  obtain⟨hne,h⟩:=h;generalize hkk:e.key=kk at h1
  cases h1
  simp only[Instr.findNow,hkk,rV,decide_eq_false hne];exact ih ents' (i+1) h h3
theorem J4 {s:ByteArray} {z:PV} {ok:Bool} {K:PV→Prop}:∀(es:List (PV × PV)),Ae s z ok es K→∃v,K v∧∀{S:Imm} {w:World} {ι:Ix} {ents:List MapEntry} {zv:Value},Cw S w ι es ents→Rep S w ι z zv→
 ∃res:Option Value,(∀i,∃j,Instr.findNow .string (.string s) ents i=some (res.map fun v=>(j,v)))∧Rep S w ι v (if ok then .tuple #[res.getD zv,.bool res.isSome]else res.getD zv):=by
 have fin:∀(p:PV) (b:Bool),K (match ok with|true=>.tup [p,.bool b]|false=>p)→∃v,K v∧∀{S:Imm} {w:World} {ι:Ix} {val:Value},Rep S w ι p val→Rep S w ι v (if ok then .tuple #[val,.bool b]else val):=by
  intro p b h;refine⟨_,h,fun hr=>?_⟩;cases ok with
  |false=>exact hr
  |true=>
   refine .tup _ _ _ rfl (fun i hi=>?_);simp at hi;have:i=0∨i=1:=by omega
   rcases this with rfl|rfl
   ·exact hr
   ·exact .bool _ _
 intro es;induction es with
 |nil=>
  intro h;simp only[Ae,bH]at h;obtain⟨v,hK,hv⟩:=fin _ _ h;refine⟨v,hK,fun he hz=>⟨none,fun i=>⟨0,?_⟩,hv hz⟩⟩;have:=ai6.1 he.1;subst this;rfl
 |cons x es ih=>
  intro h;obtain⟨k,u⟩:=x;cases k<;>first|exact h.elim|skip
  rename_i t;obtain⟨ha,hb⟩:=h;by_cases e:s=t
  ·have ha:=ha e
   rw[bH]at ha;obtain⟨v,hK,hv⟩:=fin _ _ ha;refine⟨v,hK,fun he hz=>?_⟩;obtain⟨en,ents',rfl,h1,h2,h3⟩:=he.cons;refine⟨some en.val,fun i=>⟨i,?_⟩,hv h2⟩;generalize hkk:en.key=kk at h1
   cases h1
   simp[Instr.findNow,hkk,rV,e]
  ·obtain⟨v,hK,hv⟩:=ih (hb e)
   refine⟨v,hK,fun he hz=>?_⟩;obtain⟨en,ents',rfl,h1,h2,h3⟩:=he.cons;obtain⟨res,g1,g2⟩:=hv h3 hz;refine⟨res,fun i=>?_,g2⟩;obtain⟨j,hj⟩:=g1 (i+1);refine⟨j,?_⟩;generalize hkk:en.key=kk at h1
   cases h1
   simp only[Instr.findNow,hkk,rV,decide_eq_false e];exact hj
theorem Mem.map {S:Imm} {w:World} {ι:Ix} {H:Hp} (M:Mem S w ι H) {k b:Nat} {es:List (PV × PV)} (h:ay H k=some (.map es)) (hb:ι.o k=some b):
 ∃ents clock,w.heap[b]? =some (.map ents clock)∧Cw S w ι es ents.toList:=by
 obtain⟨b',ents,clock,h1,h2,h3,h4⟩:=M.obj k _ h;rw[hb]at h1;cases h1
 exact⟨ents,clock,h2,by simpa using h3,fun i hi hi'=>by simpa using h4 i hi (by simpa using hi')⟩
theorem J5 {te:TE} {K:PV→Prop} (h:Nc te K):∃z,K z∧∀S w ι,Rep S w ι z te.zero:=by
 unfold Nc at h;split at h
 ·rename_i cs hz
  rw[bg]at h;refine⟨_,h,fun S w ι=>?_⟩;rw[hz];refine .agg _ _ _ (by simp[nG]) (fun i hi=>?_)
  rw[nG]at hi;have:=tY (S:=S) (w:=w) (ι:=ι) cs.toList i hi;simpa [ahW]using this
 ·rw[bH]at h
  exact⟨_,h,fun S w ι=>Cu _⟩
theorem Gm (hτ:aY P τ) {md rf CP YP} {o:Oper} {ρ:Operand→PV} {H:Hp} {n:Nat} {t:TypeId} {m k:Operand} {ok:Bool} (ho:o.op=.lookup t m k ok) {K:KR}
 (h:opK τ md rf CP YP ρ H n o.dst o.op K):∃v sets accs news,K v sets accs news∧bE P r o ρ H v sets accs news:=by
 have hd:∀c,o.op≠ .defer c:=fun c e=>by rw[ho]at e;cases e
 rw[ho]at h;simp only[opK,cB]at h;obtain⟨te,ht,h⟩:=h;split at h
 ·rename_i kt et hu
  obtain⟨tk,hk,h⟩:=h;split at h
  ·rename_i huk
   obtain⟨tz,hz,h⟩:=h;split at h
   ·rename_i i hm
    split at h
    ·rename_i s hs
     rw[aX]at h;obtain⟨ob,hob,h⟩:=h;split at h
     ·rename_i es
      obtain⟨z,h,hz'⟩:=J5 h;obtain⟨v,hK,hv⟩:=J4 _ h;refine⟨v,_,_,_,hK,aU hd fun S w ι H' a M hr ha=>?_⟩;have r1:=hr m (by simp[ho,Op.operands])
      have r2:=hr k (by simp[ho,Op.operands])
      rw[hm]at r1;rw[hs]at r2;cases e1:a.eval m<;>rw[e1]at r1<;>cases r1
      cases e2:a.eval k<;>rw[e2]at r2<;>cases r2
      rename_i b hb;obtain⟨ents,clock,g1,g2⟩:=M.map ((ha i (by simp)).trans hob) hb
      obtain⟨res,q1,q2⟩:=hv g2 (hz' S w ι);obtain⟨j,hj⟩:=q1 0;refine⟨_,?_,q2⟩;simp only[execOp,ho];refine dQ ?_;have hu':P.underlying kt=some .string:=by rw[hτ.und _ _ hk,huk]
      simp only[Instr.lookup,Sem.run_bind,run_underlying (hτ.und _ _ ht),hu,Result.andThen,e1,e2,MapKept.run_getObj_map g1,Sem.run_pure,
       MapKept.run_checkKey (w:=w) (k:=.string s) hu' trivial _ 9999,MapKept.run_findKey hu' hj]
      cases res with
      |none=>simp[gN hτ hz,Result.andThen]
      |some x=>simp[Result.andThen]
     ·exact h.elim
    ·exact h.elim
   ·exact h.elim
  ·exact h.elim
 ·exact h.elim
theorem Gn (hτ:aY P τ) {md rf CP YP} {o:Oper} {ρ:Operand→PV} {H:Hp} {n:Nat} {t:TypeId} {m k u:Operand} (ho:o.op=.insert t m k u) {K:KR}
 (h:opK τ md rf CP YP ρ H n o.dst o.op K):∃v sets accs news,K v sets accs news∧bE P r o ρ H v sets accs news:=by
 have hd:∀c,o.op≠ .defer c:=fun c e=>by rw[ho]at e;cases e
 rw[ho]at h;simp only[opK,cB]at h;obtain⟨te,ht,h⟩:=h;split at h
 ·rename_i kt et hu
  obtain⟨tk,hk,h⟩:=h;split at h
  ·rename_i huk
   split at h
   ·rename_i i hm
    split at h
    ·rename_i s hs
     rw[bH,aX]at h;obtain⟨ob,hob,h⟩:=h;split at h
     ·rename_i es
      obtain⟨hnk,hK⟩:=h;refine⟨_,_,_,_,hK,fun S w ι H' a next Q M hr ha hn hkk=>?_⟩;have r1:=hr m (by simp[ho,Op.operands])
      have r2:=hr k (by simp[ho,Op.operands])
      have r3:=hr u (by simp[ho,Op.operands])
      rw[hm]at r1;rw[hs]at r2;cases e1:a.eval m<;>rw[e1]at r1<;>cases r1
      cases e2:a.eval k<;>rw[e2]at r2<;>cases r2
      rename_i b hb;have hob':=(ha i (by simp)).trans hob
      obtain⟨ents,clock,g1,g2⟩:=M.map hob' hb;have hu':P.underlying kt=some .string:=by rw[hτ.und _ _ hk,huk]
      have hf:=vX es ents.toList 0 hnk g2;have hnew:=MapKept.heap_set (o':=.map (ents.push {key:=.string s,val:=a.eval u,born:=clock}) (clock+1)) g1;obtain⟨M',K',T⟩:=M.putObj (o':=.map (es++[(.str s,ρ u)])) (y:=.map (ents.push {key:=.string s,val:=a.eval u,born:=clock}) (clock+1)) (w':={w with heap:=w.heap.setIfInBounds b (.map (ents.push {key:=.string s,val:=a.eval u,born:=clock}) (clock+1))})
       hob' rfl rfl rfl rfl rfl hb g1 rfl rfl (.block b rfl rfl rfl (by simp) hnew.2 (by rw[g1];exact gH rfl) (by rw[hnew.1];exact gH rfl) (fun _=>by simp[bsz,g1,hnew.1])) hnew.1 hnew.2 (fun S' hk'=>by
        refine⟨b,_,_,hb,hnew.1,by simp[g2.1,←ais],fun i hi hi'=>?_⟩
        have hl:ents.size=es.length:=by simpa using g2.1
        simp only[ai7,ahK,ahG,aic]at hi;by_cases hlt:i<es.length
        ·have:=g2.2 i hlt (by simpa [hl]using hlt)
         rw[ai8 hlt,ai9 (by omega)]
         exact⟨this.1.mono hk' _ (.refl _),this.2.mono hk' _ (.refl _)⟩
        ·have:i=es.length:=by omega
         subst this;rw[aja (ahO _)];simp only[←hl,ajb,aiq,ajc];exact⟨.str _ _,r3.mono hk' _ (.refl _)⟩)
      refine jk hd ?_ (hkk undef S _ ι M' (.refl _) K' (.any _ _) T);simp only[execOp,ho];refine tZ ?_;simp only[Instr.mapUpdate,Sem.run_bind,run_underlying (hτ.und _ _ ht),hu,Result.andThen,e1,e2,MapKept.run_getObj_map g1,
       MapKept.run_checkKey (w:=w) (k:=.string s) hu' trivial _ 9999,MapKept.run_findKey hu' hf,MapKept.run_setObj_map _ g1]
     ·exact h.elim
    ·exact h.elim
   ·exact h.elim
  ·exact h.elim
 ·exact h.elim
theorem Av (hτ:aY P τ) {md rf CP YP} {o:Oper} {ρ:Operand→PV} {H:Hp} {n:Nat} {t:TypeId} {m k u:Operand} (ho:o.op=.mapUpdate t m k u) {K:KR}
 (h:opK τ md rf CP YP ρ H n o.dst o.op K):∃v sets accs news,K v sets accs news∧bE P r o ρ H v sets accs news:=by
 have hd:∀c,o.op≠ .defer c:=fun c e=>by rw[ho]at e;cases e
 rw[ho]at h;simp only[opK,cB]at h;obtain⟨te,ht,h⟩:=h;split at h
 ·rename_i kt et hu
  obtain⟨tk,hk,h⟩:=h;split at h
  ·rename_i huk
   split at h
   ·rename_i i hm
    split at h
    ·rename_i s hs
     rw[bH,aX]at h;obtain⟨ob,hob,h⟩:=h;split at h
     ·rename_i es
      obtain⟨hnk,hK⟩:=h;refine⟨_,_,_,_,hK,fun S w ι H' a next Q M hr ha hn hkk=>?_⟩;have r1:=hr m (by simp[ho,Op.operands])
      have r2:=hr k (by simp[ho,Op.operands])
      have r3:=hr u (by simp[ho,Op.operands])
      rw[hm]at r1;rw[hs]at r2;cases e1:a.eval m<;>rw[e1]at r1<;>cases r1
      cases e2:a.eval k<;>rw[e2]at r2<;>cases r2
      rename_i b hb;have hob':=(ha i (by simp)).trans hob
      obtain⟨ents,clock,g1,g2⟩:=M.map hob' hb;have hu':P.underlying kt=some .string:=by rw[hτ.und _ _ hk,huk]
      have hf:=vX es ents.toList 0 hnk g2;have hnew:=MapKept.heap_set (o':=.map (ents.push {key:=.string s,val:=a.eval u,born:=clock}) (clock+1)) g1;obtain⟨M',K',T⟩:=M.putObj (o':=.map (es++[(.str s,ρ u)])) (y:=.map (ents.push {key:=.string s,val:=a.eval u,born:=clock}) (clock+1)) (w':={w with heap:=w.heap.setIfInBounds b (.map (ents.push {key:=.string s,val:=a.eval u,born:=clock}) (clock+1))})
       hob' rfl rfl rfl rfl rfl hb g1 rfl rfl (.block b rfl rfl rfl (by simp) hnew.2 (by rw[g1];exact gH rfl) (by rw[hnew.1];exact gH rfl) (fun _=>by simp[bsz,g1,hnew.1])) hnew.1 hnew.2 (fun S' hk'=>by
        refine⟨b,_,_,hb,hnew.1,by simp[g2.1,←ais],fun i hi hi'=>?_⟩
        have hl:ents.size=es.length:=by simpa using g2.1
        simp only[ai7,ahK,ahG,aic]at hi;by_cases hlt:i<es.length
        ·have:=g2.2 i hlt (by simpa [hl]using hlt)
         rw[ai8 hlt,ai9 (by omega)]
         exact⟨this.1.mono hk' _ (.refl _),this.2.mono hk' _ (.refl _)⟩
        ·have:i=es.length:=by omega
         subst this;rw[aja (ahO _)];simp only[←hl,ajb,aiq,ajc];exact⟨.str _ _,r3.mono hk' _ (.refl _)⟩)
      refine jk hd ?_ (hkk undef S _ ι M' (.refl _) K' (.any _ _) T);simp only[execOp,ho];refine tZ ?_;simp only[Instr.mapUpdate,Sem.run_bind,run_underlying (hτ.und _ _ ht),hu,Result.andThen,e1,e2,MapKept.run_getObj_map g1,
       MapKept.run_checkKey (w:=w) (k:=.string s) hu' trivial _ 9999,MapKept.run_findKey hu' hf,MapKept.run_setObj_map _ g1]
     ·exact h.elim
    ·exact h.elim
   ·exact h.elim
  ·exact h.elim
 ·exact h.elim
end Go.Eng
