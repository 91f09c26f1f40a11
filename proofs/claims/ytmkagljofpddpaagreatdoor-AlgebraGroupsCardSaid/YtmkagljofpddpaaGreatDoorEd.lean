/- An engine that walks through a function of the program with symbolic values, and the proofs that it is sound. No condition. -/
import Derived.RangeFuncRecord
import Derived.Sort.Grow
import Derived.Below
import Derived.Lib.FrozenHead
import Derived.Test.YtmkagljofpddpaaGreatDoorEc
open Array renaming getD_eq_getD_getElem?→akD,replicate→ami,mapM_eq_mapM_toList→amj,getElem?_eq_none→akx,getElem?_eq_getElem→akA,ext→alW
open Bool renaming and_eq_true→akQ
open List renaming pairwise_cons→al8,mapM→amk,mem_cons_of_mem→amm,range→akE,getD_eq_getElem?_getD→akG,mem_range→amn,mem_cons→al7,mem_iff_getElem?→amo,getElem?_eq_some_iff→amq,getElem?_eq_getElem→akL,getElem?_append_left→amr,getElem?_append_right→alG,mem_of_getElem?→ams,drop_eq_getElem_cons→amt,length→amu,length_take→alm,getElem_of_mem→akK
open Nat renaming le_refl→aku,beq→akM,blt→aml,eq_of_beq_eq_true→akR,zero_add→akS,lt_or_ge→akw,lt_of_lt_of_le→akv,le_trans→aky,ble→akN,le_of_ble_eq_true→akY,zero_le→alq
open Option renaming isSome_iff_exists→akF,bind_some→al6
namespace Go.Eng
open Go.RowKit
set_option linter.unusedSimpArgs false
set_option linter.unusedVariables false
variable {P:Program} {τ:TypeId→Option TE} {B:Imm→World→Prop} {p:Nat}
theorem run_takeDeferred {w:World} {b:Nat} (h:w.heap[b]? =some (.deferred (some []))):(Instr.takeDeferred b).run P w=.ok [] {w with heap:=w.heap.setIfInBounds b (.deferred none)}:=by
 simp[Instr.takeDeferred,getObj,setObj,Sem.run_bind,Sem.run,h,Result.andThen,Sem.bind]
theorem At.leave {S0:Imm} {w0:World} {ι0:Ix} {H0 H:Hp} {env:Env} {tmps:Array Value} {fn:Func} {R:Ending→World→Prop} (hB:BOK B):∀(ds:List Deferred) (w:World),
 At B p S0 w0 ι0 H0 env H {tmps:=tmps,defers:=ds} w→(∀w',At B p S0 w0 ι0 H0 env H {tmps:=tmps,defers:=[]} w'→LeavesIn (Fw none) 0 P fn tmps R [] .returning w')→
  LeavesInM (Fw none) 0 P fn tmps R ds .returning w:=by
 intro ds;induction ds with
 |nil=>intro w hA h;exact h w hA
 |cons d ds ih=>
  intro w hA h;obtain⟨S,ι,hb,M,RA,D,D',T⟩:=hA.ex;obtain⟨b,h1,h2,h3⟩:=D.all d qqS;have hge:=D' d qqS b h1;have hlt:=lt_of_heap h2;have hset:=MapKept.heap_set (o':=.deferred none) h2
  let w':World:={w with heap:=w.heap.setIfInBounds b (.deferred none)}
  have hnS:∀j,¬S b j:=fun j hs=>by have:=M.imm b j hs;rw[iT h2 rfl]at this;simp at this
  have hk:Keeps S w S w':=by
   refine⟨fun b' j hs=>⟨hs,?_⟩,fun b' j hs=>?_⟩
   ·by_cases e:b'=b
    ·subst e;exact absurd hs (hnS j)
    ·exact dD (hset.2 b' e) j
   ·by_cases e:b'=b
    ·subst e;rw[iT h2 rfl]at hs;simp at hs
    ·rw[dD (hset.2 b' e) j];exact hs
  have hbel:Bel w w':=.block b rfl rfl rfl (by simp[w']) hset.2 (by rw[h2];exact gQ rfl) (by rw[hset.1];exact gQ rfl) (fun _=>by unfold bsz;rw[h2];show(match(w.heap.setIfInBounds b (Obj.deferred none))[b]? with|some (.cells c _ _)=>some c.size|_=>none)=none;rw[hset.1])
  have hne:∀k o b',aA H k=some o→o.has ι k b'→b'≠b:=by
   intro k o b' ho hb' e;subst e;exact h3 ⟨k,o,ho,pI hb',hb'⟩
  refine⟨qqS,.inl ⟨b,w',h1,run_takeDeferred h2,ih w' ⟨S,ι,hB _ _ _ _ hk hbel hb,?_,RA.mono hk (.refl _),?_,fun d' hd'=>D' d' (by simp[hd']),?_⟩ h⟩⟩
  ·exact⟨fun k o ho=>(M.obj k o ho).mono hk (.refl _) hbel (fun b' hb'=>hset.2 b' (hne k o b' ho hb')) (fun _=>rfl) rfl (fun _ _ _ h=>h),M.liveO,M.liveT,M.dist,fun b' j hs=>by rw[(hk.imm b' j hs).2];exact M.imm b' j hs⟩
  ·refine⟨fun d' hd'=>?_,(al8.1 D.nodup).2⟩
   obtain⟨b',g1,g2,g3⟩:=D.all d' (by simp[hd'])
   have:=(al8.1 D.nodup).1 d' hd' b b' h1 g1;exact⟨b',g1,(hset.2 b' (Ne.symm this)).trans g2,g3⟩
  ·exact⟨T.below.trans hbel,fun b' hb' ho=>(hset.2 b' qqO).trans (T.same b' hb' ho),T.keeps.trans hk,T.immN,T.own,T.protO,T.protT⟩
structure W9 (S:Imm) (w:World) (v:PV) (val:Value) (S':Imm) (w':World):Prop where
 imm:∀b j,S' b j→(rd w' b j).isSome
 keeps:Keeps S w S' w'
 rep:Rep S' w' noI v val
 below:Bel w w'
 same:∀b,b<w.heap.size→w'.heap[b]? =w.heap[b]?
 immN:∀b j,b<w.heap.size→S' b j→S b j
def Enters (P:Program) (g:FuncId):Prop:=∀vs w,(callFunc g vs).run P w=.ok (.enter g vs) w
def IB (P:Program) (B:Imm→World→Prop) (g:FuncId) (args:List PV) (v:PV):Prop:=
 ∀(S:Imm) (w:World) (vs:Array Value),B S w→(∀b j,S b j→(rd w b j).isSome)→bG S w noI args vs→
  CallsIn (Fw none) 0 P g vs w fun e w'=>∃val S',e=.returned val∧W9 S w v val S' w'
def aD (P:Program) (g:FuncId) (args:List PV) (v:PV):Prop:=Enters P g∧IB P gB g args v
theorem enters {g:FuncId} {fn:Func} (hf:P.funcs[g]? =some fn) (hn:(fn.name== "runtime.NumGoroutine")=false) (hb:fn.body.isNone=false):Enters P g:=by
 intro vs w;have h1:¬fn.name= "runtime.NumGoroutine" :=fun e=>by rw[e]at hn;simp at hn
 have h2:¬fn.body=none:=fun e=>by rw[e]at hb;simp at hb
 simp[callFunc,hf,h1,h2,Result.andThen]
theorem Ta {S:Imm} {w:World} {us:List PV} {vals:List Value} (hlen:us.length=vals.length) (h:∀i,i<us.length→Rep S w noI (aH us i) (vals.getD i undef)):
 Rep S w noI (dX us) (if h:vals.toArray.size=1 then vals.toArray[0]else .tuple vals.toArray):=by
 match us,vals,hlen,h with
 | [],[],_,_=>exact .tup _ _ _ rfl (fun i hi=>by simp at hi)
 | [u],[x],_,h=>simpa [dX,aH]using h 0 qqS
 |u::u'::us,x::x'::xs,hlen,h=>
  have:¬(x::x'::xs).toArray.size=1:=qqS;rw[dif_neg this];refine .tup _ _ _ (by simpa using hlen) (fun i hi=>?_)
  have:=h i hi;rw[akD];simpa using this
theorem IC {S:Imm} {w:World} {ι:Ix} {args:List PV} {vs:Array Value} (h:bG S w ι args vs) (n:Nat):bG S w ι (args++nZ n) (vs++ami n undef):=by
 refine fV h ⟨by simp[zk],fun i hi=>?_⟩
 rw[Ie];exact .any _ _
structure Sup (p q:PV):Prop where
 get:∀{S:Imm} {w:World} {ι:Ix} {v:Value},Rep S w ι p v→Rep S w ι q v
theorem Sup.of {p q:PV} (h:p=q):Sup p q:=⟨fun hr=>h▸hr⟩
structure Fin (q:Prop):Prop where
 get:q
theorem fM {q:Prop} (h:q):Fin q:=⟨h⟩
theorem aI {a b:Prop} (h:a) (g:b):a∧b:=⟨h,g⟩
theorem vw:(∀{α:Type} (a b:α),(if True then a else b)=a)∧(∀{α:Type} (a b:α),(if False then a else b)=b)∧(∀{p:Prop} [Decidable p],(decide p=true)=p)∧(∀{p:Prop} [Decidable p],decide p=false↔¬p)∧(∀b:Bool,(¬b=true)=(b=false))∧(∀b:Bool,(¬b=false)=(b=true))∧(∀b:Bool,((!b)=true)=(b=false))∧(∀b:Bool,((!b)=false)=(b=true))∧((!true)=false)∧((!false)=true):=
 ⟨fun _ _=>rfl,fun _ _=>rfl, @decide_eq_true_eq, @decide_eq_false_iff_not,Bool.not_eq_true,Bool.not_eq_false,Bool.not_eq_true',Bool.not_eq_false',Bool.not_true,Bool.not_false⟩
def afC (τ:TypeId→Option TE) (fn:Func) (v:PV) (e:Exit) (env:Env) (H:Hp):Prop:=
 match e with
 |.normal=>og τ fn.results.toList env H fun vs=>vN vs H fun us _=>Fin (Sup (dX us) v)
 |.ret=>og τ fn.results.toList env H fun vs=>vN vs H fun us _=>Fin (Sup (dX us) v)
 |_=>False
theorem Lj (hB:BOK B) (hτ:bB P τ) {g:FuncId} {fn:Func} {c:Code} {args:List PV} {v:PV} (hf:P.funcs[g]? =some fn) (hb:fn.body=some c)
 (h:AW P none B 0 c (afC τ fn v) (args++nZ (fn.ntmps-args.length)) []):IB P B g args v:=by
 intro S w vs hBw himm hr;have M:Mem S w noI []:=⟨fun k o h=>by simp[aA]at h,fun k b h=>by simp[noI]at h,fun k x h=>by simp[noI]at h,fun k k' o o' b h=>by simp[aA]at h,himm⟩
 have hA:At B 0 S w noI [] (args++nZ (fn.ntmps-args.length)) [] {tmps:=vs++ami (fn.ntmps-vs.size) undef,defers:=[]} w:=
  ⟨S,noI,hBw,M,by rw[hr.1];exact IC hr _,.nil _ _ _,fun d hd=>by simp at hd,.refl _ _ _ _ _⟩
 refine callsIn_of_wp_marks hf hb trivial (wpIn_mono (h S w noI [] _ w hA) ?_)
 rintro e ⟨tmps,ds⟩ w1 ⟨env',H',q,hA1⟩
 have fin:(og τ fn.results.toList env' H' fun vs=>vN vs H' fun us _=>Fin (Sup (dX us) v))→LeavesInM (Fw none) 0 P fn tmps (fun e w'=>∃val S',e=.returned val∧W9 S w v val S' w') ds .returning w1:=by
  intro q;refine At.leave hB ds w1 hA1 fun w2 hA2=>?_;obtain⟨S2,ι2,hb2,M2,R2,_,_,T2⟩:=hA2.ex;obtain⟨vs1,q,hs⟩:=AY (P:=P) hτ _ q;obtain⟨us,H3,q,hl,hz⟩:=Iz (P:=P) _ q;obtain⟨vals,r1,r2,r3⟩:=hs M2 R2;obtain⟨S3,M3,K3,T3,R3⟩:=hz (fun i=>vals.getD i undef) M2 r3;have hT:=T2.trans (T3 0);have hno:∀b,¬owned noI [] b:=by rintro b ⟨k,o,h1,_⟩;simp[aA]at h1
  have hrun:(results fn tmps).run P w2=.ok (if h:vals.toArray.size=1 then vals.toArray[0]else .tuple vals.toArray) w2:=by
   unfold results;rw[Sem.run_bind,amj,←bind_pure_comp,Sem.run_bind];have:(amk (fun(x:ResultVar)=>(match x with|.tmp t=>pure (tmps.getD t undef)|.cell a t=>do loadVar t (←asAddr (tmps.getD a undef)):Sem Value)) fn.results.toList).run P w2=.ok vals w2:=r1
   erw [this]
   simp only[Result.andThen,Function.comp,Sem.run_pure]
  refine⟨_,hrun,_,S3,rfl,M3.imm,hT.keeps,?_,hT.below,fun b hb=>hT.same b hb (hno b),fun b j hb hs=>(hT.immN b j hb hs).resolve_right (hno b)⟩;exact q.get.get (Ta qqO R3)
 cases e with
 |normal=>exact fin q
 |ret=>exact fin q
 |_=>exact q.elim
def PE:PV→PV
 |.isl c _=>.isl c .none
 |.bool b=>.bp b
 |.nils=>.isl (.ints .i64 []) .none
 |p=>p
def AZ:List PV→List PV
 | []=>[]
 |x::xs=>PE x::AZ xs
def Xa:PV→PV
 |.agg cs=>.agg (AZ cs)
 |p=>PE p
def fG:List PV→List PV
 | []=>[]
 |x::xs=>Xa x::fG xs
theorem IE {S:Imm} {w:World} {ι:Ix} {p:PV} {v:Value} (h:Rep S w ι p v):Rep S w ι (PE p) v:=by
 unfold PE;split
 ·exact h.drop
 ·cases h;exact .bp _ _
 ·cases h;exact .islnil _ _ _ rfl
 ·exact h
theorem vO:∀(ps:List PV),(AZ ps).length=ps.length∧∀i {S:Imm} {w:World} {ι:Ix} {v:Value},Rep S w ι (aH ps i) v→Rep S w ι (aH (AZ ps) i) v:=by
 intro ps;induction ps with
 |nil=>exact⟨rfl,fun i _ _ _ _ h=>h⟩
 |cons p ps ih=>exact⟨by simp[AZ,ih.1],fun i _ _ _ _ h=>by cases i with|zero=>exact IE h|succ i=>exact ih.2 i h⟩
theorem Xb {S:Imm} {w:World} {ι:Ix} {p:PV} {v:Value} (h:Rep S w ι p v):Rep S w ι (Xa p) v:=by
 unfold Xa;split
 ·cases h with|agg _ _ vs hl hh=>exact .agg _ _ _ ((vO _).1.trans hl) (fun i hi=>(vO _).2 i (hh i (by rw[(vO _).1]at hi;exact hi)))
 ·exact IE h
theorem dh:∀(ps:List PV),(fG ps).length=ps.length∧∀i {S:Imm} {w:World} {ι:Ix} {v:Value},Rep S w ι (aH ps i) v→Rep S w ι (aH (fG ps) i) v:=by
 intro ps;induction ps with
 |nil=>exact⟨rfl,fun i _ _ _ _ h=>h⟩
 |cons p ps ih=>exact⟨by simp[fG,ih.1],fun i _ _ _ _ h=>by cases i with|zero=>exact Xb h|succ i=>exact ih.2 i h⟩
def A8 (args:List PV) (K:List PV→Prop):Prop:=match jH args with|some xs=>cZ (fG xs) K|none=>False
theorem vP {g:FuncId} {args as:List PV} {H:Hp} {v:PV} (ha:jH args=some as) (h:aD P g (fG as) v):iJ P g args H v [] [] []:=by
 obtain⟨hent,h⟩:=h;refine .inl ⟨hent,fun S w ι H' vs hg M hr _ _=>?_⟩;obtain⟨h1,h2⟩:=gY ha;refine(h S w vs hg M.imm ⟨(dh as).1.trans (h1.trans hr.1),fun i hi=>(dh as).2 i (h2 i (by rw[(dh as).1]at hi;omega) (hr.2 i (by rw[(dh as).1]at hi;omega)))⟩).mono ?_
 rintro e w' ⟨val,S',rfl,o⟩
 have hno:∀k ob b,aA H' k=some ob→ob.has ι k b→b<w.heap.size:=fun k ob b ho hb=>(M.obj k ob ho).lt hb;refine⟨val,S',ι,rfl,⟨fun k ob ho=>(M.obj k ob ho).mono o.keeps (.refl _) o.below (fun b hb=>o.same b (hno k ob b ho hb)) (fun _=>rfl) rfl (fun b j hb hs=>o.immN b j (hno k ob b ho hb) hs),M.liveO,M.liveT,M.dist,o.imm⟩,
  .refl _,o.keeps,o.rep.up ι,fun p=>⟨o.below,fun b hb _=>o.same b hb,o.keeps,fun b j hb hs=>.inl (o.immN b j hb hs),fun b h=>.inl h,fun _ _ _ h=>h,fun _ _ b n h=>⟨b,n,h,.inl ⟨rfl,aku _⟩⟩⟩⟩
end Go.Eng
namespace Go.Eng
inductive TT where
 |leaf (k:Nat) (te:TE)
 |node (m:Nat) (l r:TT)
def TT.get:TT→Nat→Option TE
 |.leaf k te,t=>match akM t k with|true=>some te|false=>none
 |.node m l r,t=>match aml t m with|true=>l.get t|false=>r.get t
def TT.All (f:Nat→TE→Prop):TT→Prop
 |.leaf k te=>f k te
 |.node _ l r=>l.All f∧r.All f
theorem TT.get_all {f:Nat→TE→Prop}:∀(T:TT),T.All f→∀t te,T.get t=some te→f t te:=by
 intro T;induction T with
 |leaf k te'=>
  intro h t te hg;simp only[TT.get]at hg;cases hb:akM t k with
  |true=>rw[hb]at hg;cases hg;rw[akR hb];exact h
  |false=>rw[hb]at hg;cases hg
 |node m l r ihl ihr=>
  intro h t te hg;simp only[TT.get]at hg;cases hb:aml t m with
  |true=>rw[hb]at hg;exact ihl h.1 t te hg
  |false=>rw[hb]at hg;exact ihr h.2 t te hg
def aZ (t u:TypeInfo):TE:=⟨u.desc,t.zero.getD undef,t.size,t.bytes,none,t.methods.toList⟩
def kV (t u:TypeInfo) (ks:List CK):TE:=⟨u.desc,t.zero.getD undef,t.size,t.bytes,some ks,t.methods.toList⟩
def aM (P:Program) (k:Nat) (te:TE):Prop:=
 P.underlying k=some te.und∧(∃i,P.info? k=some i∧i.zero=some te.zero∧i.size=te.size∧i.bytes=te.bytes)∧te.zero.cells.size=te.size∧(∀ks,te.cmp=some ks→Gq P k ks)∧∃i,P.info? k=some i∧i.methods.toList=te.meths
theorem kR {P:Program} {t:TypeId} {i:TypeInfo} (h:∀w,(typeInfo t).run P w=.ok i w):P.info? t=some i:=by
 cases hi:P.info? t with
 |none=>have:=h default;simp[typeInfo,hi]at this
 |some j=>have:=h default;simp[typeInfo,hi]at this;rw[this]
theorem aQ {P:Program} {k:Nat} {t u:TypeInfo} {d:TypeDesc} {z:Value} (h1:P.underlying k=some d) (h2:∀w,(typeInfo k).run P w=.ok t w) (h3:u.desc=d) (h4:t.zero=some z) (h5:z.cells.size=t.size):aM P k (aZ t u):=
 ⟨by rw[h1,←h3];rfl,⟨t,kR h2,by simp[aZ,h4],rfl,rfl⟩,by simp[aZ,h4,h5],fun ks h=>(by cases h),t,kR h2,rfl⟩
theorem EqT.mono {P:Program} {t:TypeId} {ks:List CK} {n m:Nat} (h:EqT P t ks n) (hm:n≤m):EqT P t ks m:=fun w d xs ys off hd=>h w d xs ys off qqO
theorem uX.nil {P:Program} {n off:Nat}:uX P n [] off []:=rfl
theorem uX.cons {P:Program} {n off:Nat} {f:Field} {fs:List Field} {kf rest:List CK} (h1:f.name≠ "_") (h2:f.offset=off) (h3:EqT P f.type kf n) (h4:uX P n fs (off+kf.length) rest):uX P n (f::fs) off (kf++rest):=
 ⟨h1,h2,kf,rest,rfl,h3,h4⟩
theorem IG {P:Program} {t:TypeId} {i:TypeInfo} (h:∀w,(typeInfo t).run P w=.ok i w):P.cellsOf t=i.size:=by simp[Program.cellsOf,kR h]
theorem ku {P:Program} {k:Nat} {t u:TypeInfo} {d:TypeDesc} {z:Value} {ks:List CK} (hc:Gq P k ks) (h1:P.underlying k=some d) (h2:∀w,(typeInfo k).run P w=.ok t w) (h3:u.desc=d) (h4:t.zero=some z) (h5:z.cells.size=t.size):aM P k (kV t u ks):=
 ⟨by rw[h1,←h3];rfl,⟨t,kR h2,by simp[kV,h4],rfl,rfl⟩,by simp[kV,h4,h5],fun ks' h=>(by cases h;exact hc),t,kR h2,rfl⟩
theorem Xc {P:Program} {T:TT} (h:T.All (aM P)):bB P T.get:=
 ⟨fun t te ht=>(TT.get_all T h t te ht).1,fun t te ht=>(TT.get_all T h t te ht).2.1,fun t te ht=>(TT.get_all T h t te ht).2.2.1,fun t te ks ht=>(TT.get_all T h t te ht).2.2.2.1 ks,fun t te ht=>(TT.get_all T h t te ht).2.2.2.2⟩
theorem jc {P:Program} {g:FuncId} {xs:List PV} {u v:PV} (h:aD P g xs u) (hs:Sup u v):aD P g xs v:=
 ⟨h.1,fun S w vs hb himm hA=>(h.2 S w vs hb himm hA).mono fun _ _ ⟨val,S',h1,h2⟩=>⟨val,S',h1,⟨h2.imm,h2.keeps,hs.get h2.rep,h2.below,h2.same,h2.immN⟩⟩⟩
def noC:CPT:=fun _ _ _ _ _=>False
def noY:YPT:=fun _ _ _ _ _ _ _=>False
theorem aG {P:Program}:bD P noC:=fun _ _ _ _ _ h=>h.elim
theorem aU {P:Program} {r:Option Nat} {B:Imm→World→Prop}:mJ P r B noY:=fun _ _ _ _ _ _ _ h=>h.elim
theorem aL:BOK sV:=⟨fun _ _ _ _ k b h=>rM k b h,fun _ _ h=>h⟩
def PG (P:Program) (B:Imm→World→Prop) (τ:TypeId→Option TE) (md:Nat) (rf:List Nat) (CP:CPT) (YP:YPT) (fn:Func) (args:List PV) (v:PV):Prop:=
 ev P none B 0 τ md rf CP YP (fn.body.getD .skip) 0 (args++nZ (fn.ntmps-args.length)) [] fun e env H _=>afC τ fn v e env H
theorem Tc {P:Program} {τ:TypeId→Option TE} {B:Imm→World→Prop} (hB:BOK B) (hm:P.follows .mixedOrders=true) (hτ:bB P τ) {md rf CP YP} (hC:jO P B CP) (hY:mJ P none B YP) {g:FuncId} {fn:Func} {args:List PV} {v:PV}
 (hf:P.funcs[g]? =some fn) (hb:fn.body.isSome=true) (hok:eu (fn.body.getD .skip)=true) (h:PG P B τ md rf CP YP fn args v):IB P B g args v:=by
 obtain⟨c,hc⟩:=akF.1 hb;unfold PG at h;rw[hc]at h hok;exact Lj hB hτ hf hc ((kZ hB hm hτ hC hY c hok _ _ _ _ h).mono fun e env H ⟨n,h⟩=>h)
theorem ay {P:Program} {τ:TypeId→Option TE} (hm:P.follows .mixedOrders=true) (hτ:bB P τ) {md rf CP} (hC:bD P CP) {g:FuncId} {fn:Func} {args:List PV} {v:PV}
 (hf:P.funcs[g]? =some fn) (hn:(fn.name== "runtime.NumGoroutine")=false) (hb:fn.body.isSome=true) (hok:eu (fn.body.getD .skip)=true) (h:PG P sV τ md rf CP noY fn args v):aD P g args v:=
 ⟨enters hf hn (by cases h:fn.body<;>simp_all),Tc aL hm hτ hC aU hf hb hok h⟩
end Go.Eng
namespace Go.Eng
open Go.RowKit
set_option linter.unusedSimpArgs false
set_option linter.unusedVariables false
abbrev Sg:=List (Nat × Nat)
def sgF:Sg→Nat→Option Nat
 | [],_=>none
 |(a,b)::r,k=>match akM a k with|true=>some b|false=>sgF r k
def sgB:Sg→Nat→Option Nat
 | [],_=>none
 |(a,b)::r,k=>match akM b k with|true=>some a|false=>sgB r k
def PI (σ:Sg):PV→Option PV
 |.rsl k o n=>match sgF σ k with|some k'=>some (.rsl k' o n)|none=>none
 |.rp k o=>match sgF σ k with|some k'=>some (.rp k' o)|none=>none
 |.rpe k m i j=>match sgF σ k with|some k'=>some (.rpe k' m i j)|none=>none
 |.rm k=>match sgF σ k with|some k'=>some (.rm k')|none=>none
 |.row k b n=>match sgF σ k with|some k'=>some (.row k' b n)|none=>none
 |.rowp k b m i j=>match sgF σ k with|some k'=>some (.rowp k' b m i j)|none=>none
 |.isl c t=>match t with
  |.own k=>match sgF σ k with|some k'=>some (.isl c (.own k'))|none=>some (.isl c .none)
  |.none=>some (.isl c .none)
  |.full=>some (.isl c .full)
 |.any=>some .any
 |.rsc k es n=>match sgF σ k with|some k'=>some (.rsc k' es n)|none=>none
 |.sln n=>some (.sln n)
 |p=>iQ p
def qH (σ:Sg):List PV→Option (List PV)
 | []=>some []
 |x::xs=>match PI σ x with
  |some y=>match qH σ xs with
   |some ys=>some (y::ys)
   |none=>none
  |none=>none
def sZ (σ:Sg):PV→Option PV
 |.agg cs=>match qH σ cs with|some ds=>some (.agg ds)|none=>none
 |.tup cs=>match qH σ cs with|some ds=>some (.tup ds)|none=>none
 |.fn f us vs=>match qH σ us with
  |some us=>match qH σ vs with
   |some vs=>some (.fn f us vs)
   |none=>none
  |none=>none
 |p=>PI σ p
structure VC (q:Prop):Prop where
 get:q
theorem vM {q:Prop} (h:q):VC q:=⟨h⟩
def eqT (t u:Tok):Prop:=match u with
 |.none=>True
 |.full=>match t with|.full=>True|_=>False
 |.own k=>match t with|.own k'=>ifK (akM k k') True|_=>False
def CX (p q:PV) (K:Prop):Prop:=
 match q with
 |.any=>K
 |.int k a=>match p with
  |.int k' b=>ifK (decide (k'=k)) (VC (b=a)∧K)
  |_=>False
 |.bp a=>match p with
  |.bp b=>VC (b=a)∧K
  |.bool b=>VC (b=a)∧K
  |_=>False
 |.str a=>match p with
  |.str b=>VC (b=a)∧K
  |_=>False
 |.isl c t=>match p with
  |.isl d u=>VC (d=c)∧eqT u t∧K
  |.nils=>VC (c.cnt=0)∧K
  |_=>False
 |.nnl c=>match p with
  |.nnl d=>VC (d=c)∧K
  |.nils=>VC (c.cnt=0)∧K
  |.isl d _=>VC (d=c∧0<d.cnt)∧K
  |_=>False
 |.rsl k o n=>match p with
  |.rsl k' o' n'=>ifK (akM k k') (VC (o'=o∧n'=n)∧K)
  |.rsc k' _ n'=>ifK (akM k k') (VC (0=o∧n'=n)∧K)
  |_=>False
 |.rsc k es n=>match p with
  |.rsc k' es' n'=>ifK (akM k k'&&akM es es') (VC (n'=n)∧K)
  |_=>False
 |q=>VC (p=q)∧K
def Gv:List PV→List PV→Prop→Prop
 | [],[],K=>K
 |p::ps,q::qs,K=>CX p q (Gv ps qs K)
 |_,_,_=>False
def II (σ:Sg) (p q:PV) (K:Prop):Prop:=
 match q with
 |.any=>K
 |.agg ds=>match sZ σ p with
  |some (.agg cs)=>Gv cs ds K
  |_=>False
 |.isl c t=>match t with
  |.none=>match p with
   |.isl d _=>VC (d=c)∧K
   |.nils=>VC (c.cnt=0)∧K
   |_=>False
  |t=>match sZ σ p with
   |some p'=>CX p' (.isl c t) K
   |none=>False
 |q=>match sZ σ p with
  |some p'=>CX p' q K
  |none=>False
def Gw (σ:Sg):List PV→List PV→Prop→Prop
 | [],[],K=>K
 |p::ps,q::qs,K=>II σ p q (Gw σ ps qs K)
 |_,_,_=>False
theorem CY {σ:Sg} {k k':Nat} (h:sgF σ k=some k') (hinj:∀x∈σ,sgB σ x.2=some x.1):sgB σ k'=some k:=by
 have:(k,k')∈σ:=by
  clear hinj;induction σ with
  |nil=>cases h
  |cons x r ih=>
   obtain⟨a,b⟩:=x;simp only[sgF]at h;cases hb:akM a k with
   |true=>rw[hb]at h;cases h;rw[akR hb];simp
   |false=>rw[hb]at h;exact amm _ (ih h)
 exact hinj _ this
def Ix.ren (ι:Ix) (σ:Sg):Ix:=⟨fun k=>(sgB σ k).bind ι.o,fun k=>(sgB σ k).bind ι.t,fun k b=>∃k0,sgB σ k=some k0∧ι.x k0 b⟩
structure tq (σ:Sg) (ι ι1:Ix):Prop where
 o:∀k k' b,sgF σ k=some k'→ι.o k=some b→ι1.o k'=some b
 t:∀k k' x,sgF σ k=some k'→ι.t k=some x→ι1.t k'=some x
theorem qI {σ:Sg} (hinj:∀x∈σ,sgB σ x.2=some x.1) (ι:Ix):tq σ ι (ι.ren σ):=
 ⟨fun k k' b h hb=>by simp[Ix.ren,CY h hinj,hb],fun k k' b h hb=>by simp[Ix.ren,CY h hinj,hb]⟩
section
variable {S:Imm} {w:World} {ι ι1:Ix} {σ:Sg} (hinj:tq σ ι ι1)
include hinj
theorem Ms {p q:PV} (h:PI σ p=some q) {v:Value} (hr:Rep S w ι p v):Rep S w ι1 q v:=by
 have key:∀{k k' b:Nat},sgF σ k=some k'→ι.o k=some b→ι1.o k'=some b:=fun h hb=>hinj.o _ _ _ h hb;have keyt:∀{k k':Nat} {x},sgF σ k=some k'→ι.t k=some x→ι1.t k'=some x:=fun h hb=>hinj.t _ _ _ h hb;unfold PI at h;split at h
 ·split at h
  ·rename_i hs;cases h
   cases hr with
   |rsl _ _ _ _ b cap hk hc hr=>exact .rsl _ _ _ _ _ _ (key hs hk) hc hr
   |rslz _ _ _ b o hk=>exact .rslz _ _ _ _ _ (key hs hk)
  ·cases h
 ·split at h
  ·rename_i hs;cases h
   cases hr with|rp _ _ _ b hk=>exact .rp _ _ _ _ (key hs hk)
  ·cases h
 ·split at h
  ·rename_i hs;cases h
   cases hr with|rpe _ _ _ _ _ b hk=>exact .rpe _ _ _ _ _ _ (key hs hk)
  ·cases h
 ·split at h
  ·rename_i hs;cases h
   cases hr with|rm _ _ b hk=>exact .rm _ _ _ (key hs hk)
  ·cases h
 ·split at h
  ·rename_i hs;cases h
   cases hr with|row _ _ _ _ cap hc=>exact .row _ _ _ _ _ hc
  ·cases h
 ·split at h
  ·rename_i hs;cases h
   cases hr;exact .rowp _ _ _ _ _ _
  ·cases h
 ·rename_i c t
  split at h
  ·rename_i k
   split at h
   ·rename_i hs;cases h
    cases hr with
    |islnil _ _ _ hc=>exact .islnil _ _ _ hc
    |isl _ _ _ b off cap hc hs' hh hf ho=>
     refine .isl _ _ _ _ _ _ hc hs' hh (fun e=>by cases e) (fun k1 e=>?_)
     cases e
     rcases ho k rfl with h0|⟨b1,n,g1,g2⟩
     ·exact .inl h0
     ·exact .inr ⟨b1,n,keyt hs g1,g2⟩
   ·cases h;exact(hr.drop.toNoI).up _
  ·cases h;exact(hr.toNoI).up _
  ·cases h;exact(j6 (p:=.isl c .full) rfl hr).up _
 ·cases h;exact .any _ _
 ·split at h
  ·rename_i hs;cases h
   cases hr with|rsc _ _ _ _ b cap hk hc he hr=>exact .rsc _ _ _ _ _ _ (key hs hk) hc he hr
  ·cases h
 ·cases h;cases hr;exact .sln _ _ _ _
 ·exact(j6 h hr).up _
theorem tC:∀{ps qs:List PV},qH σ ps=some qs→qs.length=ps.length∧∀i,i<ps.length→∀{v:Value},Rep S w ι (aH ps i) v→Rep S w ι1 (aH qs i) v:=by
 intro ps;induction ps with
 |nil=>intro qs h;simp[qH]at h;subst h;exact⟨rfl,fun i hi=>by simp at hi⟩
 |cons p ps ih=>
  intro qs h;unfold qH at h;split at h
  ·rename_i y hy
   split at h
   ·rename_i ys hys
    cases h
    obtain⟨h1,h2⟩:=ih hys;refine⟨by simp[h1],fun i hi=>?_⟩
    cases i with
    |zero=>intro v hr;exact Ms hinj hy hr
    |succ i=>exact h2 i (by simpa using hi)
   ·cases h
  ·cases h
theorem xQ {p q:PV} (h:sZ σ p=some q) {v:Value} (hr:Rep S w ι p v):Rep S w ι1 q v:=by
 unfold sZ at h;split at h
 ·split at h
  ·rename_i ds hds
   cases h
   obtain⟨h1,h2⟩:=tC hinj hds (S:=S) (w:=w);cases hr with|agg _ _ vs hl hh=>exact .agg _ _ _ (h1.trans hl) (fun i hi=>h2 i qqO (hh i qqO))
  ·cases h
 ·split at h
  ·rename_i ds hds
   cases h
   obtain⟨h1,h2⟩:=tC hinj hds (S:=S) (w:=w);cases hr with|tup _ _ vs hl hh=>exact .tup _ _ _ (h1.trans hl) (fun i hi=>h2 i qqO (hh i qqO))
  ·cases h
 ·split at h
  ·rename_i us hus
   split at h
   ·rename_i vs hvs
    cases h
    obtain⟨h1,h2⟩:=tC hinj hus (S:=S) (w:=w);obtain⟨g1,g2⟩:=tC hinj hvs (S:=S) (w:=w);cases hr with|fn _ _ _ _ us' vs' hk hl hu hv=>exact .fn _ _ _ _ _ _ (h1.trans hk) (g1.trans hl) (fun i hi=>h2 i qqO (hu i qqO)) (fun i hi=>g2 i qqO (hv i qqO))
   ·cases h
  ·cases h
 ·exact Ms hinj h hr
end
theorem tF {σ:Sg} (hinj:∀x∈σ,sgB σ x.2=some x.1) {S:Imm} {w:World} {ι:Ix} {p q:PV} (h:sZ σ p=some q) {v:Value} (hr:Rep S w ι p v):Rep S w (ι.ren σ) q v:=xQ (qI hinj ι) h hr
theorem ow {p q:PV} {K:Prop} (h:CX p q K):K∧∀{S:Imm} {w:World} {ι:Ix} {v:Value},Rep S w ι p v→Rep S w ι q v:=by
 unfold CX at h;split at h
 ·exact⟨h,fun _=>.any _ _⟩
 ·split at h
  ·rw[aK]at h
   obtain⟨h1,⟨h2⟩,h3⟩:=h;have h1:=of_decide_eq_true h1;subst h1;subst h2;exact⟨h3,fun hr=>hr⟩
  ·exact h.elim
 ·split at h
  ·obtain⟨⟨h1⟩,h2⟩:=h;subst h1;exact⟨h2,fun hr=>hr⟩
  ·obtain⟨⟨h1⟩,h2⟩:=h;subst h1;exact⟨h2,fun hr=>by cases hr;constructor⟩
  ·exact h.elim
 ·split at h
  ·obtain⟨⟨h1⟩,h2⟩:=h;subst h1;exact⟨h2,fun hr=>hr⟩
  ·exact h.elim
 ·rename_i c t
  split at h
  ·rename_i d u
   obtain⟨⟨h1⟩,h2,h3⟩:=h;subst h1;refine⟨h3,fun hr=>?_⟩;unfold eqT at h2;split at h2
   ·exact hr.drop
   ·split at h2
    ·exact hr
    ·exact h2.elim
   ·split at h2
    ·rw[aK]at h2;have:=akR h2.1;subst this;exact hr
    ·exact h2.elim
  ·obtain⟨⟨h1⟩,h2⟩:=h
   exact⟨h2,fun hr=>by cases hr;exact .islnil _ _ _ h1⟩
  ·exact h.elim
 ·split at h
  ·obtain⟨⟨h1⟩,h2⟩:=h;subst h1;exact⟨h2,fun hr=>hr⟩
  ·obtain⟨⟨h1⟩,h2⟩:=h;exact⟨h2,fun hr=>by cases hr;exact .nnl0 _ _ h1⟩
  ·obtain⟨⟨h1,h0⟩,h2⟩:=h
   subst h1;exact⟨h2,fun hr=>by
    cases hr with
    |islnil _ _ _ hc=>omega
    |isl _ _ _ b off cap hc hs hh hf ho=>exact .nnl1 _ _ _ _ _ h0 hc hs hh⟩
  ·exact h.elim
 ·split at h
  ·rw[aK]at h
   obtain⟨h1,⟨h2,h3⟩,h4⟩:=h;have h1:=akR h1;subst h1;subst h2;subst h3;exact⟨h4,fun hr=>hr⟩
  ·rw[aK]at h
   obtain⟨h1,⟨h2,h3⟩,h4⟩:=h;have h1:=akR h1;subst h1;subst h2;subst h3;exact⟨h4,fun hr=>hr.dropC⟩
  ·exact h.elim
 ·split at h
  ·simp only[aK,akQ]at h
   obtain⟨⟨h1,h2⟩,⟨h3⟩,h4⟩:=h;have h1:=akR h1;have h2:=akR h2;subst h1;subst h2;subst h3;exact⟨h4,fun hr=>hr⟩
  ·exact h.elim
 ·obtain⟨⟨h1⟩,h2⟩:=h;subst h1;exact⟨h2,fun hr=>hr⟩
theorem yV:∀{ps qs:List PV} {K:Prop},Gv ps qs K→K∧ps.length=qs.length∧∀i {S:Imm} {w:World} {ι:Ix} {v:Value},Rep S w ι (aH ps i) v→Rep S w ι (aH qs i) v:=by
 intro ps;induction ps with
 |nil=>intro qs K h;cases qs with
  |nil=>exact⟨h,rfl,fun i _ _ _ _ hr=>hr⟩
  |cons=>exact h.elim
 |cons p ps ih=>intro qs K h;cases qs with
  |nil=>exact h.elim
  |cons q qs=>
   obtain⟨h,h1⟩:=ow h;obtain⟨h,h2,h3⟩:=ih h;refine⟨h,by simp[h2],fun i _ _ _ _ hr=>?_⟩
   cases i with
   |zero=>exact h1 hr
   |succ i=>exact h3 i hr
theorem tH {σ:Sg} (hinj:∀x∈σ,sgB σ x.2=some x.1) {p q:PV} {K:Prop} (h:II σ p q K):K∧∀{S:Imm} {w:World} {ι:Ix} {v:Value},Rep S w ι p v→Rep S w (ι.ren σ) q v:=by
 unfold II at h;split at h
 ·exact⟨h,fun _=>.any _ _⟩
 ·split at h
  ·rename_i cs hcs
   obtain⟨h,h1,h2⟩:=yV h;refine⟨h,fun hr=>?_⟩;have:=tF hinj hcs hr;cases this with|agg _ _ vs hl hh=>exact .agg _ _ _ (h1.symm.trans hl) (fun i hi=>h2 i (hh i qqO))
  ·exact h.elim
 ·rename_i c t
  split at h
  ·split at h
   ·rename_i d u
    obtain⟨⟨e⟩,h⟩:=h;subst e;exact⟨h,fun hr=>by
     have:=hr.drop;cases this with
     |islnil _ _ _ hc=>exact .islnil _ _ _ hc
     |isl _ _ _ b off cap hc hs hh hf ho=>exact .isl _ _ _ _ _ _ hc hs hh hf (fun k e=>by cases e)⟩
   ·obtain⟨⟨e⟩,h⟩:=h
    exact⟨h,fun hr=>by cases hr;exact .islnil _ _ _ e⟩
   ·exact h.elim
  ·split at h
   ·rename_i p' hp
    obtain⟨h,h1⟩:=ow h;exact⟨h,fun hr=>h1 (tF hinj hp hr)⟩
   ·exact h.elim
 ·split at h
  ·rename_i p' hp
   obtain⟨h,h1⟩:=ow h;exact⟨h,fun hr=>h1 (tF hinj hp hr)⟩
  ·exact h.elim
theorem yX {σ:Sg} (hinj:∀x∈σ,sgB σ x.2=some x.1):∀{ps qs:List PV} {K:Prop},Gw σ ps qs K→K∧ps.length=qs.length∧∀i {S:Imm} {w:World} {ι:Ix} {v:Value},Rep S w ι (aH ps i) v→Rep S w (ι.ren σ) (aH qs i) v:=by
 intro ps;induction ps with
 |nil=>intro qs K h;cases qs with
  |nil=>exact⟨h,rfl,fun i _ _ _ _ hr=>.any _ _⟩
  |cons=>exact h.elim
 |cons p ps ih=>intro qs K h;cases qs with
  |nil=>exact h.elim
  |cons q qs=>
   obtain⟨h,h1⟩:=tH hinj h;obtain⟨h,h2,h3⟩:=ih h;refine⟨h,by simp[h2],fun i _ _ _ _ hr=>?_⟩
   cases i with
   |zero=>exact h1 hr
   |succ i=>exact h3 i hr
def PK (p q:PV):Prop:=
 match q with
 |.agg qs=>(match p with|.agg ps=>Gv ps qs True|_=>False)
 |q=>CX p q True
def Xd:List PV→List PV→Prop
 | [],[]=>True
 |p::ps,q::qs=>PK p q∧Xd ps qs
 |_,_=>False
def eqR (p q:PV):Prop:=
 match q with
 |.tup qs=>(match p with|.tup ps=>Xd ps qs|_=>False)
 |q=>PK p q
theorem A9 {p q:PV} (h:PK p q) {S:Imm} {w:World} {ι:Ix} {v:Value} (hr:Rep S w ι p v):Rep S w ι q v:=by
 unfold PK at h;split at h
 ·split at h
  ·obtain⟨_,h1,h2⟩:=yV h
   cases hr with|agg _ _ vs hl hh=>exact .agg _ _ _ (h1.symm.trans hl) (fun i hi=>h2 i (hh i qqO))
  ·exact h.elim
 ·exact(ow h).2 hr
theorem PL:∀{ps qs:List PV},Xd ps qs→ps.length=qs.length∧∀i {S:Imm} {w:World} {ι:Ix} {v:Value},Rep S w ι (aH ps i) v→Rep S w ι (aH qs i) v:=by
 intro ps;induction ps with
 |nil=>intro qs h;cases qs with
  |nil=>exact⟨rfl,fun i _ _ _ _ hr=>hr⟩
  |cons=>exact h.elim
 |cons p ps ih=>intro qs h;cases qs with
  |nil=>exact h.elim
  |cons q qs=>
   obtain⟨h1,h2⟩:=ih h.2;refine⟨by simp[h1],fun i _ _ _ _ hr=>?_⟩
   cases i with
   |zero=>exact A9 h.1 hr
   |succ i=>exact h2 i hr
theorem Sup.via {p q:PV} (h:eqR p q):Sup p q:=⟨fun hr=>by
 unfold eqR at h;split at h
 ·split at h
  ·obtain⟨h1,h2⟩:=PL h
   cases hr with|tup _ _ vs hl hh=>exact .tup _ _ _ (h1.symm.trans hl) (fun i hi=>h2 i (hh i qqO))
  ·exact h.elim
 ·exact A9 h hr⟩
def Xe (σ:Sg) (c c1:CL) (K:Prop):Prop:=
 match c1 with
 |.pv qs=>match c with
  |.pv ps=>Gw σ ps qs K
  |_=>False
 |.ints k ys=>match c with
  |.ints k' xs=>ifK (decide (k'=k)) (VC (xs=ys)∧K)
  |_=>False
 |.bools ys=>match c with
  |.bools xs=>VC (xs=ys)∧K
  |_=>False
 |.strs ys=>match c with
  |.strs xs=>VC (xs=ys)∧K
  |_=>False
 |.rows k ys=>match c with
  |.rows k' xs=>ifK (decide (k'=k)) (VC (xs=ys)∧K)
  |_=>False
 |.recs m ys=>match c with
  |.recs m' xs=>ifK (akM m' m) (VC (xs=ys∧eZ xs)∧K)
  |_=>False
 |_=>False
def tJ (σ:Sg):List (PV × PV)→List (PV × PV)→Prop→Prop
 | [],[],K=>K
 |(p,u)::ps,(q,v)::qs,K=>II σ p q (II σ u v (tJ σ ps qs K))
 |_,_,_=>False
def IJ (a b:RC) (D:Nat→Prop) (f:Nat→Nat) (K:Prop):Prop:=
 match b with
 |.ints k c=>match a with
  |.ints k' c'=>ifK (decide (k'=k)) (VC (∀i,D i→c' (f i)=c i)∧K)
  |_=>False
 |.recs m c=>match a with
  |.recs m' c'=>ifK (akM m' m) (VC (∀i,D i→c' (f i)=c i)∧K)
  |_=>False
 |.fn e n c=>match a with
  |.fn e' n' c'=>ifK (akM e' e) (VC (n'=n∧∀i,D i→c' (f i)=c i)∧K)
  |_=>False
theorem tK {a b:RC} {D:Nat→Prop} {f:Nat→Nat} {K:Prop} (h:IJ a b D f K):K∧a.kin b∧∀i,D i→a.at (f i)=b.at i:=by
 unfold IJ at h;split at h
 ·split at h
  ·rw[aK]at h
   obtain⟨h1,⟨h2⟩,h3⟩:=h;have h1:=of_decide_eq_true h1;subst h1;exact⟨h3,rfl,fun i hi=>by simp only[RC.at];rw[h2 i hi]⟩
  ·exact h.elim
 ·split at h
  ·rw[aK]at h
   obtain⟨h1,⟨h2⟩,h3⟩:=h;have h1:=akR h1;subst h1;exact⟨h3,rfl,fun i hi=>by simp only[RC.at];rw[h2 i hi]⟩
  ·exact h.elim
 ·split at h
  ·rw[aK]at h
   obtain⟨h1,⟨h2,h4⟩,h3⟩:=h;have h1:=akR h1;subst h1;subst h2;exact⟨h3,rfl,fun i hi=>by simp only[RC.at];rw[h4 i hi]⟩
  ·exact h.elim
theorem iA.cong {S:Imm} {w:World} {ι ι1:Ix} {k k1:Nat} {all l:List Nat} {rc:RC} (h:iA S w ι k all l rc) (ho:ι1.o k1=ι.o k) (hx:ι1.x k1=ι.x k):iA S w ι1 k1 all l rc:=by
 obtain⟨b,arr,e,h1,h2,h3,h4,h5,h6,h7,h8⟩:=h;exact⟨b,arr,e,ho.trans h1,h2,h3,h4,h5,fun b'=>by rw[hx];exact h6 b',h7,h8⟩
theorem iA.with {S:Imm} {w:World} {ι:Ix} {k:Nat} {all l:List Nat} {rc rc':RC} (h:iA S w ι k all l rc) (hr:∀b,b∈all→rc.at b=rc'.at b):iA S w ι k all l rc':=by
 obtain⟨b,arr,e,h1,h2,h3,h4,h5,h6,h7,h8⟩:=h;refine⟨b,arr,e,h1,h2,h3,h4,h5,h6,fun r hm=>by rw[←hr r hm];exact h7 r hm,fun i hi=>?_⟩
 obtain⟨g1,cap,g2,g3⟩:=h8 i hi;rw[←hr _ g1];exact⟨g1,cap,g2,g3⟩
def RC.pre (g:Nat→Nat):RC→RC
 |.ints k c=>.ints k (fun b=>c (g b))
 |.recs m c=>.recs m (fun b=>c (g b))
 |.fn e n c=>.fn e n (fun b=>c (g b))
theorem RC.pre_at (g:Nat→Nat) (rc:RC) (b:Nat):(rc.pre g).at b=rc.at (g b):=by cases rc<;>rfl
theorem RC.pre_kin (g:Nat→Nat) (rc:RC):(rc.pre g).kin rc:=by cases rc<;>rfl
open Classical in
theorem vQ {S:Imm} {w:World} {ι:Ix} {k n:Nat} {f:Nat→Nat} {c:Nat→CL} {rc:RC} (h:fH S w ι k n f c) (hf:∀i,i<n→f i=2∧c i=rc.at i):gM S w ι k (.pmat n rc):=by
 obtain⟨b,arr,e,l,h1,h2,h3,h4,h5,h6,h7,h8⟩:=h;have hlen:((akE n).map l).length=n:=qqS;have hget:∀i,i<n→((akE n).map l).getD i 0=l i:=fun i hi=>by simp[akG,hi]
 have hmem:∀x,x∈(akE n).map l↔∃i,i<n∧l i=x:=fun x=>qqS;have hg:∀i,i<n→(if hx:∃j,j<n∧l j=l i then hx.choose else 0)=i:=fun i hi=>by
  have hx:∃j,j<n∧l j=l i:=⟨i,hi,rfl⟩;rw[dif_pos hx];exact h8 _ _ hx.choose_spec.1 hi (hf _ hx.choose_spec.1).1 (hf i hi).1 hx.choose_spec.2
 have hat:∀i,i<n→(rc.pre (fun x=>if hx:∃j,j<n∧l j=x then hx.choose else 0)).at (l i)=c i:=fun i hi=>by
  rw[RC.pre_at,hg i hi,(hf i hi).2]
 refine⟨(akE n).map l,(akE n).map l,rc.pre (fun x=>if hx:∃j,j<n∧l j=x then hx.choose else 0),⟨b,arr,e,h1,h2,qqO,h4,fun hb=>?_,fun b'=>?_,fun r hr=>?_,fun i hi=>?_⟩,RC.pre_kin _ _,hlen,?_,fun _ hb=>hb,fun i hi=>?_⟩
 ·obtain⟨i,hi,e⟩:=(hmem b).1 hb
  exact(h6 i hi (hf i hi).1).1 e
 ·rw[h5,hmem]
  exact or_congr Iff.rfl ⟨fun⟨i,hi,_,e⟩=>⟨i,hi,e⟩,fun⟨i,hi,e⟩=>⟨i,hi,(hf i hi).1,e⟩⟩
 ·obtain⟨i,hi,rfl⟩:=(hmem r).1 hr
  rw[hat i hi];exact(h6 i hi (hf i hi).1).2.1
 ·rw[hlen]at hi
  obtain⟨g1,g2,g3,cap,g4,g5,g6⟩:=h6 i hi (hf i hi).1;rw[hget i hi,hat i hi];exact⟨(hmem _).2 ⟨i,hi,rfl⟩,cap,g4,g6⟩
 ·refine(List.nodup_iff_pairwise_ne.2 ?_)
  rw[List.pairwise_map];refine List.Pairwise.imp_of_mem (R:=fun a b=>a<b) (fun{a b'} ha hb hlt e=>?_) List.pairwise_lt_range;have ha:=amn.1 ha;have hb:=amn.1 hb;have:=h8 a b' ha hb (hf a ha).1 (hf b' hb).1 e;omega
 ·rw[hget i hi,hat i hi,(hf i hi).2]
def Xf:CL→Prop
 |.recs m rs=>eZ rs
 |.ints _ _=>True
 |.bools _=>True
 |.strs _=>True
 |_=>False
theorem Xg {c:CL} (h:Xf c) {j:Nat} (hj:j<c.ncell) {S:Imm} {w:World} {ι:Ix} {v:Value} (hr:Rep S w ι (c.get j) v):Rep S w noI (c.get j) v:=by
 have key:lV c (fun d=>d=c):=by
  cases c<;>first|exact h.elim|rfl|exact⟨h,rfl⟩
 obtain⟨d,hd,_,_,hg⟩:=gX key;subst hd;exact hg j hj hr
def Xh (σ:Sg) (o o1:AO) (K:Prop):Prop:=
 match o1 with
 |.cells c1 fz1=>match o with
  |.cells c fz=>match fz1 with
   |true=>match fz with
    |true=>VC (c=c1)∧K
    |false=>False
   |false=>match fz with
    |true=>False
    |false=>Xe σ c c1 K
  |_=>False
 |.tok m n=>match o with
  |.tok m' n'=>ifK (akM m' m) (VC (n'=n)∧K)
  |_=>False
 |.map es=>match o with
  |.map ds=>tJ σ ds es K
  |_=>False
 |.dfr=>match o with
  |.dfr=>K
  |_=>False
 |.ext G pre=>match o with
  |.ext G' pre'=>VC (G'=G∧pre'=pre)∧K
  |_=>False
 |.mat all l rc=>match o with
  |.mat all' l' rc'=>VC (all'=all∧l'=l)∧IJ rc' rc (fun b=>b∈all) (fun b=>b) K
  |_=>False
 |.pmat n rc=>match o with
  |.pmat n' rc'=>VC (n'=n)∧IJ rc' rc (fun i=>i<n) (fun i=>i) K
  |.mat all l rc'=>VC (l.length=n∧l.Nodup∧∀b,b∈all→b∈l)∧IJ rc' rc (fun i=>i<n) (fun i=>l.getD i 0) K
  |.qmat n' f' c'=>VC (n'=n∧∀i,i<n→f' i=2∧c' i=rc.at i)∧K
  |_=>False
 |.qmat n f c=>match o with
  |.qmat n' f' c'=>VC (n'=n∧(∀i,i<n→f' i=f i)∧∀i,i<n→f i=2→c' i=c i)∧K
  |_=>False
 |.rowo c=>match o with
  |.rowo c'=>VC (c'=c)∧K
  |.cells c' fz=>match fz with
   |true=>False
   |false=>VC (c'=c∧Xf c)∧K
  |_=>False
 |.bld t e s=>match o with
  |.bld t' e' s'=>ifK (akM t' t&&akM e' e) (VC (s'=s)∧K)
  |_=>False
 |_=>False
def xR (σ:Sg) (H:Hp):Nat→Hp→Prop→Prop
 |_,[],K=>K
 |k1,o::r,K=>match o with
  |none=>jk (k1+1) fun k2=>xR σ H k2 r K
  |some o1=>match sgB σ k1 with
   |some k=>bR H k fun o=>Xh σ o o1 (jk (k1+1) fun k2=>xR σ H k2 r K)
   |none=>match o1 with
    |.tok _ 0=>jk (k1+1) fun k2=>xR σ H k2 r K
    |_=>False
def oL {α:Type}:Option α→Bool|some _=>true|none=>false
def eqO:Option Nat→Nat→Bool|some a,b=>akM a b|none,_=>false
def Gx (σ:Sg) (H H1:Hp):Sg→Bool
 | []=>true
 |(a,b)::r=>match eqO (sgB σ b) a&&eqO (sgF σ a) b&&(!oL (aA H a)||oL (aA H1 b))with|true=>Gx σ H H1 r|false=>false
def PN (σ:Sg) (H:Hp):Nat→Bool
 |0=>true
 |k+1=>match !oL (aA H k)||eqO (sgB σ k) k with|true=>PN σ H k|false=>false
def oh (σ:Sg) (p:Nat) (env:Env) (H:Hp) (env1:Env) (H1:Hp) (K:Prop):Prop:=
 ifK (Gx σ H H1 σ&&PN σ H p) (Gw σ env env1 (xR σ H 0 H1 K))
theorem CZ {o:Option Nat} {a:Nat}:eqO o a=true↔o=some a:=by
 cases o with
 |none=>simp[eqO]
 |some b=>simp[eqO,Nat.beq_eq]
theorem Ll {σ:Sg} {H H1:Hp}:∀{r:Sg},Gx σ H H1 r=true→∀x∈r,sgB σ x.2=some x.1∧sgF σ x.1=some x.2∧((aA H x.1).isSome→(aA H1 x.2).isSome):=by
 intro r;induction r with
 |nil=>intro _ x hx;simp at hx
 |cons y r ih=>
  intro h x hx;obtain⟨a,b⟩:=y;simp only[Gx]at h;split at h
  ·rename_i hb
   rcases al7.1 hx with e|hx
   ·subst e
    simp only[akQ,CZ,Bool.or_eq_true]at hb;refine⟨hb.1.1,hb.1.2,fun hs=>?_⟩;rcases hb.2 with h1|h1
    ·cases e:aA H a with
     |none=>rw[e]at hs;simp at hs
     |some o=>rw[e]at h1;simp[oL]at h1
    ·cases e:aA H1 b with
     |none=>rw[e]at h1;simp[oL]at h1
     |some o=>rfl
   ·exact ih h x hx
  ·cases h
theorem Bc {σ:Sg} {H:Hp}:∀{p:Nat},PN σ H p=true→∀k,k<p→aA H k≠none→sgB σ k=some k:=by
 intro p;induction p with
 |zero=>intro _ k hk;omega
 |succ p ih=>
  intro h k hk hne;simp only[PN]at h;split at h
  ·rename_i hb
   by_cases e:k=p
   ·subst e
    cases hg:aA H k with
    |none=>exact absurd hg hne
    |some o=>rw[hg]at hb;simpa [oL,CZ]using hb
   ·exact ih h k qqO hne
  ·cases h
theorem mM {σ:Sg} {k k1:Nat} (h:sgB σ k1=some k):(k,k1)∈σ:=by
 induction σ with
 |nil=>cases h
 |cons x r ih=>
  obtain⟨a,b⟩:=x;simp only[sgB]at h;cases hb:akM b k1 with
  |true=>rw[hb]at h;cases h;rw[akR hb];simp
  |false=>rw[hb]at h;exact amm _ (ih h)
section
variable {σ:Sg} (hinj:∀x∈σ,sgB σ x.2=some x.1)
include hinj
theorem PO {c c1:CL} {K:Prop} (h:Xe σ c c1 K):K∧c1.ncell=c.ncell∧∀j,j<c.ncell→∀{S:Imm} {w:World} {ι:Ix} {v:Value},Rep S w ι (c.get j) v→Rep S w (ι.ren σ) (c1.get j) v:=by
 unfold Xe at h;split at h
 ·split at h
  ·obtain⟨h,h1,h2⟩:=yX hinj h
   exact⟨h,h1.symm,fun j _ S w ι v hr=>h2 j hr⟩
  ·exact h.elim
 ·split at h
  ·rw[aK]at h
   obtain⟨h1,⟨h2⟩,h3⟩:=h;have h1:=of_decide_eq_true h1;subst h1;subst h2;exact⟨h3,rfl,fun j _ S w ι v hr=>by cases hr;exact .int _ _ _⟩
  ·exact h.elim
 ·split at h
  ·obtain⟨⟨h2⟩,h3⟩:=h;subst h2
   exact⟨h3,rfl,fun j _ S w ι v hr=>by cases hr;exact .bp _ _⟩
  ·exact h.elim
 ·split at h
  ·obtain⟨⟨h2⟩,h3⟩:=h;subst h2
   exact⟨h3,rfl,fun j _ S w ι v hr=>by cases hr;exact .str _ _⟩
  ·exact h.elim
 ·split at h
  ·rw[aK]at h
   obtain⟨h1,⟨h2⟩,h3⟩:=h;have h1:=of_decide_eq_true h1;subst h1;subst h2;exact⟨h3,rfl,fun j _ S w ι v hr=>hr.toNoI.up _⟩
  ·exact h.elim
 ·split at h
  ·rename_i m' xs
   rw[aK]at h;obtain⟨h1,⟨h2,h4⟩,h3⟩:=h;have h1:=akR h1;subst h1;subst h2;have ht:lV (.recs m' xs) (fun d=>d=.recs m' xs):=⟨h4,rfl⟩;obtain⟨d,rfl,d1,d2,d3⟩:=gX ht;exact⟨h3,rfl,fun j hj S w ι v hr=>(d3 j hj hr).up _⟩
  ·exact h.elim
 ·exact h.elim
theorem PS:∀{ds es:List (PV × PV)} {K:Prop},tJ σ ds es K→K∧ds.length=es.length∧∀i (h:i<ds.length) (h':i<es.length) {S:Imm} {w:World} {ι:Ix} {u v:Value},
 Rep S w ι ds[i].1 u→Rep S w ι ds[i].2 v→Rep S w (ι.ren σ) es[i].1 u∧Rep S w (ι.ren σ) es[i].2 v:=by
 intro ds;induction ds with
 |nil=>intro es K h;cases es with
  |nil=>exact⟨h,rfl,fun i hi=>by simp at hi⟩
  |cons=>exact h.elim
 |cons d ds ih=>intro es K h;cases es with
  |nil=>exact h.elim
  |cons e es=>
   obtain⟨p,u⟩:=d;obtain⟨q,v⟩:=e;obtain⟨h,h1⟩:=tH hinj h;obtain⟨h,h2⟩:=tH hinj h;obtain⟨h,h3,h4⟩:=ih h;refine⟨h,by simp[h3],fun i hi hi' S w ι a b ha hb=>?_⟩
   cases i with
   |zero=>exact⟨h1 ha,h2 hb⟩
   |succ i=>exact h4 i (by simpa using hi) (by simpa using hi') ha hb
theorem PU {o o1:AO} {K:Prop} (h:Xh σ o o1 K):K∧o1.isTok=o.isTok∧o1.isExt=o.isExt∧o1.excl=o.excl∧∀{S:Imm} {w:World} {ι:Ix} {k k1:Nat},sgB σ k1=some k→gM S w ι k o→gM S w (ι.ren σ) k1 o1:=by
 have ko:∀{ι:Ix} {k k1 b:Nat},sgB σ k1=some k→ι.o k=some b→(ι.ren σ).o k1=some b:=fun h hb=>by simp[Ix.ren,h,hb]
 have kt:∀{ι:Ix} {k k1:Nat},sgB σ k1=some k→(ι.ren σ).t k1=ι.t k:=fun h=>by simp[Ix.ren,h]
 unfold Xh at h;split at h
 ·split at h
  ·rename_i c1 fz1 c fz
   split at h
   ·split at h
    ·obtain⟨⟨h1⟩,h⟩:=h
     subst h1;exact⟨h,rfl,rfl,rfl,fun hk ⟨b,g1,g2⟩=>⟨b,ko hk g1,g2⟩⟩
    ·exact h.elim
   ·split at h
    ·exact h.elim
    ·obtain⟨h,h1,h2⟩:=PO hinj h
     refine⟨h,rfl,rfl,rfl,fun hk ⟨b,arr,e,g1,g2,g3,g4,g5⟩=>⟨b,arr,e,ko hk g1,g2,qqO,fun j hj=>?_,g5⟩⟩;have:=g4 j qqO;exact h2 j qqO this
  ·exact h.elim
 ·split at h
  ·rw[aK]at h
   obtain⟨h1,⟨h2⟩,h⟩:=h;have h1:=akR h1;subst h1;subst h2;refine⟨h,rfl,rfl,rfl,fun hk ⟨g1,g2⟩=>⟨fun hz=>by rw[kt hk];exact g1 hz,fun hz=>?_⟩⟩
   obtain⟨b,arr,e,q1,q2,q3⟩:=g2 hz;exact⟨b,arr,e,by rw[kt hk];exact q1,q2,q3⟩
  ·exact h.elim
 ·split at h
  ·obtain⟨h,h1,h2⟩:=PS hinj h
   refine⟨h,rfl,rfl,rfl,fun hk ⟨b,ents,clock,g1,g2,g3,g4⟩=>⟨b,ents,clock,ko hk g1,g2,qqO,fun i hi hi'=>?_⟩⟩;obtain⟨q1,q2⟩:=g4 i qqO hi';exact h2 i qqO hi q1 q2
  ·exact h.elim
 ·split at h
  ·exact⟨h,rfl,rfl,rfl,fun hk ⟨b,g1,g2⟩=>⟨b,ko hk g1,g2⟩⟩
  ·exact h.elim
 ·split at h
  ·obtain⟨⟨h1,h2⟩,h⟩:=h
   subst h1;subst h2;refine⟨h,rfl,rfl,rfl,fun{S w ι k k1} hk ⟨g1,g2,g3⟩=>?_⟩;have hx:(ι.ren σ).x k1=ι.x k:=by funext b;simp[Ix.ren,hk]
   exact⟨by rw[hx];exact g1,g2,by rw[hx];exact g3⟩
  ·exact h.elim
 ·split at h
  ·obtain⟨⟨h1,h2⟩,h⟩:=h
   subst h1;subst h2;obtain⟨h,h3,h4⟩:=tK h;refine⟨h,rfl,rfl,rfl,fun{S w ι k k1} hk hr=>?_⟩;have hx:(ι.ren σ).x k1=ι.x k:=by funext b;simp[Ix.ren,hk]
   have hr:iA S w ι k _ _ _:=hr;exact(hr.cong (by simp[Ix.ren,hk]) hx).with h4
  ·exact h.elim
 ·split at h
  ·obtain⟨⟨h1⟩,h⟩:=h
   subst h1;obtain⟨h,h3,h4⟩:=tK h;refine⟨h,rfl,rfl,rfl,fun{S w ι k k1} hk hr=>?_⟩;have hx:(ι.ren σ).x k1=ι.x k:=by funext b;simp[Ix.ren,hk]
   obtain⟨all,l,rc',g1,g2,g3,g4,g6,g5⟩:=hr;exact⟨all,l,rc',g1.cong (by simp[Ix.ren,hk]) hx,RC.kin_trans g2 h3,g3,g4,g6,fun i hi=>(g5 i hi).trans (h4 i hi)⟩
  ·rename_i all l rc'
   obtain⟨⟨h1,h2,h6⟩,h⟩:=h;obtain⟨h,h3,h4⟩:=tK h;refine⟨h,rfl,rfl,rfl,fun{S w ι k k1} hk hr=>?_⟩;have hx:(ι.ren σ).x k1=ι.x k:=by funext b;simp[Ix.ren,hk]
   have hr:iA S w ι k _ _ _:=hr;exact⟨all,l,rc',hr.cong (by simp[Ix.ren,hk]) hx,h3,h1,h2,h6,h4⟩
  ·obtain⟨⟨h1,h2⟩,h⟩:=h
   subst h1;refine⟨h,rfl,rfl,rfl,fun{S w ι k k1} hk hr=>?_⟩;have hx:(ι.ren σ).x k1=ι.x k:=by funext b;simp[Ix.ren,hk]
   have hr:fH S w ι k _ _ _:=hr;exact vQ (hr.cong (by simp[Ix.ren,hk]) hx) h2
  ·exact h.elim
 ·split at h
  ·obtain⟨⟨h1,h2,h3⟩,h⟩:=h
   subst h1;refine⟨h,rfl,rfl,rfl,fun{S w ι k k1} hk hr=>?_⟩;have hx:(ι.ren σ).x k1=ι.x k:=by funext b;simp[Ix.ren,hk]
   have hr:fH S w ι k _ _ _:=hr;exact(hr.cong (by simp[Ix.ren,hk]) hx).with h2 h3
  ·exact h.elim
 ·split at h
  ·obtain⟨⟨h1⟩,h⟩:=h
   subst h1;exact⟨h,rfl,rfl,rfl,fun hk ⟨b,g1,g2⟩=>⟨b,ko hk g1,g2⟩⟩
  ·split at h
   ·exact h.elim
   ·obtain⟨⟨h1,h2⟩,h⟩:=h
    subst h1;exact⟨h,rfl,rfl,rfl,fun hk ⟨b,arr,e,g1,g2,g3,g4,g5⟩=>⟨b,ko hk g1,arr,e,g2,g3,fun j hj=>Xg h2 hj (g4 j hj),g5⟩⟩
  ·exact h.elim
 ·split at h
  ·rw[aK,akQ]at h
   obtain⟨⟨h1,h2⟩,⟨h3⟩,h⟩:=h;have h1:=akR h1;have h2:=akR h2;subst h1;subst h2;subst h3;refine⟨h,rfl,rfl,rfl,fun{S w ι k k1} hk hr=>?_⟩;have hx:(ι.ren σ).x k1=ι.x k:=by funext b;simp[Ix.ren,hk]
   have hr:mE S w ι k _ _ _:=hr;exact hr.cong (by simp[Ix.ren,hk]) hx
  ·exact h.elim
 ·exact h.elim
theorem Lm {H:Hp}:∀{l:Hp} {k1:Nat} {K:Prop},xR σ H k1 l K→K∧∀i o1,aA l i=some o1→
 (∃k o,sgB σ (k1+i)=some k∧aA H k=some o∧o1.isTok=o.isTok∧o1.isExt=o.isExt∧o1.excl=o.excl∧∀{S:Imm} {w:World} {ι:Ix},gM S w ι k o→gM S w (ι.ren σ) (k1+i) o1)∨
 (sgB σ (k1+i)=none∧∃m,o1=.tok m 0):=by
 intro l;induction l with
 |nil=>intro k1 K h;exact⟨h,fun i o1 ho=>by simp[aA]at ho⟩
 |cons o l ih=>
  intro k1 K h;unfold xR at h;have shift:∀i,k1+1+i=k1+(i+1):=fun i=>qqO;split at h
  ·rw[jJ]at h
   obtain⟨h,h1⟩:=ih h;refine⟨h,fun i o1 ho=>?_⟩;cases i with
   |zero=>simp[aA]at ho
   |succ i=>rw[←shift];exact h1 i o1 ho
  ·rename_i o1
   split at h
   ·rename_i k hk
    rw[bE]at h;obtain⟨ob,hob,h⟩:=h;obtain⟨h,a1,a2,a3,a4⟩:=PU hinj h;rw[jJ]at h;obtain⟨h,h1⟩:=ih h;refine⟨h,fun i o2 ho=>?_⟩;cases i with
    |zero=>
     simp only[aA,Option.some.injEq]at ho;subst ho;exact .inl ⟨k,ob,hk,hob,a1,a2,a3,fun hh=>a4 hk hh⟩
    |succ i=>rw[←shift];exact h1 i o2 ho
   ·rename_i hk
    split at h
    ·rename_i m
     rw[jJ]at h;obtain⟨h,h1⟩:=ih h;refine⟨h,fun i o2 ho=>?_⟩;cases i with
     |zero=>simp only[aA,Option.some.injEq]at ho;exact .inr ⟨hk,m,ho.symm⟩
     |succ i=>rw[←shift];exact h1 i o2 ho
    ·exact h.elim
end
theorem jr {B:Imm→World→Prop} {σ:Sg} {p:Nat} {env env1:Env} {H H1:Hp} {K:Prop} (h:oh σ p env H env1 H1 K):K∧Sub B p env H env1 H1:=by
 unfold oh at h;rw[aK,akQ]at h;obtain⟨⟨h1,h2⟩,h⟩:=h;have hs:=Ll h1;have hinj:∀x∈σ,sgB σ x.2=some x.1:=fun x hx=>(hs x hx).1;obtain⟨h,h3,h4⟩:=yX hinj h;obtain⟨h,h5⟩:=Lm hinj h;simp only[akS]at h5;refine⟨h,fun S0 w0 ι0 H0 a w hA=>?_⟩;obtain⟨S,ι,hb,M,R,D,D',T⟩:=hA.ex;have hfun:∀{k k1 k2:Nat},sgB σ k1=some k→sgB σ k2=some k→k1=k2:=fun e1 e2=>by
  have a1:=(hs _ (mM e1)).2.1;have a2:=(hs _ (mM e2)).2.1;simp only at a1 a2;rw[a1]at a2;exact Option.some.inj a2
 have hhas:∀{k k1:Nat} {o o1:AO} {b:Nat},sgB σ k1=some k→o1.isTok=o.isTok→o1.isExt=o.isExt→o1.excl=o.excl→(o1.has (ι.ren σ) k1 b↔o.has ι k b):=by
  intro k k1 o o1 b hk ht he hx;exact nO (by simp[Ix.ren,hk]) (by simp[Ix.ren,hk]) (by funext b;simp[Ix.ren,hk]) ht he hx b
 have hvirg:∀{k1 b m:Nat},sgB σ k1=none→¬(AO.tok m 0).has (ι.ren σ) k1 b:=by
  intro k1 b m hk hh;obtain⟨n,hh⟩:=hh;simp[Ix.ren,hk]at hh
 have hown:∀b,owned (ι.ren σ) H1 b→owned ι H b:=by
  rintro b ⟨k1,o1,g1,g2,g3⟩
  rcases h5 k1 o1 g1 with⟨k,o,q1,q2,q3,q4,q5,q6⟩|⟨q1,m,rfl⟩
  ·exact⟨k,o,q2,q5▸g2,(hhas q1 q3 q4 q5).1 g3⟩
  ·exact absurd g3 (hvirg q1)
 refine⟨S,ι.ren σ,hb,⟨?_,?_,?_,?_,M.imm⟩,⟨h3▸R.1,fun i hi=>h4 i (R.2 i qqO)⟩,⟨fun d hd=>?_,D.nodup⟩,D',?_⟩
 ·intro k1 o1 g1
  rcases h5 k1 o1 g1 with⟨k,o,q1,q2,q3,q4,q5,q6⟩|⟨q1,m,rfl⟩
  ·exact q6 (M.obj k o q2)
  ·exact⟨fun _=>by simp[Ix.ren,q1],fun h=>qqO⟩
 ·intro k1 b g1
  cases e:sgB σ k1 with
  |none=>simp[Ix.ren,e]at g1
  |some k=>
   simp only[Ix.ren,e,al6]at g1;obtain⟨o,q1,q2⟩:=M.liveO k b g1;have hsome:=(hs _ (mM e)).2.2 (by simp[q1])
   obtain⟨o1,ho1⟩:=akF.1 hsome;rcases h5 k1 o1 ho1 with⟨k',o',r1,r2,r3,_⟩|⟨r1,_⟩
   ·rw[e]at r1;cases r1;rw[q1]at r2;cases r2;exact⟨o1,ho1,r3.trans q2⟩
   ·rw[e]at r1;cases r1
 ·intro k1 b g1
  cases e:sgB σ k1 with
  |none=>simp[Ix.ren,e]at g1
  |some k=>
   simp only[Ix.ren,e,al6]at g1;obtain⟨o,q1,q2⟩:=M.liveT k b g1;have hsome:=(hs _ (mM e)).2.2 (by simp[q1])
   obtain⟨o1,ho1⟩:=akF.1 hsome;rcases h5 k1 o1 ho1 with⟨k',o',r1,r2,r3,_⟩|⟨r1,_⟩
   ·rw[e]at r1;cases r1;rw[q1]at r2;cases r2;exact⟨o1,ho1,r3.trans q2⟩
   ·rw[e]at r1;cases r1
 ·intro k1 k2 o1 o2 b g1 g2 b1 b2
  rcases h5 k1 o1 g1 with⟨ka,oa,q1,q2,q3,q4,q5,q6⟩|⟨q1,m,rfl⟩
  ·rcases h5 k2 o2 g2 with⟨kb,ob,r1,r2,r3,r4,r5,r6⟩|⟨r1,m,rfl⟩
   ·have:=M.dist ka kb oa ob b q2 r2 ((hhas q1 q3 q4 q5).1 b1) ((hhas r1 r3 r4 r5).1 b2)
    subst this;exact hfun q1 r1
   ·exact absurd b2 (hvirg r1)
  ·exact absurd b1 (hvirg q1)
 ·obtain⟨b,q1,q2,q3⟩:=D.all d hd
  exact⟨b,q1,q2,fun hh=>q3 (hown b hh)⟩
 ·refine⟨T.below,T.same,T.keeps,T.immN,fun b hh=>T.own b (hown b hh),fun k hk b hi=>?_,fun k hk b n hi=>?_⟩
  ·have:=T.protO k hk b hi
   obtain⟨o,ho,_⟩:=M.liveO k b this;simp[Ix.ren,Bc h2 k hk (by rw[ho];simp),this]
  ·obtain⟨b',n',r1,r2⟩:=T.protT k hk b n hi
   obtain⟨o,ho,_⟩:=M.liveT k _ r1;exact⟨b',n',by simp[Ix.ren,Bc h2 k hk (by rw[ho];simp),r1],r2⟩
def C8:List Oper→List Nat
 | []=>[]
 |o::r=>match o.dst with|some d=>d::C8 r|none=>C8 r
def dstsOf:Code→List Nat
 |.region _ ops _=>C8 ops.toList
 |.seq a b=>dstsOf a++dstsOf b
 |.cond _ a b=>dstsOf a++dstsOf b
 |.block _ c=>dstsOf c
 |.loop c=>dstsOf c
 |.scope c=>dstsOf c
 |.rangeFunc _ ps a b=>ps.toList++dstsOf a++dstsOf b
 |_=>[]
def Xi:Nat→Env→List Nat→Env
 |_,[],_=>[]
 |i,v::r,ds=>(match gW i ds with|true=>.any|false=>v)::Xi (i+1) r ds
def Xj:Env→List (Nat × PV)→Env
 |env,[]=>env
 |env,(i,v)::r=>Xj (env.set i v) r
def stE (c:Code) (env:Env) (us:List (Nat × PV)):Env:=Xj (Xi 0 env (dstsOf c)) us
def lg (extra:Sg) (H:Hp):Nat→Hp→Sg
 |_,[]=>[]
 |k,o::r=>match o with
  |none=>lg extra H (k+1) r
  |some _=>match sgB extra k with
   |some a=>(a,k)::lg extra H (k+1) r
   |none=>match aA H k with
    |some _=>match sgF extra k with
     |none=>(k,k)::lg extra H (k+1) r
     |some _=>lg extra H (k+1) r
    |none=>lg extra H (k+1) r
def gZ (σ:Sg) (K:Sg→Prop):Prop:=
 match σ with
 | []=>K []
 |(a,b)::r=>jk a fun a=>jk b fun b=>gZ r fun r=>K ((a,b)::r)
theorem jf (σ:Sg) (K:Sg→Prop):gZ σ K=K σ:=by
 induction σ generalizing K with
 |nil=>rfl
 |cons x r ih=>obtain⟨a,b⟩:=x;simp only[gZ,jJ,ih]
structure Nx (q:Prop):Prop where
 get:q
theorem nM {q:Prop} (h:q):Nx q:=⟨h⟩
structure Ok:Prop where
section
variable {P:Program} {r:Option Nat} {τ:TypeId→Option TE} {B:Imm→World→Prop} {p:Nat}
structure Walk (P:Program) (r:Option Nat) (B:Imm→World→Prop) (τ:TypeId→Option TE) (CP:CPT) (YP:YPT):Prop where
 hB:BOK B
 hm:P.follows .mixedOrders=true
 hτ:bB P τ
 hC:jO P B CP
 hY:mJ P r B YP
theorem aV {X:Type} (I:X→Prop) (us:X→List (Nat × PV)) (hs:X→List (Nat × AO)) (μ:X→Nat) (x0:X) {md rf CP YP} (W:Walk P r B τ CP YP)
 {c:Code} {n:Nat} {Q:Exit→Env→Hp→Prop} {env:Env} {H:Hp} (hok:eu c=true) (hI:I x0)
 (h0:gV (hs x0) H fun H1=>cZ (stE c env (us x0)) fun env1=>gZ (lg [] H 0 H1) fun σ=>oh σ p env H env1 H1 Ok)
 (hb:∀x,I x→gV (hs x) H fun H1=>cZ (stE c env (us x)) fun env1=>ev P r B p τ md rf CP YP c n env1 H1 fun e env' H' _=>match e with
   |.normal=>Nx (∃(x':X) (extra:Sg),(I x'∧μ x'<μ x)∧gV (hs x') H fun H1=>cZ (stE c env (us x')) fun env1=>gZ (lg extra H' 0 H1) fun σ=>oh σ p env' H' env1 H1 Ok)
   |e=>Q e env' H'):Lp md rf CP YP n (AW P r B p (.loop c) Q env H):=by
 refine⟨Mr (X:={x:X // I x}) (fun x=>(stE c env (us x.1),bC H (hs x.1))) (fun x=>μ x.1) ⟨x0,hI⟩ ?_ fun x=>?_⟩
 ·simp only[iH,bP,jf]at h0
  exact(jr h0).2
 ·have h:=hb x.1 x.2
  simp only[iH,bP,jf]at h;refine(kZ W.hB W.hm W.hτ W.hC W.hY c hok _ _ _ _ h).mono ?_
  rintro e env' H' ⟨_,h⟩
  cases e with
  |normal=>
   obtain⟨x',extra,⟨h0,h1⟩,h2⟩:=h.get;exact⟨⟨x',h0⟩,h1,(jr h2).2⟩
  |_=>exact h
end
abbrev CT:=List PV→Nat→Hp→KR→Prop
def COK (P:Program) (g:FuncId) (C:CT):Prop:=∀args n H K,C args n H K→∃v sets accs news,K v sets accs news∧iJ P g args H v sets accs news
def aB (g:FuncId) (C:CT) (CP:CPT):CPT:=fun f args n H K=>match akM f g with|true=>C args n H K|false=>CP f args n H K
theorem au {P:Program} {g:FuncId} {C:CT} {CP:CPT} (h:COK P g C) (hC:bD P CP):bD P (aB g C CP):=by
 intro f args n H K hk;unfold aB at hk;cases hb:akM f g with
 |true=>rw[hb]at hk;rw[akR hb];exact h _ _ _ _ hk
 |false=>rw[hb]at hk;exact hC _ _ _ _ _ hk
abbrev PSp:=List PV→(PV→Prop)→Prop
def POK (P:Program) (g:FuncId) (C:PSp):Prop:=∀as K,C as K→∃v,K v∧aD P g as v
def aP (C:PSp):CT:=fun args n H K=>A8 args fun as=>C as fun v=>K v [] [] []
theorem aC {P:Program} {g:FuncId} {C:PSp} (h:POK P g C):COK P g (aP C):=by
 intro args n H K hk;unfold aP A8 at hk;split at hk
 ·rename_i as ha
  rw[bP]at hk;obtain⟨v,hK,hs⟩:=h _ _ hk;exact⟨v,[],[],[],hK,vP ha hs⟩
 ·exact hk.elim
end Go.Eng
namespace Go.Eng
structure Rn (md:Nat) (rf:List Nat) (CP:CPT) (YP:YPT) (n:Nat) (q:Prop):Prop where
 get:q
section
variable {P:Program} {r:Option Nat} {τ:TypeId→Option TE} {B:Imm→World→Prop} {p:Nat}
end
end Go.Eng
namespace Go.Eng
open Go.RowKit
set_option linter.unusedSimpArgs false
set_option linter.unusedVariables false
def tL (σ:Sg):List PV→Option (List PV)
 | []=>some []
 |x::xs=>match sZ σ x with
  |some y=>match tL σ xs with
   |some ys=>some (y::ys)
   |none=>none
  |none=>none
theorem zq {S:Imm} {w:World} {σ:Sg} {ι ι1:Ix} (R:tq σ ι ι1):∀{ps qs:List PV},tL σ ps=some qs→qs.length=ps.length∧∀i,i<ps.length→∀{v:Value},Rep S w ι (aH ps i) v→Rep S w ι1 (aH qs i) v:=by
 intro ps;induction ps with
 |nil=>intro qs h;simp[tL]at h;subst h;exact⟨rfl,fun i hi=>by simp at hi⟩
 |cons p ps ih=>
  intro qs h;unfold tL at h;split at h
  ·rename_i y hy
   split at h
   ·rename_i ys hys
    cases h
    obtain⟨h1,h2⟩:=ih hys;refine⟨by simp[h1],fun i hi=>?_⟩
    cases i with
    |zero=>intro v hr;exact xQ R hy hr
    |succ i=>exact h2 i (by simpa using hi)
   ·cases h
  ·cases h
def Bf (σ:Sg):List (PV × PV)→Option (List (PV × PV))
 | []=>some []
 |(p,u)::xs=>match sZ σ p with
  |some q=>match sZ σ u with
   |some v=>match Bf σ xs with
    |some ys=>some ((q,v)::ys)
    |none=>none
   |none=>none
  |none=>none
theorem Xk {S:Imm} {w:World} {σ:Sg} {ι ι1:Ix} (R:tq σ ι ι1):∀{ps qs:List (PV × PV)},Bf σ ps=some qs→qs.length=ps.length∧
 ∀i (h:i<ps.length) (h':i<qs.length),(∀{v:Value},Rep S w ι ps[i].1 v→Rep S w ι1 qs[i].1 v)∧(∀{v:Value},Rep S w ι ps[i].2 v→Rep S w ι1 qs[i].2 v):=by
 intro ps;induction ps with
 |nil=>intro qs h;simp[Bf]at h;subst h;exact⟨rfl,fun i hi=>by simp at hi⟩
 |cons p ps ih=>
  intro qs h;obtain⟨p,u⟩:=p;unfold Bf at h;split at h
  ·rename_i q hq
   split at h
   ·rename_i y hy
    split at h
    ·rename_i ys hys
     cases h
     obtain⟨h1,h2⟩:=ih hys;refine⟨by simp[h1],fun i hi hi'=>?_⟩
     cases i with
     |zero=>exact⟨fun hr=>xQ R hq hr,fun hr=>xQ R hy hr⟩
     |succ i=>exact h2 i (by simpa using hi) (by simpa using hi')
    ·cases h
   ·cases h
  ·cases h
def tN (σ:Sg):AO→Option AO
 |.cells c fz=>match fz with
  |true=>some (.cells c true)
  |false=>match c with
   |.pv ds=>match tL σ ds with|some es=>some (.cells (.pv es) false)|none=>none
   |.ints k xs=>some (.cells (.ints k xs) false)
   |.bools xs=>some (.cells (.bools xs) false)
   |.strs xs=>some (.cells (.strs xs) false)
   |.rows k xs=>some (.cells (.rows k xs) false)
   |_=>none
 |.tok m n=>some (.tok m n)
 |.ext G pre=>some (.ext G pre)
 |.mat all l rc=>some (.mat all l rc)
 |.pmat n rc=>some (.pmat n rc)
 |.bld t e s=>some (.bld t e s)
 |.qmat n f c=>some (.qmat n f c)
 |.rowo c=>some (.rowo c)
 |.map es=>match Bf σ es with|some ds=>some (.map ds)|none=>none
 |_=>none
theorem tQ {σ:Sg} {ι ι1:Ix} (R:tq σ ι ι1) {o o1:AO} (h:tN σ o=some o1) {S:Imm} {w:World} {k k1:Nat} (ho:ι1.o k1=ι.o k) (ht:ι1.t k1=ι.t k) (hx:ι1.x k1=ι.x k) (hr:gM S w ι k o):
 gM S w ι1 k1 o1∧o1.isTok=o.isTok∧o1.isExt=o.isExt∧o1.excl=o.excl:=by
 unfold tN at h;split at h
 ·rename_i c fz
  split at h
  ·cases h
   obtain⟨b,g1,g2⟩:=hr;exact⟨⟨b,ho.trans g1,g2⟩,rfl,rfl,rfl⟩
  ·obtain⟨b,arr,e,g1,g2,g3,g4,g5⟩:=hr
   have mk:∀c1:CL,c1.ncell=c.ncell→(∀j,j<c.ncell→∀v,Rep S w ι (c.get j) v→Rep S w ι1 (c1.get j) v)→gM S w ι1 k1 (.cells c1 false):=
    fun c1 hn hc=>⟨b,arr,e,ho.trans g1,g2,qqO,fun j hj=>hc j qqO _ (g4 j qqO),g5⟩
   split at h
   ·split at h
    ·rename_i ds es hes
     cases h
     obtain⟨q1,q2⟩:=zq R hes (S:=S) (w:=w);exact⟨mk _ q1 (fun j hj v hv=>q2 j hj hv),rfl,rfl,rfl⟩
    ·cases h
   ·cases h;exact⟨mk _ rfl (fun j hj v hv=>by cases hv;exact .int _ _ _),rfl,rfl,rfl⟩
   ·cases h;exact⟨mk _ rfl (fun j hj v hv=>by cases hv;exact .bp _ _),rfl,rfl,rfl⟩
   ·cases h;exact⟨mk _ rfl (fun j hj v hv=>by cases hv;exact .str _ _),rfl,rfl,rfl⟩
   ·cases h;exact⟨mk _ rfl (fun j hj v hv=>hv.toNoI.up _),rfl,rfl,rfl⟩
   ·cases h
 ·cases h
  obtain⟨g1,g2⟩:=hr;refine⟨⟨fun hz=>ht.trans (g1 hz),fun hz=>?_⟩,rfl,rfl,rfl⟩;obtain⟨b,arr,e,q1,q2,q3⟩:=g2 hz;exact⟨b,arr,e,ht.trans q1,q2,q3⟩
 ·cases h
  obtain⟨g1,g2,g3⟩:=hr;exact⟨⟨fun b hb=>g1 b (by rw[←hx];exact hb),g2,by rw[hx];exact g3⟩,rfl,rfl,rfl⟩
 ·cases h
  have hr:iA S w ι k _ _ _:=hr;exact⟨hr.cong ho hx,rfl,rfl,rfl⟩
 ·cases h
  obtain⟨all,l,rc',g1,g2⟩:=hr;exact⟨⟨all,l,rc',g1.cong ho hx,g2⟩,rfl,rfl,rfl⟩
 ·cases h
  have hr:mE S w ι k _ _ _:=hr;exact⟨hr.cong ho hx,rfl,rfl,rfl⟩
 ·cases h
  have hr:fH S w ι k _ _ _:=hr;exact⟨hr.cong ho hx,rfl,rfl,rfl⟩
 ·cases h
  obtain⟨b,g1,g2⟩:=hr;exact⟨⟨b,ho.trans g1,g2⟩,rfl,rfl,rfl⟩
 ·split at h
  ·rename_i ds hds
   cases h
   obtain⟨b,ents,clock,g1,g2,g3,g4⟩:=hr;obtain⟨q1,q2⟩:=Xk (S:=S) (w:=w) R hds;exact⟨⟨b,ents,clock,ho.trans g1,g2,g3.trans q1.symm,fun i hl hl'=>⟨(q2 i qqO hl).1 (g4 i qqO hl').1,(q2 i qqO hl).2 (g4 i qqO hl').2⟩⟩,rfl,rfl,rfl⟩
  ·cases h
 ·cases h
structure pO (σ:Sg):Prop where
 b:∀x∈σ,sgB σ x.2=some x.1
 f:∀x∈σ,sgF σ x.1=some x.2
theorem pO.inj {σ:Sg} (h:pO σ) {k k1 k2:Nat} (e1:sgB σ k1=some k) (e2:sgB σ k2=some k):k1=k2:=by
 have a1:=h.f _ (mM e1);have a2:=h.f _ (mM e2);simp only at a1 a2;rw[a1]at a2;exact Option.some.inj a2
theorem pO.fb {σ:Sg} (h:pO σ) {k k':Nat} (e:sgF σ k=some k'):sgB σ k'=some k:=CY e h.b
theorem pO.bf {σ:Sg} (h:pO σ) {k k':Nat} (e:sgB σ k'=some k):sgF σ k=some k':=h.f _ (mM e)
theorem Mem.lend {S:Imm} {w:World} {ι:Ix} {H H1:Hp} (M:Mem S w ι H) {σ:Sg} (hσ:pO σ) (hA:∀k1 o1,aA H1 k1=some o1→∃k o,sgB σ k1=some k∧aA H k=some o∧tN σ o=some o1)
 (hB:∀k k1,sgB σ k1=some k→(aA H k).isSome→(aA H1 k1).isSome):Mem S w (ι.ren σ) H1∧∀b,owned (ι.ren σ) H1 b→owned ι H b:=by
 have R:=qI hσ.b ι;have eo:∀{k k1},sgB σ k1=some k→(ι.ren σ).o k1=ι.o k:=fun h=>by simp[Ix.ren,h]
 have et:∀{k k1},sgB σ k1=some k→(ι.ren σ).t k1=ι.t k:=fun h=>by simp[Ix.ren,h]
 have ex:∀{k k1},sgB σ k1=some k→(ι.ren σ).x k1=ι.x k:=fun h=>by funext b;simp[Ix.ren,h]
 have all:∀k1 o1,aA H1 k1=some o1→∃k o,sgB σ k1=some k∧aA H k=some o∧gM S w (ι.ren σ) k1 o1∧o1.isTok=o.isTok∧o1.excl=o.excl∧∀b,o1.has (ι.ren σ) k1 b↔o.has ι k b:=by
  intro k1 o1 h1;obtain⟨k,o,q1,q2,q3⟩:=hA k1 o1 h1;obtain⟨r1,r2,r3,r5⟩:=tQ R q3 (eo q1) (et q1) (ex q1) (M.obj k o q2);refine⟨k,o,q1,q2,r1,r2,r5,fun b=>?_⟩;exact nO (eo q1) (et q1) (ex q1) r2 r3 r5 b
 refine⟨⟨fun k1 o1 h1=>?_,fun k1 b h=>?_,fun k1 b h=>?_,fun k1 k2 o1 o2 b h1 h2 b1 b2=>?_,M.imm⟩,?_⟩
 ·obtain⟨k,o,_,_,r,_⟩:=all k1 o1 h1;exact r
 ·cases e:sgB σ k1 with
  |none=>simp[Ix.ren,e]at h
  |some k=>
   rw[eo e]at h;obtain⟨o,g1,g2⟩:=M.liveO k b h;obtain⟨o1,ho1⟩:=akF.1 (hB k k1 e (by simp[g1]))
   obtain⟨k',o',q1,q2,_,q3,_⟩:=all k1 o1 ho1;rw[e]at q1;cases q1;rw[g1]at q2;cases q2
   exact⟨o1,ho1,q3.trans g2⟩
 ·cases e:sgB σ k1 with
  |none=>simp[Ix.ren,e]at h
  |some k=>
   rw[et e]at h;obtain⟨o,g1,g2⟩:=M.liveT k b h;obtain⟨o1,ho1⟩:=akF.1 (hB k k1 e (by simp[g1]))
   obtain⟨k',o',q1,q2,_,q3,_⟩:=all k1 o1 ho1;rw[e]at q1;cases q1;rw[g1]at q2;cases q2
   exact⟨o1,ho1,q3.trans g2⟩
 ·obtain⟨ka,oa,p1,p2,_,_,_,p3⟩:=all k1 o1 h1
  obtain⟨kb,ob,q1,q2,_,_,_,q3⟩:=all k2 o2 h2;have:=M.dist ka kb oa ob b p2 q2 ((p3 b).1 b1) ((q3 b).1 b2);subst this;exact hσ.inj p1 q1
 ·rintro b ⟨k1,o1,h1,h2,h3⟩
  obtain⟨k,o,p1,p2,_,_,p4,p3⟩:=all k1 o1 h1;exact⟨k,o,p2,p4▸h2,(p3 b).1 h3⟩
def Ix.merge (ι ιl:Ix) (σ:Sg):Ix:=
 ⟨fun k=>match sgB σ k with|some i=>ιl.o i|none=>ι.o k,fun k=>match sgB σ k with|some i=>ιl.t i|none=>ι.t k,fun k=>match sgB σ k with|some i=>ιl.x i|none=>ι.x k⟩
theorem yY {σ:Sg} (hσ:pO σ) (ι ιl:Ix):tq σ ιl (ι.merge ιl σ):=
 ⟨fun k k' b h hb=>by simp[Ix.merge,hσ.fb h,hb],fun k k' b h hb=>by simp[Ix.merge,hσ.fb h,hb]⟩
theorem Mem.back {S S':Imm} {w w':World} {ι ιl':Ix} {H HL HL' H'':Hp} {σ τn:Sg} {m:Nat} (M:Mem S w ι H) (hσ:pO σ) (hτ:pO τn) (M':Mem S' w' ιl' HL') (T:Tr m S w (ι.ren τn) HL S' w' ιl' HL')
 (hown:∀b,owned (ι.ren τn) HL b→owned ι H b)
 (hlent:∀i k,sgB σ k=some i→(∃o',aA HL' i=some o')∧((i<m∧sgB τn i=some k)∨aA H k=none))
 (hleft:∀k,sgB σ k=none→aA H'' k=aA H k∧∀i,sgB τn i≠some k)
 (hback:∀i k,sgB σ k=some i→∃o' o'',aA HL' i=some o'∧tN σ o'=some o''∧aA H'' k=some o'')
 (hLown:∀b,owned (ι.ren τn) HL b→∃i k,sgB τn i=some k∧i<m∧∃o,aA H k=some o∧o.has ι k b):
 Mem S' w' (ι.merge ιl' σ) H''∧ι.le (ι.merge ιl' σ)∧∀p,Tr p S w ι H S' w' (ι.merge ιl' σ) H'':=by
 have R:=yY hσ ι ιl';have eo:∀{i k},sgB σ k=some i→(ι.merge ιl' σ).o k=ιl'.o i:=fun h=>by simp[Ix.merge,h]
 have et:∀{i k},sgB σ k=some i→(ι.merge ιl' σ).t k=ιl'.t i:=fun h=>by simp[Ix.merge,h]
 have no:∀{k},sgB σ k=none→(ι.merge ιl' σ).o k=ι.o k:=fun h=>by simp[Ix.merge,h]
 have nt:∀{k},sgB σ k=none→(ι.merge ιl' σ).t k=ι.t k:=fun h=>by simp[Ix.merge,h]
 have ex:∀{i k},sgB σ k=some i→(ι.merge ιl' σ).x k=ιl'.x i:=fun h=>by simp[Ix.merge,h]
 have nx:∀{k},sgB σ k=none→(ι.merge ιl' σ).x k=ι.x k:=fun h=>by simp[Ix.merge,h]
 have le:ι.le (ι.merge ιl' σ):=by
  refine⟨fun k b hb=>?_,fun k b n hb=>?_⟩
  ·cases e:sgB σ k with
   |none=>rw[no e];exact hb
   |some i=>
    rw[eo e];rcases(hlent i k e).2 with⟨h1,h2⟩|h2
    ·exact T.protO i h1 b (by simp[Ix.ren,h2,hb])
    ·rw[M.none_o h2]at hb;cases hb
  ·cases e:sgB σ k with
   |none=>rw[nt e];exact⟨b,n,hb,.inl ⟨rfl,aku _⟩⟩
   |some i=>
    rw[et e];rcases(hlent i k e).2 with⟨h1,h2⟩|h2
    ·exact T.protT i h1 b n (by simp[Ix.ren,h2,hb])
    ·rw[M.none_t h2]at hb;cases hb
 have away:∀k o b,sgB σ k=none→aA H k=some o→o.has ι k b→b<w.heap.size∧¬owned (ι.ren τn) HL b:=by
  intro k o b hk ho hb;refine⟨(M.obj k o ho).lt hb,fun h=>?_⟩;obtain⟨i,k',q1,q2,o',q3,q4⟩:=hLown b h;have:=M.dist k k' o o' b ho q3 hb q4;subst this;exact(hleft k hk).2 i q1
 have inn:∀i k o'',sgB σ k=some i→aA H'' k=some o''→∃o',aA HL' i=some o'∧gM S' w' (ι.merge ιl' σ) k o''∧o''.isTok=o'.isTok∧o''.excl=o'.excl∧∀b,o''.has (ι.merge ιl' σ) k b↔o'.has ιl' i b:=by
  intro i k o'' hk h'';obtain⟨o',o2,p1,p2,p3⟩:=hback i k hk;rw[h'']at p3;cases p3
  obtain⟨r1,r2,r3,r5⟩:=tQ R p2 (eo hk) (et hk) (ex hk) (M'.obj i o' p1);refine⟨o',p1,r1,r2,r5,fun b=>?_⟩;exact nO (eo hk) (et hk) (ex hk) r2 r3 r5 b
 have nhas:∀{k o b},sgB σ k=none→(AO.has (ι.merge ιl' σ) k o b↔AO.has ι k o b):=by
  intro k o b hk;cases o<;>simp[AO.has,no hk,nt hk,nx hk]
 have mixed:∀i k1 k2 o1 o2 b,sgB σ k1=some i→sgB σ k2=none→aA H'' k1=some o1→aA H k2=some o2→o1.has (ι.merge ιl' σ) k1 b→o2.has ι k2 b→False:=by
  intro i k1 k2 o1 o2 b e1 e2 h1 h2 b1 b2;obtain⟨hlt,hno⟩:=away k2 o2 b e2 h2 b2;obtain⟨o',p1,_,p3,p4,p5⟩:=inn i k1 o1 e1 h1;have hb':=(p5 b).1 b1;rcases T.own b ⟨i,o',p1,pI hb',hb'⟩with h|h
  ·exact hno h
  ·omega
 refine⟨⟨fun k o'' h''=>?_,fun k b hb=>?_,fun k b hb=>?_,fun k1 k2 o1 o2 b h1 h2 b1 b2=>?_,M'.imm⟩,le,fun p=>⟨T.below,fun b hb ho=>T.same b hb (fun h=>ho (hown b h)),T.keeps,fun b j hb hs=>Or.imp id (hown b) (T.immN b j hb hs),?_,fun k _ b hb=>le.o k b hb,fun k _ b n hb=>le.t k b n hb⟩⟩
 ·cases e:sgB σ k with
  |some i=>obtain⟨_,_,r,_⟩:=inn i k o'' e h'';exact r
  |none=>
   rw[(hleft k e).1]at h'';exact(M.obj k o'' h'').mono T.keeps le T.below (fun b hb=>T.same b (away k o'' b e h'' hb).1 (away k o'' b e h'' hb).2) (fun _=>nt e) (nx e)
    (fun b j hb hs=>(T.immN b j (away k o'' b e h'' hb).1 hs).resolve_right (away k o'' b e h'' hb).2)
 ·cases e:sgB σ k with
  |some i=>
   rw[eo e]at hb;obtain⟨o',g1,g2⟩:=M'.liveO i b hb;obtain⟨o2,o'',p1,p2,p3⟩:=hback i k e;obtain⟨o3,q1,_,q3,_⟩:=inn i k o'' e p3;rw[g1]at q1;cases q1
   exact⟨o'',p3,q3.trans g2⟩
  |none=>rw[no e]at hb;rw[(hleft k e).1];exact M.liveO k b hb
 ·cases e:sgB σ k with
  |some i=>
   rw[et e]at hb;obtain⟨o',g1,g2⟩:=M'.liveT i b hb;obtain⟨o2,o'',p1,p2,p3⟩:=hback i k e;obtain⟨o3,q1,_,q3,_⟩:=inn i k o'' e p3;rw[g1]at q1;cases q1
   exact⟨o'',p3,q3.trans g2⟩
  |none=>rw[nt e]at hb;rw[(hleft k e).1];exact M.liveT k b hb
 ·cases e1:sgB σ k1 with
  |some i1=>
   cases e2:sgB σ k2 with
   |some i2=>
    obtain⟨oa,p1,_,_,_,p5⟩:=inn i1 k1 o1 e1 h1;obtain⟨ob,q1,_,_,_,q5⟩:=inn i2 k2 o2 e2 h2;have:=M'.dist i1 i2 oa ob b p1 q1 ((p5 b).1 b1) ((q5 b).1 b2);subst this;exact hσ.inj e1 e2
   |none=>rw[(hleft k2 e2).1]at h2;exact(mixed i1 k1 k2 o1 o2 b e1 e2 h1 h2 b1 ((nhas e2).1 b2)).elim
  |none=>
   rw[(hleft k1 e1).1]at h1;cases e2:sgB σ k2 with
   |some i2=>exact(mixed i2 k2 k1 o2 o1 b e2 e1 h2 h1 b2 ((nhas e1).1 b1)).elim
   |none=>rw[(hleft k2 e2).1]at h2;exact M.dist k1 k2 o1 o2 b h1 h2 ((nhas e1).1 b1) ((nhas e2).1 b2)
 ·rintro b ⟨k,o'',h1,h2,h3⟩
  cases e:sgB σ k with
  |some i=>
   obtain⟨o',p1,_,_,p4,p5⟩:=inn i k o'' e h1;exact(T.own b ⟨i,o',p1,p4▸h2,(p5 b).1 h3⟩).imp (hown b) id
  |none=>rw[(hleft k e).1]at h1;exact .inl ⟨k,o'',h1,h2,(nhas e).1 h3⟩
def dx (l:List AO):Hp:=l.map some
theorem fK (l:List AO):∀k,aA (dx l) k=l[k]? :=by
 induction l with
 |nil=>intro k;rfl
 |cons o r ih=>intro k;cases k with
  |zero=>rfl
  |succ k=>exact ih k
def Bg (P:Program) (B:Imm→World→Prop) (g:FuncId) (args:List PV) (objs:List AO) (rs:List PV) (objs':List AO):Prop:=
 ∀(S:Imm) (w:World) (ι:Ix) (vs:Array Value),B S w→Mem S w ι (dx objs)→bG S w ι args vs→
  CallsIn (Fw none) 0 P g vs w fun e w'=>∃val S' ι',e=.returned val∧Mem S' w' ι' (dx objs')∧Rep S' w' ι' (dX rs) val∧Tr objs.length S w ι (dx objs) S' w' ι' (dx objs')
def dH (P:Program) (g:FuncId) (args:List PV) (objs:List AO) (rs:List PV) (objs':List AO):Prop:=Enters P g∧Bg P sV g args objs rs objs'
def ZQ (τ:TypeId→Option TE) (fn:Func) (m:Nat) (extra:Sg) (rs:List PV) (objs':List AO) (e:Exit) (env:Env) (H:Hp):Prop:=
 match e with
 |.normal=>og τ fn.results.toList env H fun vs=>gZ (lg extra H 0 (dx objs')) fun σ=>oh σ m vs H rs (dx objs') Ok
 |.ret=>og τ fn.results.toList env H fun vs=>gZ (lg extra H 0 (dx objs')) fun σ=>oh σ m vs H rs (dx objs') Ok
 |_=>False
theorem PW {S:Imm} {w:World} {ι:Ix} {us:List PV} {vals:List Value} (hlen:us.length=vals.length) (h:∀i,i<us.length→Rep S w ι (aH us i) (vals.getD i undef)):
 Rep S w ι (dX us) (if h:vals.toArray.size=1 then vals.toArray[0]else .tuple vals.toArray):=by
 match us,vals,hlen,h with
 | [],[],_,_=>exact .tup _ _ _ rfl (fun i hi=>by simp at hi)
 | [u],[x],_,h=>simpa [dX,aH]using h 0 qqS
 |u::u'::us,x::x'::xs,hlen,h=>
  have:¬(x::x'::xs).toArray.size=1:=qqS;rw[dif_neg this];refine .tup _ _ _ (by simpa using hlen) (fun i hi=>?_)
  have:=h i hi;rw[akD];simpa using this
section
variable {P:Program} {τ:TypeId→Option TE} {B:Imm→World→Prop}
theorem yZ (hB:BOK B) (hτ:bB P τ) {g:FuncId} {fn:Func} {c:Code} {args rs:List PV} {objs objs':List AO} {extra:Sg} (hf:P.funcs[g]? =some fn) (hb:fn.body=some c)
 (h:AW P none B objs.length c (ZQ τ fn objs.length extra rs objs') (args++nZ (fn.ntmps-args.length)) (dx objs)):Bg P B g args objs rs objs':=by
 intro S w ι vs hBw M hr;have hA:At B objs.length S w ι (dx objs) (args++nZ (fn.ntmps-args.length)) (dx objs) {tmps:=vs++ami (fn.ntmps-vs.size) undef,defers:=[]} w:=
  ⟨S,ι,hBw,M,by rw[hr.1];exact IC hr _,.nil _ _ _,fun d hd=>by simp at hd,.refl _ _ _ _ _⟩
 refine callsIn_of_wp_marks hf hb trivial (wpIn_mono (h S w ι (dx objs) _ w hA) ?_)
 rintro e ⟨tmps,ds⟩ w1 ⟨env',H',q,hA1⟩
 have fin:(og τ fn.results.toList env' H' fun vs=>gZ (lg extra H' 0 (dx objs')) fun σ=>oh σ objs.length vs H' rs (dx objs') Ok)→
  LeavesInM (Fw none) 0 P fn tmps (fun e w'=>∃val S' ι',e=.returned val∧Mem S' w' ι' (dx objs')∧Rep S' w' ι' (dX rs) val∧Tr objs.length S w ι (dx objs) S' w' ι' (dx objs')) ds .returning w1:=by
  intro q;refine At.leave hB ds w1 hA1 fun w2 hA2=>?_;obtain⟨S2,ι2,hb2,M2,R2,D2,D2',T2⟩:=hA2.ex;obtain⟨vs1,q,hs⟩:=AY (P:=P) hτ _ q;rw[jf]at q;obtain⟨vals,r1,r2,r3⟩:=hs M2 R2;have hA3:At B objs.length S w ι (dx objs) vs1 H' {tmps:=vals.toArray,defers:=[]} w2:=
   ⟨S2,ι2,hb2,M2,⟨by simp[r2],fun i hi=>by have:=r3 i hi;simpa [akD]using this⟩,D2,D2',T2⟩
  have hA4:=(jr (B:=B) q).2 _ _ _ _ _ _ hA3;obtain⟨S4,ι4,hb4,M4,R4,_,_,T4⟩:=hA4.ex;have hrun:(results fn tmps).run P w2=.ok (if h:vals.toArray.size=1 then vals.toArray[0]else .tuple vals.toArray) w2:=by
   unfold results;rw[Sem.run_bind,amj,←bind_pure_comp,Sem.run_bind];have:(amk (fun(x:ResultVar)=>(match x with|.tmp t=>pure (tmps.getD t undef)|.cell a t=>do loadVar t (←asAddr (tmps.getD a undef)):Sem Value)) fn.results.toList).run P w2=.ok vals w2:=r1
   erw [this]
   simp only[Result.andThen,Function.comp,Sem.run_pure]
  refine⟨_,hrun,_,S4,ι4,rfl,M4,?_,T4⟩;have h1:=R4.1;have h2:=R4.2;exact PW (by simpa using h1) (fun i hi=>by have:=h2 i hi;simpa [akD]using this)
 cases e with
 |normal=>exact fin q
 |ret=>exact fin q
 |_=>exact q.elim
end
def vR (P:Program) (B:Imm→World→Prop) (τ:TypeId→Option TE) (md:Nat) (rf:List Nat) (CP:CPT) (YP:YPT) (fn:Func) (args:List PV) (objs:List AO) (n0:Nat) (extra:Sg) (rs:List PV) (objs':List AO):Prop:=
 ev P none B objs.length τ md rf CP YP (fn.body.getD .skip) n0 (args++nZ (fn.ntmps-args.length)) (dx objs) fun e env H _=>ZQ τ fn objs.length extra rs objs' e env H
theorem dV {P:Program} {τ:TypeId→Option TE} (hm:P.follows .mixedOrders=true) (hτ:bB P τ) {md rf CP} (hC:bD P CP) {g:FuncId} {fn:Func} {args rs:List PV} {objs objs':List AO} (n0:Nat) (extra:Sg)
 (hf:P.funcs[g]? =some fn) (hn:(fn.name== "runtime.NumGoroutine")=false) (hb:fn.body.isSome=true) (hok:eu (fn.body.getD .skip)=true)
 (h:vR P sV τ md rf CP noY fn args objs n0 extra rs objs'):dH P g args objs rs objs':=by
 refine⟨enters hf hn (by cases h:fn.body<;>simp_all),?_⟩
 obtain⟨c,hc⟩:=akF.1 hb;unfold vR at h;rw[hc]at h hok;exact yZ aL hτ hf hc ((kZ aL hm hτ hC aU c hok _ _ _ _ h).mono fun e env H ⟨n,h⟩=>h)
def afD:PV→List Nat
 |.rsl k _ _=>[k]
 |.rp k _=>[k]
 |.rpe k _ _ _=>[k]
 |.rm k=>[k]
 |.yld k=>[k]
 |.row k _ _=>[k]
 |.rsc k _ _=>[k]
 |.rowp k _ _ _ _=>[k]
 |.isl _ t=>match t with
  |.own k=>[k]
  |_=>[]
 |_=>[]
def Bh:List PV→List Nat
 | []=>[]
 |x::xs=>afD x++Bh xs
def aiY:PV→List Nat
 |.agg cs=>Bh cs
 |.tup cs=>Bh cs
 |.fn _ us vs=>Bh us++Bh vs
 |p=>afD p
def Gy:List PV→List Nat
 | []=>[]
 |x::xs=>aiY x++Gy xs
def aiZ:AO→List Nat
 |.cells c _=>match c with
  |.pv ds=>Gy ds
  |_=>[]
 |_=>[]
def Bj (H:Hp):Nat→List Nat→List Nat→List Nat
 |0,_,done=>done
 |_+1,[],done=>done
 |f+1,k::r,done=>match gW k done with
  |true=>Bj H f r done
  |false=>match aA H k with
   |some o=>Bj H f (r++aiZ o) (done++[k])
   |none=>Bj H f r done
def mO:List Nat→Nat→Sg
 | [],_=>[]
 |k::r,j=>(k,j)::mO r (j+1)
def Bl:Sg→Sg
 | []=>[]
 |(a,b)::r=>(b,a)::Bl r
def oM (σ:Sg):Sg→Bool
 | []=>true
 |(a,b)::r=>match eqO (sgB σ b) a&&eqO (sgF σ a) b with|true=>oM σ r|false=>false
theorem uV {σ:Sg}:∀{r:Sg},oM σ r=true→∀x∈r,sgB σ x.2=some x.1∧sgF σ x.1=some x.2:=by
 intro r;induction r with
 |nil=>intro _ x hx;simp at hx
 |cons y r ih=>
  intro h x hx;obtain⟨a,b⟩:=y;simp only[oM]at h;split at h
  ·rename_i hb
   rcases al7.1 hx with e|hx
   ·subst e
    simp only[akQ,CZ]at hb;exact hb
   ·exact ih h x hx
  ·cases h
theorem Td {σ:Sg} (h:oM σ σ=true):pO σ:=⟨fun x hx=>(uV h x hx).1,fun x hx=>(uV h x hx).2⟩
theorem Xl:∀(ks:List Nat) (j x:Nat),sgB (mO ks j) (j+x)=ks[x]? :=by
 intro ks;induction ks with
 |nil=>intro j x;rfl
 |cons k r ih=>
  intro j x;simp only[mO,sgB];cases x with
  |zero=>simp
  |succ x=>
   have:akM j (j+(x+1))=false:=by
    cases hb:akM j (j+(x+1))with
    |false=>rfl
    |true=>have:=akR hb;omega
   rw[this];have:=ih (j+1) x;simp only[List.getElem?_cons_succ];rw[←this];congr 1;omega
theorem mP (ks:List Nat) (x:Nat):sgB (mO ks 0) x=ks[x]? :=by
 have:=Xl ks 0 x;simpa using this
theorem IK (σ:Sg) (x:Nat):sgF (Bl σ) x=sgB σ x:=by
 induction σ with
 |nil=>rfl
 |cons y r ih=>obtain⟨a,b⟩:=y;simp only[Bl,sgF,sgB,ih]
def Gz (σ:Sg) (H:Hp):List Nat→(List AO→Prop)→Prop
 | [],K=>K []
 |k::r,K=>bR H k fun o=>match tN σ o with
  |some o1=>Gz σ H r fun os=>K (o1::os)
  |none=>False
theorem Lr {σ:Sg} {H:Hp}:∀{ks:List Nat} {K:List AO→Prop},Gz σ H ks K→∃os,K os∧os.length=ks.length∧∀(i k:Nat),ks[i]? =some k→∃o o1,aA H k=some o∧tN σ o=some o1∧os[i]? =some o1:=by
 intro ks;induction ks with
 |nil=>intro K h;exact⟨_,h,rfl,fun i k hk=>by simp at hk⟩
 |cons k r ih=>
  intro K h;unfold Gz at h;rw[bE]at h;obtain⟨o,ho,h⟩:=h;split at h
  ·rename_i o1 h1
   obtain⟨os,hK,hl,hs⟩:=ih h;refine⟨_,hK,by simp[hl],fun i k' hk=>?_⟩
   cases i with
   |zero=>simp at hk;subst hk;exact⟨o,o1,ho,h1,qqS⟩
   |succ i=>obtain⟨a,b,c1,c2,c3⟩:=hs i k' (by simpa using hk);exact⟨a,b,c1,c2,by simpa using c3⟩
  ·exact h.elim
def GA (σ:Sg):List Nat→List AO→(List (Nat × AO)→Prop)→Prop
 | [],[],K=>K []
 |k::ks,o::os,K=>match tN σ o with
  |some o1=>GA σ ks os fun r=>K ((k,o1)::r)
  |none=>False
 |_,_,_=>False
theorem Ls {σ:Sg}:∀{ks:List Nat} {os:List AO} {K:List (Nat × AO)→Prop},GA σ ks os K→∃sets,K sets∧os.length=ks.length∧keys sets=ks∧
 ∀(i k:Nat),ks[i]? =some k→∃o o1,os[i]? =some o∧tN σ o=some o1∧(k,o1)∈sets:=by
 intro ks;induction ks with
 |nil=>intro os K h;cases os with
  |nil=>exact⟨_,h,rfl,rfl,fun i k hk=>by simp at hk⟩
  |cons=>exact h.elim
 |cons k r ih=>intro os K h;cases os with
  |nil=>exact h.elim
  |cons o os=>
   unfold GA at h;split at h
   ·rename_i o1 h1
    obtain⟨sets,hK,hl,hk,hs⟩:=ih h;refine⟨_,hK,by simp[hl],by simp[keys]at hk⊢;exact hk,fun i k' hk'=>?_⟩
    cases i with
    |zero=>simp at hk';subst hk';exact⟨o,o1,qqS,h1,qqS⟩
    |succ i=>obtain⟨a,b,c1,c3,c4⟩:=hs i k' (by simpa using hk');exact⟨a,b,by simpa using c1,c3,amm _ c4⟩
   ·exact h.elim
theorem IL:∀{sets:List (Nat × AO)} {H:Hp} {k:Nat} {o:AO},(∀(i j k:Nat),(keys sets)[i]? =some k→(keys sets)[j]? =some k→i=j)→(k,o)∈sets→aA (bC H sets) k=some o:=by
 intro sets;induction sets with
 |nil=>intro H k o _ h;simp at h
 |cons x r ih=>
  intro H k o hn h;obtain⟨k0,o0⟩:=x;have h0:k0∉keys r:=fun hm=>by
   obtain⟨j,hj⟩:=amo.1 hm;have:=hn 0 (j+1) k0 (by simp[keys]) (by simpa [keys]using hj)
   omega
  have hr:∀(i j k:Nat),(keys r)[i]? =some k→(keys r)[j]? =some k→i=j:=fun i j k hi hj=>by
   have:=hn (i+1) (j+1) k (by simpa [keys]using hi) (by simpa [keys]using hj)
   omega
  rcases al7.1 h with e|h
  ·cases e
   simp only[bC];rw[jS h0,aX];simp
  ·exact ih hr h
def GD:Nat→Nat→(List Nat→Prop)→Prop
 |_,0,K=>K []
 |n,d+1,K=>jk n fun n=>GD (n+1) d fun r=>K (n::r)
def GH:Nat→Nat→List Nat
 |_,0=>[]
 |n,d+1=>n::GH (n+1) d
theorem Xm (n d:Nat) (K:List Nat→Prop):GD n d K=K (GH n d):=by
 induction d generalizing n K with
 |zero=>rfl
 |succ d ih=>simp only[GD,GH,jJ,ih]
def PX (σ:Sg) (rs:List PV) (K:PV→Prop):Prop:=match tL σ rs with|some us=>cZ us fun us=>K (dX us)|none=>False
theorem Lu {σ:Sg} {rs:List PV} {K:PV→Prop} (h:PX σ rs K):∃v,K v∧∀{ι ι1:Ix},tq σ ι ι1→∀{S:Imm} {w:World} {val:Value},Rep S w ι (dX rs) val→Rep S w ι1 v val:=by
 unfold PX at h;split at h
 ·rename_i us hu
  rw[bP]at h;refine⟨_,h,fun{ι ι1} R {S w val} hr=>?_⟩;obtain⟨h1,h2⟩:=zq R hu (S:=S) (w:=w)
  match rs,us,h1,h2,hr with
  | [],[],_,_,hr=>cases hr with|tup _ _ vs hl hh=>exact .tup _ _ _ hl (fun i hi=>by simp at hi)
  | [r],[u],_,h2,hr=>exact h2 0 qqS hr
  |r::r'::rs,u::u'::us,h1,h2,hr=>cases hr with|tup _ _ vs hl hh=>exact .tup _ _ _ (h1.trans hl) (fun i hi=>h2 i qqO (hh i qqO))
 ·exact h.elim
abbrev LSp:=List PV→List AO→(List PV→List AO→Prop)→Prop
def LOK (P:Program) (g:FuncId) (L:LSp):Prop:=∀as objs K,L as objs K→∃rs objs',K rs objs'∧dH P g as objs rs objs'
def xS (H:Hp):List Nat→Prop→Prop
 | [],K=>K
 |k::r,K=>dN H k (xS H r K)
def afE:PV→PV
 |.isl c t=>match t with
  |.full=>.isl c .none
  |t=>.isl c t
 |p=>p
def tT:List PV→List PV
 | []=>[]
 |x::xs=>afE x::tT xs
theorem qJ:∀(ps:List PV),(tT ps).length=ps.length∧∀i {S:Imm} {w:World} {ι:Ix} {v:Value},Rep S w ι (aH ps i) v→Rep S w ι (aH (tT ps) i) v:=by
 intro ps;induction ps with
 |nil=>exact⟨rfl,fun i _ _ _ _ h=>h⟩
 |cons p ps ih=>
  refine⟨by simp[tT,ih.1],fun i S w ι v h=>?_⟩
  cases i with
  |zero=>
   simp only[aH,tT]at h⊢;unfold afE;split
   ·split
    ·exact h.drop
    ·exact h
   ·exact h
  |succ i=>exact ih.2 i h
def dQ (ks0:List Nat) (L:LSp):CT:=fun args n H K=>
 oK (Bj H 60 (ks0++Gy args) []) fun ks=>gZ (mO ks 0) fun σ=>ifK (oM σ σ) (match tL σ args with
  |some as=>cZ (tT as) fun as=>Gz σ H ks fun objs=>L as objs fun rs objs'=>
   GD n (objs'.length-ks.length) fun ns=>xS H ns (oK (ks++ns) fun kn=>gZ (Bl (mO kn 0)) fun σ'=>ifK (oM σ' σ') (GA σ' kn objs' fun sets=>PX σ' rs fun v=>K v sets ks ns))
  |none=>False)
theorem Gg {H:Hp}:∀{ns:List Nat} {K:Prop},xS H ns K→K:=by
 intro ns;induction ns with
 |nil=>intro K h;exact h
 |cons k r ih=>
  intro K h;unfold xS dN at h;split at h
  ·exact ih h
  ·exact h.elim
theorem bT {P:Program} {g:FuncId} {L:LSp} (ks0:List Nat) (h:LOK P g L):COK P g (dQ ks0 L):=by
 intro args n H K hk;unfold dQ at hk;simp only[AV,jf,bP,Xm]at hk;generalize Bj H 60 (ks0++Gy args) []=ks at hk
 rw[aK]at hk;obtain⟨hg,hk⟩:=hk;split at hk
 ·rename_i as has
  obtain⟨objs,hk,hol,hos⟩:=Lr hk;obtain⟨rs,objs',hk,hent,hs⟩:=h _ _ _ hk;generalize GH n (objs'.length-ks.length)=ns at hk
  have hk:=Gg hk;rw[aK]at hk;obtain⟨hg',hk⟩:=hk;obtain⟨sets,hk,hl',hkeys,hbs⟩:=Ls hk;obtain⟨v,hk,hv⟩:=Lu hk;have hσ:=Td hg;have hσ':=Td hg';refine⟨v,sets,ks,ns,hk,.inl ⟨hent,fun S w ι H' vs hgb M hr ha hn=>?_⟩⟩;have at':∀{i k},sgB (Bl (mO (ks++ns) 0)) k=some i↔(ks++ns)[i]? =some k:=fun{i k}=>
   ⟨fun e=>by have:=hσ'.bf e;rwa [IK,mP]at this,fun e=>hσ'.fb (by rw[IK,mP];exact e)⟩
  have hget:∀{k},k∈ks→aA H' k=aA H k:=fun hm=>ha _ hm;have hL:∀k1 o1,aA (dx objs) k1=some o1→∃k o,sgB (mO ks 0) k1=some k∧aA H' k=some o∧tN (mO ks 0) o=some o1:=by
   intro k1 o1 h1;rw[fK]at h1;have hlt:k1<ks.length:=by rw[←hol];exact(amq.1 h1).1
   obtain⟨o,o1',q1,q2,q3⟩:=hos k1 ks[k1] (akL hlt);rw[h1]at q3;cases q3
   exact⟨ks[k1],o,by rw[mP,akL hlt],by rw[hget (List.getElem_mem hlt)];exact q1,q2⟩
  obtain⟨ML,hown⟩:=M.lend (H1:=dx objs) hσ hL (fun k k1 hb hsome=>by
   rw[mP]at hb;obtain⟨o,o1,_,_,q3⟩:=hos k1 k hb;rw[fK,q3];rfl)
  have hA:bG S w (ι.ren (mO ks 0)) (tT as) vs:=by
   obtain⟨h1,h2⟩:=zq (qI hσ.b ι) has (S:=S) (w:=w);exact⟨(qJ as).1.trans (h1.trans hr.1),fun i hi=>(qJ as).2 i (h2 i (by rw[(qJ as).1]at hi;omega) (hr.2 i (by rw[(qJ as).1]at hi;omega)))⟩
  refine(hs S w _ vs hgb ML hA).mono ?_
  rintro e w' ⟨val,S',ιl',rfl,M',R',T⟩
  have hinj:∀(i j k:Nat),(keys sets)[i]? =some k→(keys sets)[j]? =some k→i=j:=fun i j k hi hj=>by
   rw[hkeys]at hi hj;have a:=at'.2 hi;have b:=at'.2 hj;rw[a]at b;exact Option.some.inj b
  obtain⟨M2,le,T2⟩:=M.back (H'':=bC H' sets) hσ' hσ M' T hown
   (fun i k e=>by
     have e:=at'.1 e;obtain⟨o,o1,p1,p3,p4⟩:=hbs i k e;refine⟨⟨o,by rw[fK];exact p1⟩,?_⟩
     by_cases hi:i<ks.length
     ·rw[amr hi]at e
      exact .inl ⟨qqO,by rw[mP];exact e⟩
     ·rw[alG qqO]at e
      exact .inr (hn k (ams e)))
   (fun k e=>by
     have hno:k∉ks++ns:=fun hm=>by
      obtain⟨i,hi⟩:=amo.1 hm;rw[at'.2 hi]at e;cases e
     refine⟨jS (by rw[hkeys];exact hno),fun i hi=>?_⟩
     rw[mP]at hi;exact hno (List.mem_append_left _ (ams hi)))
   (fun i k e=>by
     obtain⟨o,o1,p1,p3,p4⟩:=hbs i k (at'.1 e);exact⟨o,o1,by rw[fK];exact p1,p3,IL hinj p4⟩)
   (fun b hb=>by
     obtain⟨k1,o1,h1,h2,h3⟩:=hb;obtain⟨k,o,q1,q2,q3⟩:=hL k1 o1 h1;have eo:(ι.ren (mO ks 0)).o k1=ι.o k:=by simp[Ix.ren,q1]
     have et:(ι.ren (mO ks 0)).t k1=ι.t k:=by simp[Ix.ren,q1]
     have ex:(ι.ren (mO ks 0)).x k1=ι.x k:=by funext b;simp[Ix.ren,q1]
     obtain⟨r1,r2,r3,r5⟩:=tQ (qI hσ.b ι) q3 eo et ex (M.obj k o q2);refine⟨k1,k,q1,?_,o,q2,?_⟩
     ·rw[fK]at h1;exact(amq.1 h1).1
     ·exact(nO eo et ex r2 r3 r5 b).1 h3)
  exact⟨val,S',_,rfl,M2,le,T.keeps,hv (yY hσ' ι ιl') R',T2⟩
 ·exact hk.elim
variable {P:Program}
def ai0 (P:Program) (B:Imm→World→Prop) (g:FuncId) (C:CT):Prop:=∀args n H K,C args n H K→∃v sets accs news,K v sets accs news∧ou P B g args H v sets accs news
theorem COK.up {g:FuncId} {C:CT} (h:COK P g C) (B:Imm→World→Prop) (hg:∀S w,B S w→gB S w:=by first|exact fun _ _ h=>h|exact fun _ _ h=>h.2|exact fun _ _ h=>h.2.2):ai0 P B g C:=fun args n H K hk=>by
 obtain⟨v,sets,accs,news,h1,h2⟩:=h args n H K hk;exact⟨v,sets,accs,news,h1,iJ.up h2 B hg⟩
def tX:List PV→PV
 | [x]=>x
 |xs=>.tup xs
def PY (m:Nat) (x:PV):List PV:=match m with
 |1=>[x]
 |_=>match x with
  |.tup xs=>xs
  |_=>[]
theorem Te (xs:List PV):PY xs.length (tX xs)=xs:=by
 match xs with
 | []=>rfl
 | [x]=>rfl
 |x::y::r=>rfl
def kL (go:List PV→Bool):List PV→List PV→List PV
 |pre,[]=>pre
 |pre,x::l=>match go (pre++[x])with|true=>kL go (pre++[x]) l|false=>pre++[x]
def GoTo (go:List PV→Bool) (L:List PV) (i:Nat):Prop:=∀j,j<i→go (L.take (j+1))=true
def Nxt (go:List PV→Bool) (L pre:List PV) (x:PV):Prop:=∃i,i<L.length∧pre=L.take i∧L[i]? =some x∧GoTo go L i
theorem GoTo.zero {go:List PV→Bool} {L:List PV}:GoTo go L 0:=fun j h=>qqO
theorem GoTo.succ {go:List PV→Bool} {L:List PV} {i:Nat} (h:GoTo go L i) (g:go (L.take (i+1))=true):GoTo go L (i+1):=fun j hj=>by
 by_cases e:j=i
 ·rw[e];exact g
 ·exact h j qqO
theorem gN {L:List PV} {i:Nat} {x:PV} (h:L[i]? =some x):L.take i++[x]=L.take (i+1):=by
 rw[List.take_add_one,h];rfl
theorem vS {go:List PV→Bool} {L:List PV}:∀{i:Nat},i≤L.length→GoTo go L i→kL go [] L=kL go (L.take i) (L.drop i):=by
 intro i;induction i with
 |zero=>intro _ _;simp
 |succ i ih=>
  intro hi h;rw[ih qqO (fun j hj=>h j qqO),amt qqO,kL];have e:L.take i++[L[i]]=L.take (i+1):=gN (akL qqO);rw[e,h i qqO]
theorem Tf {go:List PV→Bool} {L:List PV} {i:Nat} (hi:i<L.length) (h:GoTo go L i) (g:go (L.take (i+1))=false):kL go [] L=L.take (i+1):=by
 rw[vS qqO h,amt hi,kL];have e:L.take i++[L[i]]=L.take (i+1):=gN (akL hi);rw[e,g]
theorem Xn {go:List PV→Bool} {L:List PV} {i:Nat} (hi:L.length≤i) (h:GoTo go L i):kL go [] L=L:=by
 rw[vS (aku L.length) (fun j hj=>h j qqO)];simp[kL]
theorem Lv {go:List PV→Bool}:∀(l pre:List PV),pre.length≤(kL go pre l).length:=by
 intro l;induction l with
 |nil=>intro pre;exact aku _
 |cons x l ih=>
  intro pre;rw[kL];split
  ·have:=ih (pre++[x]);simp at this;omega
  ·simp
theorem Tg {go:List PV→Bool} {L:List PV} {i:Nat} (hi:i≤L.length) (h:GoTo go L i) (e:kL go [] L=L.take i):i=L.length:=by
 rcases akw i L.length with hlt|hge
 ·rw[vS hi h,amt hlt,kL]at e
  have hlen:=congrArg amu e;split at hlen
  ·have:=Lv (go:=go) (L.drop (i+1)) (L.take i++[L[i]])
   simp at this hlen;omega
  ·simp at hlen;omega
 ·omega
abbrev GT:=List PV→(Nat→Prop)→Imm→World→Prop
def Xo (b m:Nat) (G:GT) (go:List PV→Bool) (L:List PV):YPT:=fun f us vs args n H K=>VC (f=.yield b∧us= #[]∧vs= #[])∧A8 args fun as=>ifK (akM as.length m) (bR H 0 fun o=>match o with
 |.ext G' pre=>bN (tX as) fun x=>VC (G'=G∧Nxt go L pre x)∧K (.bp (go (pre++[x]))) [(0,.ext G (pre++[x]))] [0] []
 |_=>False)
def Yields (P:Program) (b m:Nat) (G:GT) (go:List PV→Bool) (L:List PV):Prop:=∀r B,mJ P r B (Xo b m G go L)
def PZ (P:Program) (g:FuncId) (fs cs:List PV) (m:Nat) (L:List PV):Prop:=
 Enters P g∧∀(G:GT) (go:List PV→Bool) (b:Nat),Yields P b m G go L→Bg P sV g (fs++[.fv (.yield b) #[] #[]]++cs) [.ext G []] [] [.ext G (kL go [] L)]
structure TrX (X:Nat→Prop) (p:Nat) (S:Imm) (w:World) (ι:Ix) (H:Hp) (S':Imm) (w':World) (ι':Ix) (H':Hp):Prop where
 below:Bel w w'
 same:∀b,b<w.heap.size→¬owned ι H b→¬X b→w'.heap[b]? =w.heap[b]?
 keeps:Keeps S w S' w'
 immN:∀b j,b<w.heap.size→S' b j→S b j∨owned ι H b
 own:∀b,owned ι' H' b→owned ι H b∨w.heap.size≤b
 protO:∀k,k<p→∀b,ι.o k=some b→ι'.o k=some b
 protT:∀k,k<p→∀b n,ι.t k=some (b,n)→∃b' n',ι'.t k=some (b',n')∧((b'=b∧n≤n')∨n<n')
theorem Tr.toX {X:Nat→Prop} {p:Nat} {S S':Imm} {w w':World} {ι ι':Ix} {H H':Hp} (h:Tr p S w ι H S' w' ι' H'):TrX X p S w ι H S' w' ι' H':=
 ⟨h.below,fun b hb ho _=>h.same b hb ho,h.keeps,h.immN,h.own,h.protO,h.protT⟩
theorem Lx {ι ι' ι'':Ix} {k:Nat} (h:∀b n,ι.t k=some (b,n)→∃b' n',ι'.t k=some (b',n')∧((b'=b∧n≤n')∨n<n')) (g:∀b n,ι'.t k=some (b,n)→∃b' n',ι''.t k=some (b',n')∧((b'=b∧n≤n')∨n<n')):
 ∀b n,ι.t k=some (b,n)→∃b' n',ι''.t k=some (b',n')∧((b'=b∧n≤n')∨n<n'):=by
 intro b n hi;obtain⟨x1,n1,h1,h2⟩:=h b n hi;obtain⟨x2,n2,g1,g2⟩:=g x1 n1 h1;refine⟨x2,n2,g1,?_⟩;rcases h2 with⟨rfl,h2⟩|h2
 ·rcases g2 with⟨rfl,g2⟩|g2
  ·exact .inl ⟨rfl,qqO⟩
  ·exact .inr qqO
 ·rcases g2 with⟨rfl,g2⟩|g2
  ·exact .inr qqO
  ·exact .inr qqO
theorem TrX.trans {X:Nat→Prop} {p:Nat} {S S' S'':Imm} {w w' w'':World} {ι ι' ι'':Ix} {H H' H'':Hp}
 (h:TrX X p S w ι H S' w' ι' H') (g:TrX X p S' w' ι' H' S'' w'' ι'' H''):TrX X p S w ι H S'' w'' ι'' H'':=by
 have hsz:=h.below.size;refine⟨h.below.trans g.below,fun b hb ho hx=>?_,h.keeps.trans g.keeps,fun b j hb hs=>?_,fun b ho=>?_,fun k hk b hi=>g.protO k hk b (h.protO k hk b hi),fun k hk=>Lx (h.protT k hk) (g.protT k hk)⟩
 ·rw[g.same b qqO (fun ho'=>?_) hx]
  ·exact h.same b hb ho hx
  ·rcases h.own b ho' with h1|h1
   ·exact ho h1
   ·omega
 ·rcases g.immN b j qqO hs with h1|h1
  ·exact h.immN b j hb h1
  ·rcases h.own b h1 with h2|h2
   ·exact .inr h2
   ·omega
 ·rcases g.own b ho with h1|h1
  ·exact h.own b h1
  ·exact .inr qqO
theorem Mem.aside {S:Imm} {w:World} {ι:Ix} {H:Hp} (M:Mem S w ι H) {b:Nat} {o o':Obj} (hw:w.heap[b]? =some o) (hp:Obj.plain o=true) (hp':Obj.plain o'=true) (hno:¬owned ι H b) (p:Nat):
 Mem S (w.putObj b o') ι H∧TrX (·=b) p S w ι H S (w.putObj b o') ι H∧(w.putObj b o').heap[b]? =some o'∧∀b',b'≠b→(w.putObj b o').heap[b']? =w.heap[b']? :=by
 have hlt:=lt_of_heap hw;have here:(w.putObj b o').heap[b]? =some o':=World.putObj_heap_same hlt;have other:∀b',b'≠b→(w.putObj b o').heap[b']? =w.heap[b']? :=fun b' h=>World.putObj_heap_other h;have hnS:∀j,¬S b j:=fun j hs=>by have:=M.imm b j hs;rw[iT hw hp]at this;simp at this
 have hk:Keeps S w S (w.putObj b o'):=by
  refine⟨fun b' j hs=>⟨hs,?_⟩,fun b' j hs=>?_⟩
  ·by_cases e:b'=b
   ·subst e;exact absurd hs (hnS j)
   ·exact dD (other b' e) j
  ·by_cases e:b'=b
   ·subst e;rw[iT hw hp]at hs;simp at hs
   ·rw[dD (other b' e) j];exact hs
 have hbel:Bel w (w.putObj b o'):=.block b rfl rfl rfl qqS other (by rw[hw];exact gQ hp) (by rw[here];exact gQ hp') (fun _=>by unfold bsz;rw[hw,here];cases o<;>cases o'<;>first|rfl|(simp[Obj.plain]at hp;done)|(simp[Obj.plain]at hp';done))
 refine⟨⟨fun k o ho=>(M.obj k o ho).mono hk (.refl _) hbel (fun b' hb'=>other b' (fun e=>hno (by subst e;exact⟨k,o,ho,pI hb',hb'⟩))) (fun _=>rfl) rfl (fun _ _ _ h=>h),M.liveO,M.liveT,M.dist,fun b' j hs=>by rw[(hk.imm b' j hs).2];exact M.imm b' j hs⟩,
  ⟨hbel,fun b' _ _ hx=>other b' hx,hk,fun _ _ _ h=>.inl h,fun _ h=>.inl h,fun _ _ _ h=>h,fun _ _ b n h=>⟨b,n,h,.inl ⟨rfl,aku _⟩⟩⟩,here,other⟩
theorem Mem.extStep {S:Imm} {w:World} {ι:Ix} {H:Hp} (M:Mem S w ι H) {k:Nat} {G:GT} {pre:List PV} (h0:aA H k=some (.ext G pre)) {S':Imm} {w':World} {D':Nat→Prop} {pre':List PV} (hst:uZ G) (hG:G pre' D' S' w')
 (below:Bel w w') (keeps:Keeps S w S' w') (same:∀b,b<w.heap.size→¬ι.x k b→w'.heap[b]? =w.heap[b]?) (immN:∀b j,b<w.heap.size→S' b j→S b j∨ι.x k b)
 (hD:∀b,D' b→ι.x k b∨w.heap.size≤b) (hlt:∀b,D' b→b<w'.heap.size) (himm:∀b j,S' b j→(rd w' b j).isSome):
 Mem S' w' ⟨ι.o,ι.t,fun k'=>if k'=k then D' else ι.x k'⟩ (aO H k (.ext G pre'))∧ι.le ⟨ι.o,ι.t,fun k'=>if k'=k then D' else ι.x k'⟩∧
  ∀p,Tr p S w ι H S' w' ⟨ι.o,ι.t,fun k'=>if k'=k then D' else ι.x k'⟩ (aO H k (.ext G pre')):=by
 have hle:ι.le ⟨ι.o,ι.t,fun k'=>if k'=k then D' else ι.x k'⟩:=⟨fun _ _ h=>h,fun _ b n h=>⟨b,n,h,.inl ⟨rfl,aku _⟩⟩⟩;have hx:∀k',k'≠k→(if k'=k then D' else ι.x k')=ι.x k':=fun k' h=>if_neg h;have hhas:∀{k' o b},k'≠k→(AO.has ⟨ι.o,ι.t,fun k'=>if k'=k then D' else ι.x k'⟩ k' o b↔AO.has ι k' o b):=fun{k' o b} h=>nO (ι:=ι) (ι1:=⟨ι.o,ι.t,fun k'=>if k'=k then D' else ι.x k'⟩) (k:=k') (k1:=k') (o:=o) (o1:=o) rfl rfl (hx _ h) rfl rfl rfl b;have hself:∀{b},AO.has ⟨ι.o,ι.t,fun k'=>if k'=k then D' else ι.x k'⟩ k (.ext G pre') b↔D' b:=fun{b}=>by simp[AO.has]
 have hother:∀k' o b,k'≠k→aA H k'=some o→o.has ι k' b→b<w.heap.size∧¬ι.x k b:=fun k' o b hne ho hb=>
  ⟨(M.obj k' o ho).lt hb,fun h=>hne (M.dist k' k o (.ext G pre) b ho h0 hb h)⟩
 refine⟨⟨fun k' o ho=>?_,fun k' b hb=>?_,fun k' b hb=>?_,fun k1 k2 o1 o2 b h1 h2 b1 b2=>?_,himm⟩,hle,fun p=>⟨below,fun b hb ho=>?_,keeps,fun b j hb hs=>?_,?_,fun _ _ _ h=>h,fun _ _ b n h=>⟨b,n,h,.inl ⟨rfl,aku _⟩⟩⟩⟩
 ·rw[aX]at ho
  by_cases e:k'=k
  ·subst e;simp at ho;subst ho
   exact⟨fun b hb=>hlt b (by simpa using hb),hst,by simpa using hG⟩
  ·rw[if_neg e]at ho
   exact(M.obj k' o ho).mono keeps hle below (fun b hb=>same b (hother k' o b e ho hb).1 (hother k' o b e ho hb).2) (fun _=>rfl) (hx k' e)
    (fun b j hb hs=>(immN b j (hother k' o b e ho hb).1 hs).resolve_right (hother k' o b e ho hb).2)
 ·obtain⟨o,g1,g2⟩:=M.liveO k' b hb
  rw[aX];by_cases e:k'=k
  ·subst e;exact⟨.ext G pre',qqS,rfl⟩
  ·rw[if_neg e];exact⟨o,g1,g2⟩
 ·obtain⟨o,g1,g2⟩:=M.liveT k' b hb
  rw[aX];by_cases e:k'=k
  ·subst e;rw[h0]at g1;cases g1;simp[AO.isTok]at g2
  ·rw[if_neg e];exact⟨o,g1,g2⟩
 ·rw[aX]at h1 h2
  by_cases e1:k1=k
  ·by_cases e2:k2=k
   ·rw[e1,e2]
   ·subst e1;simp at h1;subst h1;rw[if_neg e2]at h2;rw[hhas e2]at b2;rw[hself]at b1
    obtain⟨q1,q2⟩:=hother k2 o2 b e2 h2 b2;rcases hD b b1 with h|h
    ·exact absurd h q2
    ·omega
  ·rw[if_neg e1]at h1;rw[hhas e1]at b1
   by_cases e2:k2=k
   ·subst e2;simp at h2;subst h2;rw[hself]at b2
    obtain⟨q1,q2⟩:=hother k1 o1 b e1 h1 b1;rcases hD b b2 with h|h
    ·exact absurd h q2
    ·omega
   ·rw[if_neg e2]at h2;rw[hhas e2]at b2
    exact M.dist k1 k2 o1 o2 b h1 h2 b1 b2
 ·exact same b hb (fun h=>ho ⟨k,_,h0,rfl,h⟩)
 ·rcases immN b j hb hs with h|h
  ·exact .inl h
  ·exact .inr ⟨k,_,h0,rfl,h⟩
 ·rintro b ⟨k',o,h1,h2,h3⟩
  rw[aX]at h1;by_cases e:k'=k
  ·subst e;simp at h1;subst h1;rw[hself]at h3
   rcases hD b h3 with h|h
   ·exact .inl ⟨k',_,h0,rfl,h⟩
   ·exact .inr h
  ·rw[if_neg e]at h1;rw[hhas e]at h3
   exact .inl ⟨k',o,h1,h2,h3⟩
def qK:Env→List Nat→List PV→Env
 |env,t::ts,x::xs=>qK (env.set t x) ts xs
 |env,_,_=>env
theorem Ti {S:Imm} {w:World} {ι:Ix}:∀(ts:List Nat) (xs:List PV) {env:Env} {tmps:Array Value} {vs:List Value},bG S w ι env tmps→ts.length=vs.length→xs.length=vs.length→(∀i,i<xs.length→Rep S w ι (aH xs i) (vs.getD i undef))→
 bG S w ι (qK env ts xs) ((ts.zip vs).foldl (fun t (p:Nat × Value)=>t.setIfInBounds p.1 p.2) tmps):=by
 intro ts;induction ts with
 |nil=>intro xs env tmps vs h h1 h2 h3;cases xs<;>simpa [qK]using h
 |cons t ts ih=>
  intro xs env tmps vs h h1 h2 h3;cases vs with
  |nil=>simp at h1
  |cons v vs=>
   cases xs with
   |nil=>simp at h2
   |cons x xs=>
    simp only[qK,List.zip_cons_cons,List.foldl_cons];refine ih xs ?_ (by simpa using h1) (by simpa using h2) (fun i hi=>by have:=h3 (i+1) (by simpa using hi);simpa [aH]using this)
    have h30:Rep S w ι x v:=by have:=h3 0 qqS;simpa [aH]using this
    have:=zo (a:={tmps:=tmps,defers:=[]}) h (some t) h30;simpa [fT,Act.put]using this
def Bn:Env→Env
 | []=>[]
 |_::r=>.any::Bn r
def oz (B:Imm→World→Prop) (S0:Imm) (w0:World) (ι0:Ix) (H0:Hp) (D0 L0:Nat) (rec:LoopState→Option Code→Loop) (L:List PV) (st:Nat→Hp) (gi:Nat→Bool) (Q:Exit→Hp→Prop):GT:=fun pre D S w=>
 ∃ι H sta pend,D=(fun b=>owned ι0 H0 b∨owned ι H b∨b=D0∨b=L0)∧(∀k o,aA H k=some o→gM S w ι k o)∧(∀k b,ι.o k=some b→∃o,aA H k=some o∧o.isTok=false)∧
  (∀k x,ι.t k=some x→∃o,aA H k=some o∧o.isTok=true)∧(∀k k' o o' b,aA H k=some o→aA H k'=some o'→o.has ι k b→o'.has ι k' b→k=k')∧
  B S w∧ι0.le ι∧Keeps S0 w0 S w∧(∀b,owned ι H b→b≠D0∧b≠L0)∧(∀b,owned ι H b→owned ι0 H0 b∨w0.heap.size≤b)∧(∀b,owned ι0 H0 b→b<w.heap.size)∧w0.heap.size≤w.heap.size∧
  w.heap[L0]? =some (.loop (rec sta pend))∧w.heap[D0]? =some (.deferred (some []))∧
  ((sta=.ready∧pend=none∧∃i,i≤L.length∧pre=L.take i∧(∀j,j<i→gi j=true)∧H=st i)∨
   (sta=.done∧∃i e c,i<L.length∧pre=L.take (i+1)∧gi i=false∧pend=some c∧((e=.ret∧c=.ret)∨∃id,e=.exit id∧c=.exit id)∧Q e H))
theorem IQ {B:Imm→World→Prop} {S0:Imm} {w0:World} {ι0:Ix} {H0:Hp} {D0 L0:Nat} {rec:LoopState→Option Code→Loop} {L:List PV} {st:Nat→Hp} {gi:Nat→Bool} {Q:Exit→Hp→Prop} (hB:BOK B):
 uZ (oz B S0 w0 ι0 H0 D0 L0 rec L st gi Q):=by
 rintro pre D S w S' w' hk hbel hsame hS ⟨ι,H,sta,pend,hD,hobj,hlo,hlt,hdi,hb,hle,hkeep,hne,hown,hsz,hszge,hL,hDk,hst⟩
 subst hD;refine⟨ι,H,sta,pend,rfl,fun k o ho=>(hobj k o ho).mono hk (.refl _) hbel (fun b hb'=>hsame b (.inr (.inl ⟨k,o,ho,pI hb',hb'⟩))) (fun _=>rfl) rfl (fun b j hb' hs=>hS b j (.inr (.inl ⟨k,o,ho,pI hb',hb'⟩)) hs),hlo,hlt,hdi,
  hB _ _ _ _ hk hbel hb,hle,hkeep.trans hk,hne,hown,fun b hb'=>akv (hsz b hb') hbel.size,aky hszge hbel.size,(hsame _ (.inr (.inr (.inr rfl)))).trans hL,(hsame _ (.inr (.inr (.inl rfl)))).trans hDk,hst⟩
def vT (gi:Nat→Bool):List PV→Bool:=fun pre=>gi (pre.length-1)
theorem nP {gi:Nat→Bool} {L:List PV} {i:Nat} (h:i<L.length):vT gi (L.take (i+1))=gi i:=by
 unfold vT;rw[alm,Nat.min_eq_left qqO];simp
section
variable {P:Program} {τ:TypeId→Option TE} {B:Imm→World→Prop} {p:Nat}
theorem IU (hB:BOK B) (hm:P.follows .mixedOrders=true) (hτ:bB P τ) {md rf CP YP} (hC:jO P B CP) (hY:∀r,mJ P r B YP)
 {S0:Imm} {w0:World} {ι0:Ix} {H0:Hp} {D0 L0:Nat} {fn:FuncId} {tmps:Array Value} {ps:Array Tmp} {assign body:Code} {db:Nat} {env:Env} {n:Nat} {L:List PV} {st:Nat→Hp} {gi:Nat→Bool} {Q:Exit→Hp→Prop}
 (hR0:bG S0 w0 ι0 env tmps) (hn:∀k b,ι0.o k=some b→k<n) (hn':∀k b,ι0.t k=some b→k<n) (hDL:D0≠L0) (hnL:¬owned ι0 H0 L0) (hnD:¬owned ι0 H0 D0) (hok1:eu assign=true) (hok2:eu body=true)
 {KN:Nat→Env→Hp→Prop} {KR:Nat→Hp→Prop} {KX:Nat→Nat→Hp→Prop} (hKN:∀i env' H',KN i env' H'→gi i=true∧Sub B n env' H' (Bn env) (st (i+1))) (hKR:∀i H',KR i H'→gi i=false∧Q .ret H') (hKX:∀i id H',KX i id H'→gi i=false∧Q (.exit id) H')
 (hb:∀i x,L[i]? =some x→(∀j,j<i→gi j=true)→∀l,ev P (some l) B n τ md rf CP YP assign n (qK env ps.toList (PY ps.size x)) (st i) fun e env2 H2 n2=>match e with
   |.normal=>ev P (some l) B n τ md rf CP YP body n2 env2 H2 fun e env' H' _=>match e with
    |.normal=>KN i env' H'
    |.ret=>KR i H'
    |.exit id=>KX i id H'
    |_=>False
   |_=>False):
 Yields P L0 ps.size (oz B S0 w0 ι0 H0 D0 L0 (fun sta pe=>{state:=sta,pending:=pe,fn:=fn,tmps:=tmps,params:=ps,assign:=assign,body:=body,defers:=db}) L st gi Q) (vT gi) L:=by
 intro r B' f us vs args nn HH K h;obtain⟨rec,hrec⟩:∃rec:LoopState→Option Code→Loop,(fun sta pe=>{state:=sta,pending:=pe,fn:=fn,tmps:=tmps,params:=ps,assign:=assign,body:=body,defers:=db})=rec:=⟨_,rfl⟩;rw[hrec]at h;obtain⟨⟨e1,e2,e3⟩,h⟩:=h;subst e1;subst e2;subst e3;unfold A8 at h;split at h
 rotate_left
 ·exact h.elim
 rename_i as ha;rw[bP,aK,bE]at h;obtain⟨hlen,ob,hob,h⟩:=h;have hlen:=akR hlen;split at h
 rotate_left
 ·exact h.elim
 rename_i G' pre;rw[bL]at h;obtain⟨⟨hG',i,hi,hpre,hx,hgo⟩,hK⟩:=h;subst hG';refine⟨_,_,_,_,hK,fun S w ι H o c a next QQ vals ho hbw M hr hacc hnew hk=>?_⟩;have h0:aA H 0=some _:=(hacc 0 qqS).trans hob;obtain⟨hlt0,hst0,hG⟩:=M.obj 0 _ h0;have hGs:=hG;obtain⟨ιc,Hc,sta,pend,hD,hobj,hlo,hlt,hdi,hBc,hle,hkeep,hne,hown,hsz,hszge,hL,hDk,hstat⟩:=hG;have hready:sta=.ready∧pend=none∧(∀j,j<i→gi j=true)∧Hc=st i:=by
  rcases hstat with⟨s1,s2,i',hi',hp,hall,hH⟩|⟨s1,i',e,c',hi',hp,hgf,_⟩
  ·have:i'=i:=by
    have:=congrArg amu (hp.symm.trans hpre);simp[alm]at this;omega
   subst this;exact⟨s1,s2,hall,hH⟩
  ·have:i=i'+1:=by
    have:=congrArg amu (hpre.symm.trans hp);simp[alm]at this;omega
   have h2:=hgo i' qqO;rw[nP qqO]at h2;rw[h2]at hgf;cases hgf
 obtain⟨hs1,hs2,hall,hH⟩:=hready;subst hs1;subst hs2;have Mc:Mem S w ιc Hc:=⟨hobj,hlo,hlt,hdi,M.imm⟩;obtain⟨a1,a2⟩:=gY ha;have hA:bG S w noI (fG as) vals:=⟨(dh as).1.trans (a1.trans hr.1),fun i hi=>(dh as).2 i (a2 i (by rw[(dh as).1]at hi;omega) (hr.2 i (by rw[(dh as).1]at hi;omega)))⟩
 have hxe:PY ps.size (tX (fG as))=fG as:=by rw[←hlen];exact Te _
 have hbi:=hb i _ hx hall L0;rw[hxe,←hH]at hbi;have hyl:(invoke (.fn (.yield L0) #[]) (#[]++vals)).run P w=.ok (.round L0 fn ((ps.zip vals).foldl (fun tmps (t,a)=>tmps.setIfInBounds t a) tmps) assign body) w:=by
  have:=run_yield (P:=P) (args:=vals) hL (by rw[←hrec];show vals.size=ps.size;rw[←hA.1,hlen])
  rw[←hrec]at this;simpa [invoke]using this
 rw[hyl,Oper.uponIn_round];refine⟨fun h=>by simp[Fw,Fence.wide]at h,roundIn_of_wpIn (F:=Fw r) trivial ?_⟩
 have hle0:bG S w ιc env tmps:=hR0.mono hkeep hle;have hR1:bG S w ιc (qK env ps.toList (fG as)) ((ps.zip vals).foldl (fun tmps (t,a)=>tmps.setIfInBounds t a) tmps):=by
  have:=Ti ps.toList (fG as) (vs:=vals.toList) hle0 (by simp;rw[←hlen];exact hA.1) (by simpa using hA.1) (fun i hi=>by have:=(hA.2 i hi).up ιc;simpa [akD]using this)
  rw[←Array.foldl_toList,Array.toList_zip];exact this
 have hA1:At B n S w ιc Hc (qK env ps.toList (fG as)) Hc {tmps:=(ps.zip vals).foldl (fun tmps (t,a)=>tmps.setIfInBounds t a) tmps,defers:=[]} w:=
  ⟨S,ιc,hBc,Mc,hR1,.nil _ _ _,fun d hd=>by simp at hd,.refl _ _ _ _ _⟩
 refine wpIn_mono (kZ (r:=some L0) hB hm hτ hC (hY _) assign hok1 _ _ _ _ hbi _ _ _ _ _ _ hA1) ?_
 rintro e aa w1 ⟨env2,H2,⟨n2,hk2⟩,hA2⟩
 cases e with
 |normal=>
  obtain⟨S2,ι2,hb2,M2,R2,D2,D2',T2⟩:=hA2.ex;have hnoL:∀{b},(b=L0∨b=D0)→¬owned ιc Hc b:=fun hb' ho=>by rcases hb' with rfl|rfl;exact(hne _ ho).2 rfl;exact(hne _ ho).1 rfl
  have hltL:=lt_of_heap hL;have hltD:=lt_of_heap hDk;have hL2:w1.heap[L0]? =some (.loop (rec .ready none)):=(T2.same _ hltL (hnoL (.inl rfl))).trans hL;have hD2:w1.heap[D0]? =some (.deferred (some [])):=(T2.same _ hltD (hnoL (.inr rfl))).trans hDk;have hno2:∀{b},(b=L0∨b=D0)→¬owned ι2 H2 b:=fun{b} hb' ho=>by
   rcases T2.own b ho with h|h
   ·exact hnoL hb' h
   ·rcases hb' with rfl|rfl<;>omega
  refine⟨_,run_beginRound hL2 (by rw[←hrec]),?_⟩
  obtain⟨M3,TX3,hL3,hO3⟩:=M2.aside (o':=.loop {rec .ready none with state:=.busy}) hL2 rfl rfl (hno2 (.inl rfl)) n;obtain⟨Mw,TXw,hLw,hOw⟩:=Mc.aside (o':=.loop {rec .ready none with state:=.busy}) hL rfl rfl (hnoL (.inl rfl)) n;have hD3:=(hO3 D0 hDL).trans hD2;have hszw:(w.putObj L0 (.loop {rec .ready none with state:=.busy})).heap.size=w.heap.size:=qqS;have hrdw:∀b j,rd (w.putObj L0 (.loop {rec .ready none with state:=.busy})) b j=rd w b j:=fun b j=>by
   by_cases e:b=L0
   ·subst e;rw[iT hLw rfl,iT hL rfl]
   ·exact dD (hOw b e) j
  have hrd3:∀b j,rd (w1.putObj L0 (.loop {rec .ready none with state:=.busy})) b j=rd w1 b j:=fun b j=>by
   by_cases e:b=L0
   ·subst e;rw[iT hL3 rfl,iT hL2 rfl]
   ·exact dD (hO3 b e) j
  have TB:Tr n S (w.putObj L0 (.loop {rec .ready none with state:=.busy})) ιc Hc S2 (w1.putObj L0 (.loop {rec .ready none with state:=.busy})) ι2 H2:=by
   refine⟨⟨T2.below.os,T2.below.tape,T2.below.output,by simpa using T2.below.size,fun b hb'=>?_⟩,fun b hb' ho=>?_,⟨fun b j hs=>⟨(T2.keeps.imm b j hs).1,?_⟩,fun b j hs=>?_⟩,fun b j hb' hs=>T2.immN b j qqO hs,fun b ho=>by rw[hszw];exact T2.own b ho,T2.protO,T2.protT⟩
   ·by_cases e:b=L0
    ·subst e;unfold bsz;rw[hL3,hLw]
    ·exact(gq (hO3 b e)).trans ((T2.below.len b qqO).trans (gq (hOw b e)).symm)
   ·by_cases e:b=L0
    ·subst e;exact hL3.trans hLw.symm
    ·exact(hO3 b e).trans ((T2.same b qqO ho).trans (hOw b e).symm)
   ·rw[hrdw,hrd3];exact(T2.keeps.imm b j hs).2
   ·rw[hrdw]at hs;rw[hrd3];exact T2.keeps.cells b j hs
  have hA3:At B n S (w.putObj L0 (.loop {rec .ready none with state:=.busy})) ιc Hc env2 H2 aa (w1.putObj L0 (.loop {rec .ready none with state:=.busy})):=
   ⟨S2,ι2,hB _ _ _ _ TX3.keeps TX3.below hb2,M3,R2.mono TX3.keeps (.refl _),⟨fun d hd=>by
    obtain⟨b,h1,h2,h3⟩:=D2.all d hd;refine⟨b,h1,?_,h3⟩;rw[hO3 b (fun e=>by rw[e,hL2]at h2;cases h2)];exact h2,D2.nodup⟩,fun d hd b hb=>by rw[hszw];exact D2' d hd b hb,TB⟩
  refine wpIn_mono (kZ (r:=some L0) hB hm hτ hC (hY _) body hok2 _ _ _ _ hk2 _ _ _ _ _ _ hA3) ?_
  rintro e a3 w3 ⟨env',H',⟨n3,hk3⟩,hA4⟩
  have fin:∀(jump:Option Code) (env4:Env) (H4:Hp),At B n S (w.putObj L0 (.loop {rec .ready none with state:=.busy})) ιc Hc env4 H4 a3 w3→vT gi (pre++[tX (fG as)])=jump.isNone→
   ((jump=none∧gi i=true∧H4=st (i+1))∨(∃e c,gi i=false∧jump=some c∧((e=.ret∧c=.ret)∨∃id,e=.exit id∧c=.exit id)∧Q e H4))→
   ∃v w',(Instr.endRound L0 jump).run P w3=.ok v w'∧next (a.put o.dst v) w':=by
   intro jump env4 H4 hA5 hgo5 hst5;obtain⟨S5,ι5,hb5,M5,R5,D5,D5',T5⟩:=hA5.ex;have hL5:w3.heap[L0]? =some (.loop {rec .ready none with state:=.busy}):=(T5.same _ qqO (hnoL (.inl rfl))).trans hLw;have hD5:w3.heap[D0]? =some (.deferred (some [])):=(T5.same _ qqO (hnoL (.inr rfl))).trans ((hOw D0 hDL).trans hDk);have hno5:∀{b},(b=L0∨b=D0)→¬owned ι5 H4 b:=fun{b} hb' ho=>by
    rcases T5.own b ho with h|h
    ·exact hnoL hb' h
    ·rcases hb' with rfl|rfl<;>omega
   obtain⟨M6,TX6,hL6,hO6⟩:=M5.aside (o':=.loop (rec (if jump.isNone then .ready else .done) jump)) hL5 rfl rfl (hno5 (.inl rfl)) n;have TT:=(TXw.trans T5.toX).trans TX6;have hpre':pre++[tX (fG as)]=L.take (i+1):=by rw[hpre];exact gN hx
   have hlt':∀b,(owned ι0 H0 b∨owned ι5 H4 b∨b=D0∨b=L0)→b<(w3.putObj L0 (.loop (rec (if jump.isNone then .ready else .done) jump))).heap.size:=by
    rintro b (h|⟨k,o,h1,h2,h3⟩|rfl|rfl)
    ·exact akv (hsz b h) TT.below.size
    ·exact(M6.obj k o h1).lt h3
    ·exact akv hltD TT.below.size
    ·exact akv hltL TT.below.size
   have hG6:oz B S0 w0 ι0 H0 D0 L0 rec L st gi Q (pre++[tX (fG as)]) (fun b=>owned ι0 H0 b∨owned ι5 H4 b∨b=D0∨b=L0) S5 (w3.putObj L0 (.loop (rec (if jump.isNone then .ready else .done) jump))):=by
    refine⟨ι5,H4,_,_,rfl,M6.obj,M6.liveO,M6.liveT,M6.dist,hB _ _ _ _ TX6.keeps TX6.below hb5,⟨fun k b hkb=>TT.protO k (hn k b hkb) b (hle.o k b hkb),fun k b m hkb=>?_⟩,hkeep.trans TT.keeps,
     fun b ho=>⟨fun e=>hno5 (.inr e) ho,fun e=>hno5 (.inl e) ho⟩,fun b ho=>?_,fun b ho=>hlt' b (.inl ho),aky hszge TT.below.size,hL6,(hO6 D0 hDL).trans hD5,?_⟩
    ·obtain⟨b',m',q1,q2⟩:=hle.t k b m hkb
     obtain⟨b2,m2,q3,q4⟩:=TT.protT k (hn' k _ hkb) b' m' q1;refine⟨b2,m2,q3,?_⟩;rcases q2 with⟨rfl,q2⟩|q2
     ·rcases q4 with⟨rfl,q4⟩|q4
      ·exact .inl ⟨rfl,qqO⟩
      ·exact .inr qqO
     ·rcases q4 with⟨rfl,q4⟩|q4
      ·exact .inr qqO
      ·exact .inr qqO
    ·rcases TT.own b ho with h|h
     ·exact hown b h
     ·exact .inr (aky hszge h)
    ·rcases hst5 with⟨rfl,g1,g2⟩|⟨e,c,g1,rfl,g2,g3⟩
     ·refine .inl ⟨rfl,rfl,i+1,qqO,hpre',fun j hj=>?_,g2⟩
      by_cases e:j=i
      ·rw[e];exact g1
      ·exact hall j qqO
     ·exact .inr ⟨rfl,i,e,c,hi,hpre',g1,rfl,g2,g3⟩
   have hxD:ι.x 0=fun b=>owned ι0 H0 b∨owned ιc Hc b∨b=D0∨b=L0:=hD;obtain⟨M7,L7,T7⟩:=M.extStep (k:=0) h0 hst0 hG6 TT.below TT.keeps
    (fun b hb' hno=>TT.same b hb' (fun ho=>hno (by rw[hxD];exact .inr (.inl ho))) (fun e=>hno (by rw[hxD];exact .inr (.inr (.inr e)))))
    (fun b j hb' hs=>(TT.immN b j hb' hs).imp id (fun ho=>by rw[hxD];exact .inr (.inl ho)))
    (fun b hb'=>by
      rw[hxD];rcases hb' with h|h|h|h
      ·exact .inl (.inl h)
      ·rcases TT.own b h with h|h
       ·exact .inl (.inr (.inl h))
       ·exact .inr h
      ·exact .inl (.inr (.inr (.inl h)))
      ·exact .inl (.inr (.inr (.inr h)))) hlt' M6.imm
   have hend:(Instr.endRound L0 jump).run P w3=.ok (.bool jump.isNone) (w3.putObj L0 (.loop (rec (if jump.isNone then .ready else .done) jump))):=by
    have:=run_endRound (P:=P) jump hL5;rw[←hrec]at this⊢;exact this
   refine⟨_,_,hend,?_⟩;refine hk _ S5 _ _ M7 L7 TT.keeps ?_ T7;rw[hgo5];exact .bp _ _
  cases e with
  |normal=>
   obtain⟨g1,g2⟩:=hKN _ _ _ hk3;have hgo6:vT gi (pre++[tX (fG as)])=true:=by rw[hpre,gN hx,nP hi];exact g1
   exact fin none _ _ (g2 _ _ _ _ _ _ hA4) hgo6 (.inl ⟨rfl,g1,rfl⟩)
  |ret=>
   obtain⟨g1,g2⟩:=hKR _ _ hk3;have hgo6:vT gi (pre++[tX (fG as)])=false:=by rw[hpre,gN hx,nP hi];exact g1
   exact fin (some .ret) _ _ hA4 hgo6 (.inr ⟨.ret,.ret,g1,rfl,.inl ⟨rfl,rfl⟩,g2⟩)
  |exit id=>
   obtain⟨g1,g2⟩:=hKX _ _ _ hk3;have hgo6:vT gi (pre++[tX (fG as)])=false:=by rw[hpre,gN hx,nP hi];exact g1
   exact fin (some (.exit id)) _ _ hA4 hgo6 (.inr ⟨.exit id,.exit id,g1,rfl,.inr ⟨id,rfl,rfl⟩,g2⟩)
  |_=>exact hk3.elim
 |_=>exact hk2.elim
theorem Mt:∀{H:Hp} {k:Nat} {o:AO},aA H k=some o→k<H.length:=by
 intro H;induction H with
 |nil=>intro k o h;simp[aA]at h
 |cons x H ih=>
  intro k o h;cases k with
  |zero=>simp
  |succ k=>have:=ih (k:=k) (o:=o) (by simpa [aA]using h);simp;omega
theorem Mem.push {S:Imm} {w:World} {ι:Ix} {H:Hp} (M:Mem S w ι H) (o:Obj) (hp:Obj.plain o=true):
 Mem S (w.alloc o) ι H∧Keeps S w S (w.alloc o)∧Bel w (w.alloc o)∧(w.alloc o).heap[w.heap.size]? =some o∧(w.alloc o).heap.size=w.heap.size+1∧∀b,b<w.heap.size→(w.alloc o).heap[b]? =w.heap[b]? :=by
 have hk:Keeps S w S (w.alloc o):=jY M.imm (w:=w) o;have hbel:Bel w (w.alloc o):=iI _ _ (gQ hp);have old:∀b,b<w.heap.size→(w.alloc o).heap[b]? =w.heap[b]? :=fun b hb=>iD hb;exact⟨⟨fun k ob ho=>(M.obj k ob ho).mono hk (.refl _) hbel (fun b hb=>old b ((M.obj k ob ho).lt hb)) (fun _=>rfl) rfl (fun _ _ _ h=>h),M.liveO,M.liveT,M.dist,fun b j hs=>by rw[(hk.imm b j hs).2];exact M.imm b j hs⟩,
  hk,hbel,gJ _ _,qqS,old⟩
theorem zu (hB:BOK B) (hm:P.follows .mixedOrders=true) (hτ:bB P τ) {md rf CP YP} (hC:jO P B CP) (hY:∀r,mJ P r B YP)
 {g:Operand} {ps:Array Tmp} {assign body:Code} {n:Nat} {Q:Exit→Env→Hp→Prop} {env:Env} {H:Hp} {gf:Nat} {fs0 cs0 fs cs:List PV} (L:List PV) (gi:Nat→Bool) (hs:Nat→List (Nat × AO))
 (hg:eo env g=.fn (.func gf) fs0 cs0) (hfs:jH fs0=some fs) (hcs:jH cs0=some cs) (hI:PZ P gf (fG fs) (fG cs) ps.size L)
 (hok1:eu assign=true) (hok2:eu body=true) (hlen:akN H.length n=true) (hp:akN p n=true)
 (h0:gV (hs 0) H fun H1=>gZ (lg [] H 0 H1) fun σ=>oh σ n env H (Bn env) H1 Ok)
 (hend:(∀j,j<L.length→gi j=true)→gV (hs L.length) H fun H1=>Q .normal env H1)
 (hb:∀i x,L[i]? =some x→(∀j,j<i→gi j=true)→∀l,gV (hs i) H fun H1=>cZ (qK env ps.toList (PY ps.size x)) fun env1=>ev P (some l) B n τ md rf CP YP assign n env1 H1 fun e env2 H2 n2=>match e with
   |.normal=>ev P (some l) B n τ md rf CP YP body n2 env2 H2 fun e env' H' _=>match e with
    |.normal=>Nx (∃extra:Sg,gi i=true∧gV (hs (i+1)) H fun H1=>gZ (lg extra H' 0 H1) fun σ=>oh σ n env' H' (Bn env) H1 Ok)
    |.ret=>VC (gi i=false)∧Q .ret env H'
    |.exit id=>VC (gi i=false)∧Q (.exit id) env H'
    |_=>False
   |_=>False):Lp md rf CP YP n (AW P none B p (.rangeFunc g ps assign body) Q env H):=by
 refine⟨fun S0 w0 ι0 H0 a w hA=>?_⟩;have hlen:=akY hlen;have hp:=akY hp;obtain⟨S,ι,hbw,M,R,D,D',T⟩:=hA.ex;have hn:∀k b,ι.o k=some b→k<n:=fun k b h=>by obtain⟨o,h1,_⟩:=M.liveO k b h;have:=Mt h1;omega
 have hn':∀k b,ι.t k=some b→k<n:=fun k b h=>by obtain⟨o,h1,_⟩:=M.liveT k b h;have:=Mt h1;omega
 simp only[iH,jf]at h0;have hAs:At B n S w ι H env H {tmps:=a.tmps,defers:=[]} w:=⟨S,ι,hbw,M,R,.nil _ _ _,fun d hd=>by simp at hd,.refl _ _ _ _ _⟩
 obtain⟨S1,ι1,hb1,M1,R1,_,_,T1⟩:=((jr (B:=B) h0).2 _ _ _ _ _ _ hAs).ex;refine wpIn_rangeFunc fun fn hfn=>?_;obtain⟨rec,hrec⟩:∃rec:LoopState→Option Code→Loop,(fun sta pe=>{state:=sta,pending:=pe,fn:=fn,tmps:=a.tmps,params:=ps,assign:=assign,body:=body,defers:=w.heap.size})=rec:=⟨_,rfl⟩;obtain⟨Ma,Ka,Ba,ha1,ha2,ha3⟩:=M1.push (.deferred (some [])) rfl;obtain⟨Mb,Kb,Bb,hb1',hb2',hb3'⟩:=Ma.push (.loop (rec .ready none)) rfl;obtain⟨W1,hW1⟩:∃W1,(w.alloc (.deferred (some []))).alloc (.loop (rec .ready none))=W1:=⟨_,rfl⟩;rw[hW1]at Mb Kb Bb hb1' hb2' hb3';rw[ha2]at hb1' hb2' hb3';have hD1:W1.heap[w.heap.size]? =some (.deferred (some [])):=(hb3' _ qqO).trans ha1;have hold:∀b,b<w.heap.size→W1.heap[b]? =w.heap[b]? :=fun b hb=>(hb3' b qqO).trans (ha3 b hb);have hK1:Keeps S w S1 W1:=T1.keeps.trans (Ka.trans Kb);have hBel1:Bel w W1:=Ba.trans Bb;have hnoH:∀b,owned ι H b→b<w.heap.size:=by rintro b ⟨k,o,h1,_,h3⟩;exact(M.obj k o h1).lt h3
 have hno1:∀b,owned ι1 (bC H (hs 0)) b→b<w.heap.size:=by rintro b ⟨k,o,h1,_,h3⟩;exact(M1.obj k o h1).lt h3
 have hgv:=oJ R g (fun x e=>by subst e;simp only[eo]at hg;cases hh:xJ x<;>rw[hh]at hg<;>cases hg)
 rw[hg]at hgv;generalize hev:a.eval g=gv at hgv
 cases hgv with
 |fn _ _ _ _ us vs hk hl hu hvs=>
  have hle1:ι.le ι1:=⟨fun k b h=>T1.protO k (hn k b h) b h,fun k b m h=>T1.protT k (hn' k _ h) b m h⟩;have hGs:=IQ (S0:=S) (w0:=w) (ι0:=ι) (H0:=H) (D0:=w.heap.size) (L0:=w.heap.size+1) (rec:=rec) (L:=L) (st:=fun i=>bC H (hs i)) (gi:=gi) (Q:=fun e H'=>Q e env H') hB;have hYi:Yields P (w.heap.size+1) ps.size (oz B S w ι H w.heap.size (w.heap.size+1) rec L (fun i=>bC H (hs i)) gi (fun e H'=>Q e env H')) (vT gi) L:=by
   rw[←hrec];refine IU hB hm hτ hC hY (md:=md) (rf:=rf) R hn (fun k b h=>hn' k b h) qqO (fun h=>by have:=hnoH _ h;omega) (fun h=>by have:=hnoH _ h;omega) hok1 hok2
    (KN:=fun i env' H'=>Nx (∃extra:Sg,gi i=true∧gV (hs (i+1)) H fun H1=>gZ (lg extra H' 0 H1) fun σ=>oh σ n env' H' (Bn env) H1 Ok)) (KR:=fun i H'=>VC (gi i=false)∧Q .ret env H') (KX:=fun i id H'=>VC (gi i=false)∧Q (.exit id) env H')
    (fun i env' H' h=>?_) (fun i H' h=>⟨h.1.get,h.2⟩) (fun i id H' h=>⟨h.1.get,h.2⟩) fun i x hx hall l=>?_
   ·obtain⟨extra,h1,h2⟩:=h.get
    simp only[iH,jf]at h2;exact⟨h1,(jr h2).2⟩
   ·have:=hb i x hx hall l
    rw[iH,bP]at this;exact this
  have hG0:oz B S w ι H w.heap.size (w.heap.size+1) rec L (fun i=>bC H (hs i)) gi (fun e H'=>Q e env H') [] (fun b=>owned ι H b∨owned ι1 (bC H (hs 0)) b∨b=w.heap.size∨b=w.heap.size+1) S1 W1:=
   ⟨ι1,bC H (hs 0),.ready,none,rfl,Mb.obj,Mb.liveO,Mb.liveT,Mb.dist,hB _ _ _ _ (Ka.trans Kb) hBel1 hb1,hle1,hK1,fun b h=>by have:=hno1 b h;omega,T1.own,fun b h=>by have:=hnoH b h;omega,qqO,hb1',hD1,
    .inl ⟨rfl,rfl,0,alq _,qqS,fun j hj=>qqO,rfl⟩⟩
  let ιi:Ix:=⟨fun _=>none,fun _=>none,fun k b=>k=0∧(owned ι H b∨owned ι1 (bC H (hs 0)) b∨b=w.heap.size∨b=w.heap.size+1)⟩
  have hxi:ιi.x 0=fun b=>owned ι H b∨owned ι1 (bC H (hs 0)) b∨b=w.heap.size∨b=w.heap.size+1:=by funext b;simp[ιi]
  have Mi:Mem S1 W1 ιi (dx [.ext (oz B S w ι H w.heap.size (w.heap.size+1) rec L (fun i=>bC H (hs i)) gi (fun e H'=>Q e env H')) []]):=by
   have only:∀{k o},aA (dx [.ext (oz B S w ι H w.heap.size (w.heap.size+1) rec L (fun i=>bC H (hs i)) gi (fun e H'=>Q e env H')) []]) k=some o→k=0∧o=.ext (oz B S w ι H w.heap.size (w.heap.size+1) rec L (fun i=>bC H (hs i)) gi (fun e H'=>Q e env H')) []:=by
    intro k o h;rw[fK]at h;cases k with
    |zero=>simp at h;exact⟨rfl,h.symm⟩
    |succ k=>simp at h
   refine⟨fun k o h=>?_,fun k b h=>by simp[ιi]at h,fun k b h=>by simp[ιi]at h,fun k k' o o' b h h' _ _=>by rw[(only h).1,(only h').1],Mb.imm⟩
   obtain⟨rfl,rfl⟩:=only h;refine⟨fun b hb=>?_,hGs,by rw[hxi];exact hG0⟩
   rw[hxi]at hb;rcases hb with h|h|h|h
   ·have:=hnoH b h;omega
   ·have:=hno1 b h;omega
   ·omega
   ·omega
  obtain⟨f1,f2⟩:=gY hfs;obtain⟨c1,c2⟩:=gY hcs;have hAi:bG S1 W1 ιi (fG fs++[.fv (.yield (w.heap.size+1)) #[] #[]]++fG cs) (us++ #[.func (.yield (w.heap.size+1)) #[] #[]]++vs):=by
   refine fV (fV ⟨(dh fs).1.trans (f1.trans hk),fun i hi=>?_⟩ ⟨rfl,fun i hi=>?_⟩) ⟨(dh cs).1.trans (c1.trans hl),fun i hi=>?_⟩
   ·rw[(dh fs).1]at hi
    exact Rep.up (((dh fs).2 i (f2 i qqO (hu i qqO))).mono hK1 _ (.refl _)) _
   ·have:i=0:=by simp at hi;omega
    subst this;exact .fv _ _ _ _
   ·rw[(dh cs).1]at hi
    exact Rep.up (((dh cs).2 i (c2 i qqO (hvs i qqO))).mono hK1 _ (.refl _)) _
  refine⟨w.heap.size+1,[{target:=.collected w.heap.size,args:= #[]}],W1,{target:=.fn (.func gf) vs,args:=us++ #[.func (.yield (w.heap.size+1)) #[] #[]]},W1,gf,us++ #[.func (.yield (w.heap.size+1)) #[] #[]]++vs,W1,?_,?_,?_,?_,fun h=>by simp[Fw,Fence.wide]at h,?_⟩
  ·rw[←hW1,←hrec];exact run_enterLoop_outer _ _ _ _ _
  ·simp only[resolve,hev,Deferred.ofValue,Sem.run_bind,Sem.run_pure,Result.andThen]
   simp[go_sem]
  ·intro f' _;trivial
  ·simp only[invoke,Sem.run_bind,Sem.run_pure,Result.andThen]
   exact hI.1 _ _
  ·refine CallsIn.mono (hI.2 _ _ _ hYi S1 W1 ιi _ (rM hK1 hBel1 (hB.glob _ _ hbw)) Mi hAi) ?_
   rintro e w5 ⟨val,S5,ι5,rfl,M5,R5,T5⟩
   obtain⟨_,_,hG5⟩:=M5.obj 0 _ (by rw[fK];rfl)
   obtain⟨ιc,Hc,sta,pend,hD5,hobj,hlo,hlt,hdi,hBc,hle,hkeep,hne,hown,hsz,hszge,hL,hDk,hstat⟩:=hG5;have Mc:Mem S5 w5 ιc Hc:=⟨hobj,hlo,hlt,hdi,M5.imm⟩;have hst':sta≠ .busy:=by rcases hstat with⟨h,_⟩|⟨h,_⟩<;>rw[h]<;>simp
   have hend':(Instr.endLoop (w.heap.size+1)).run P w5=.ok pend (w5.putObj (w.heap.size+1) (.loop {rec sta pend with state:=.exhausted})):=by
    have:=run_endLoop (P:=P) hL (by rw[←hrec];exact hst')
    rw[←hrec]at this⊢;exact this
   obtain⟨M6,TX6,hL6,hO6⟩:=Mc.aside (o':=.loop {rec sta pend with state:=.exhausted}) hL rfl rfl (fun h=>(hne _ h).2 rfl) p;have hDi:∀b,b<w.heap.size→owned ιi (dx [.ext (oz B S w ι H w.heap.size (w.heap.size+1) rec L (fun i=>bC H (hs i)) gi (fun e H'=>Q e env H')) []]) b→owned ι H b:=by
    rintro b hbl ⟨k,o,h1,_,h3⟩
    rw[fK]at h1;cases k with
    |succ k=>simp at h1
    |zero=>
     simp at h1;subst h1;have h3:ιi.x 0 b:=h3;rw[hxi]at h3;rcases h3 with h|h|h|h
     ·exact h
     ·rcases T1.own b h with h|h
      ·exact h
      ·omega
     ·omega
     ·omega
   have TF:Tr p S w ι H S5 (w5.putObj (w.heap.size+1) (.loop {rec sta pend with state:=.exhausted})) ιc Hc:=by
    refine⟨hBel1.trans (T5.below.trans TX6.below),fun b hbl ho=>?_,hkeep.trans TX6.keeps,fun b j hbl hs=>?_,hown,fun k hk b hkb=>hle.o k b hkb,fun k hk b m hkb=>hle.t k b m hkb⟩
    ·rw[hO6 b qqO,T5.same b qqO (fun h=>ho (hDi b hbl h)),hold b hbl]
    ·rcases T5.immN b j qqO hs with h|h
     ·exact T1.immN b j hbl h
     ·exact .inr (hDi b hbl h)
   have hAt:At B p S0 w0 ι0 H0 env Hc {a with defers:=[{target:=.collected w.heap.size,args:= #[]}]++a.defers} (w5.putObj (w.heap.size+1) (.loop {rec sta pend with state:=.exhausted})):=by
    refine⟨S5,ιc,hB _ _ _ _ TX6.keeps TX6.below hBc,M6,R.mono (hkeep.trans TX6.keeps) hle,⟨fun d hd=>?_,?_⟩,fun d hd b hb=>?_,T.trans TF⟩
    ·rcases al7.1 hd with rfl|hd
     ·exact⟨w.heap.size,rfl,(hO6 _ qqO).trans hDk,fun h=>(hne _ h).1 rfl⟩
     ·exact(D.tr TF).all d hd
    ·refine al8.2 ⟨fun d hd b b' h1 h2 e=>?_,D.nodup⟩
     obtain⟨b2,q1,q2,q3⟩:=D.all d hd;rw[q1]at h2;cases h2;cases h1
     have:=lt_of_heap q2;omega
    ·rcases al7.1 hd with rfl|hd
     ·cases hb;exact T.below.size
     ·exact D' d hd b hb
   refine⟨pend,_,hend',?_⟩;rcases hstat with⟨s1,rfl,i,hi,hpre,hall,hH⟩|⟨s1,i,e,c,hi,hpre,hgf,rfl,hec,hQ⟩
   ·have:i=L.length:=Tg hi (fun j hj=>by rw[nP qqO];exact hall j hj) hpre
    subst this;have:=hend hall;rw[iH]at this;exact⟨env,Hc,by rw[hH];exact this,hAt⟩
   ·rcases hec with⟨rfl,rfl⟩|⟨id,rfl,rfl⟩
    ·exact wpIn_ret ⟨env,Hc,hQ,hAt⟩
    ·exact wpIn_exit ⟨env,Hc,hQ,hAt⟩
end
variable {P:Program} {τ:TypeId→Option TE}
theorem Tj {B:Imm→World→Prop} (hB:BOK B) (hm:P.follows .mixedOrders=true) (hτ:bB P τ) {md rf CP YP} (hC:jO P B CP) (hY:mJ P none B YP) {g:FuncId} {fn:Func} {args rs:List PV} {objs objs':List AO} (n0:Nat) (extra:Sg)
 (hf:P.funcs[g]? =some fn) (hb:fn.body.isSome=true) (hok:eu (fn.body.getD .skip)=true)
 (h:vR P B τ md rf CP YP fn args objs n0 extra rs objs'):Bg P B g args objs rs objs':=by
 obtain⟨c,hc⟩:=akF.1 hb;unfold vR at h;rw[hc]at h hok;exact yZ hB hτ hf hc ((kZ hB hm hτ hC hY c hok _ _ _ _ h).mono fun e env H ⟨n,h⟩=>h)
theorem enters' {g:FuncId} {fn:Func} (hf:P.funcs[g]? =some fn) (hn:(fn.name== "runtime.NumGoroutine")=false) (hb:fn.body.isSome=true):Enters P g:=enters hf hn (by cases h:fn.body<;>simp_all)
theorem Xp (hm:P.follows .mixedOrders=true) (hτ:bB P τ) {g:FuncId} {fn:Func} {fs cs L:List PV} {m:Nat} {md:Nat} {rf:List Nat}
 (hf:P.funcs[g]? =some fn) (hn:(fn.name== "runtime.NumGoroutine")=false) (hb:fn.body.isSome=true) (hok:eu (fn.body.getD .skip)=true)
 (h:∀(G:GT) (go:List PV→Bool) (b:Nat),Yields P b m G go L→∃CP,bD P CP∧vR P sV τ md rf CP (Xo b m G go L) fn (fs++[.fv (.yield b) #[] #[]]++cs) [.ext G []] 1 [] [] [.ext G (kL go [] L)]):PZ P g fs cs m L:=
 ⟨enters' hf hn hb,fun G go b hY=>by
  obtain⟨CP,hC,h⟩:=h G go b hY;exact Tj aL hm hτ hC (hY _ _) 1 [] hf hb hok h⟩
def Mv (args:List PV) (objs:List AO) (args1:List PV) (H1:Hp):Prop:=
 ∀(S:Imm) (w:World) (ι:Ix) (vs:Array Value),Mem S w ι (dx objs)→bG S w ι args vs→∃ι',Mem S w ι' H1∧bG S w ι' args1 vs∧∀p,Tr p S w ι (dx objs) S w ι' H1
theorem Mv.refl (args:List PV) (objs:List AO):Mv args objs args (dx objs):=fun S w ι vs M R=>⟨ι,M,R,fun p=>.refl _ _ _ _ _⟩
section
variable {P:Program} {τ:TypeId→Option TE} {B:Imm→World→Prop}
end
def tY (H:Hp):List PV→(List PV→List (Nat × AO)→Prop)→Prop
 | [],K=>K [] []
 |p::r,K=>match p with
  |.rsl j off n=>bR H j fun o=>match o with
   |.cells c fz=>match fz with
    |true=>False
    |false=>lV c fun d=>jM d fun ce=>gu d fun cn=>ifK (akM off 0) (n≤cn∧tY H r fun us sets=>ifK (match gW j (keys sets)with|true=>false|false=>true) (K (.isl (d.sub 0 n) .none::us) ((j,.cells d true)::sets)))
   |_=>False
  |p=>match iQ p with
   |some q=>bN q fun q=>tY H r fun us sets=>K (q::us) sets
   |none=>False
theorem Bo {H:Hp}:∀{ds:List PV} {K:List PV→List (Nat × AO)→Prop},tY H ds K→∃us sets,K us sets∧us.length=ds.length∧
 ∀{S:Imm} {w:World} {ι:Ix} {H':Hp} (vals:Nat→Value),Mem S w ι H'→(∀j∈keys sets,aA H' j=aA H j)→(∀i,i<ds.length→Rep S w ι (aH ds i) (vals i))→
  ∃S',Mem S' w ι (bC H' sets)∧Keeps S w S' w∧(∀p,Tr p S w ι H' S' w ι (bC H' sets))∧∀i,i<us.length→Rep S' w noI (aH us i) (vals i):=by
 intro ds;induction ds with
 |nil=>intro K h;exact⟨_,_,h,rfl,fun vals M _ _=>⟨_,M,.refl _ _,fun p=>.refl _ _ _ _ _,fun i hi=>by simp at hi⟩⟩
 |cons p r ih=>
  intro K h;unfold tY at h;split at h
  ·rename_i j off n
   rw[bE]at h;obtain⟨ob,hob,h⟩:=h;split at h
   ·rename_i c fz
    split at h
    ·exact h.elim
    ·obtain⟨d,hA,d1,d2,d3⟩:=gX h
     clear h;simp only[eY,dJ,aK]at hA;obtain⟨hoff,hn,hB⟩:=hA;have hoff:=akR hoff;subst hoff;obtain⟨us,sets,hC,hl,hs⟩:=ih hB;obtain⟨hj,hK⟩:=hC;have hj:j∉keys sets:=fun hm=>by rw[←pJ]at hm;rw[hm]at hj;cases hj
     refine⟨_,_,hK,by simp[hl],fun{S w ι H'} vals M ha hr=>?_⟩
     have hob':=(ha j (by simp[keys])).trans hob
     obtain⟨S1,M1,K1,T1,F1⟩:=M.freeze (c':=d) hob' d2 (fun j hj=>by intro S w ι v hr;exact d3 j hj hr)
     obtain⟨S2,M2,K2,T2,R2⟩:=hs (fun i=>vals (i+1)) M1 (fun j' hj'=>by
      rw[aX,if_neg (fun(e:j'=j)=>hj (by subst e;exact hj'))]
      exact ha j' (by simp only[keys,List.map_cons,al7];exact .inr hj')) (fun i hi=>by have:=(hr (i+1) (by simpa using hi)).mono K1 _ (.refl _);simpa [aH]using this)
     refine⟨S2,M2,K1.trans K2,fun p=>(T1 p).trans (T2 p),fun i hi=>?_⟩;cases i with
     |succ i=>simpa [aH]using R2 i (by simpa using hi)
     |zero=>
      simp only[aH];have h0:=(hr 0 qqS).mono K1 _ (.refl _);simp only[aH]at h0;refine Rep.mono K2 (ι:=noI) ?_ _ (.refl _);generalize vals 0=v0 at h0
      cases h0 with
      |rsl _ _ _ _ b cap hk hc _=>
       have:=rP (S:=S1) (w:=w) (c:=d) (b:=b) (off:=0) (fun j hj=>by rw[akS];exact(F1 b hk j hj).1) (fun j hj=>by rw[akS];exact(F1 b hk j hj).2) (x:=0) (y:=n) qqO hn (cap:=cap) qqO noI
       simpa using this
      |rslz _ _ _ b o hk=>
       exact nK _ (by rw[j5 _ qqO]) (.inr ⟨b,o,rfl⟩) noI
   ·exact h.elim
  ·split at h
   ·rename_i q hq
    rw[bL]at h;obtain⟨us,sets,hK,hl,hs⟩:=ih h;refine⟨_,_,hK,by simp[hl],fun{S w ι H'} vals M ha hr=>?_⟩
    obtain⟨S2,M2,K2,T2,R2⟩:=hs (fun i=>vals (i+1)) M ha (fun i hi=>by have:=hr (i+1) (by simpa using hi);simpa [aH]using this)
    refine⟨S2,M2,K2,T2,fun i hi=>?_⟩;cases i with
    |succ i=>simpa [aH]using R2 i (by simpa using hi)
    |zero=>simpa [aH]using(j6 hq (hr 0 qqS)).mono K2 _ (.refl _)
   ·exact h.elim
theorem vU (H:Hp):∀(a b:List (Nat × AO)),bC H (a++b)=bC (bC H a) b:=by
 intro a;induction a generalizing H with
 |nil=>intro b;rfl
 |cons x a ih=>intro b;obtain⟨k,o⟩:=x;simp only[List.cons_append,bC,ih]
theorem IV (pre post:List AO) (o o':AO) (k:Nat):aA (aO (dx (pre++o::post)) pre.length o') k=aA (dx (pre++o'::post)) k:=by
 rw[aX,fK,fK];by_cases h:k=pre.length
 ·subst h;simp
 ·rw[if_neg h]
  rcases akw k pre.length with h1|h1
  ·rw[amr h1,amr h1]
  ·rw[alG h1,alG h1]
   obtain⟨j,hj⟩:∃j,k-pre.length=j+1:=⟨k-pre.length-1,qqO⟩;rw[hj];rfl
theorem Bp {P:Program} {g:FuncId} {args vs:List PV} {objs' pre post:List AO} {n:Nat} {rc:RC} (he:Enters P g)
 (h:∀(l:List Nat) (rc':RC),rc'.kin rc→l.length=n→l.Nodup→(∀i,i<n→rc'.at (l.getD i 0)=rc.at i)→dH P g args (pre++ .mat l l rc'::post) vs objs'):
 dH P g args (pre++ .pmat n rc::post) vs objs':=by
 refine⟨he,fun S w ι us hb M hr=>?_⟩;have hk:aA (dx (pre++AO.pmat n rc::post)) pre.length=some (.pmat n rc):=by rw[fK];simp
 obtain⟨all,l,rc',h1',h2,h3,h4,h6,h5⟩:=M.obj _ _ hk;have hmem:∀b,b∈all↔b∈l:=fun b=>⟨h6 b,fun hb=>by
  obtain⟨i,hi,rfl⟩:=akK hb;obtain⟨b0,arr,e,_,_,_,_,_,_,_,h8⟩:=h1';have:=(h8 i hi).1;rw[akG,akL hi]at this;exact this⟩
 have h1:iA S w ι pre.length l l rc':=by
  obtain⟨b0,arr,e,g1,g2,g3,g4,g5,g6,g7,g8⟩:=h1';exact⟨b0,arr,e,g1,g2,g3,g4,fun h=>g5 ((hmem _).2 h),fun b'=>by rw[g6 b',hmem],fun r hr=>g7 r ((hmem r).2 hr),fun i hi=>⟨(hmem _).1 (g8 i hi).1,(g8 i hi).2⟩⟩
 obtain⟨M1,T1⟩:=M.stay (o':=.mat l l rc') hk rfl rfl rfl (.refl _) (.refl _ _) (fun _ _=>rfl) (fun b hb=>hb) h1;have hg:=IV pre post (.pmat n rc) (.mat l l rc');refine CallsIn.mono ((h l rc' h2 h3 h4 h5).2 S w ι us hb (M1.congr hg) hr) ?_
 rintro e w' ⟨val,S',ι',e1,M',R',T'⟩
 refine⟨val,S',ι',e1,M',R',?_⟩;have e2:(pre++AO.pmat n rc::post).length=(pre++AO.mat l l rc'::post).length:=qqS;rw[e2];exact((T1 _).congr' hg).trans T'
theorem Bq {P:Program} {g:FuncId} {args vs:List PV} {objs' pre post:List AO} {n:Nat} {q:IntKind} {c:Nat→List Int} (he:Enters P g)
 (h:∀(l:List Nat) (c':Nat→List Int),l.length=n→l.Nodup→(∀i,i<n→c' (l.getD i 0)=c i)→dH P g args (pre++ .mat l l (.ints q c')::post) vs objs'):
 dH P g args (pre++ .pmat n (.ints q c)::post) vs objs':=by
 refine Bp he fun l rc' hk hl hn hc=>?_;cases rc' with
 |ints q' c'=>
  cases hk
  exact h l c' hl hn (fun i hi=>by have:=hc i hi;simp only[RC.at]at this;injection this)
 |recs m c'=>exact hk.elim
 |fn e m c'=>exact hk.elim
theorem Gh {P:Program} {g:FuncId} {args vs:List PV} {objs' pre post:List AO} {n e m:Nat} {c:Nat→Nat→List PV} (he:Enters P g)
 (h:∀(l:List Nat) (c':Nat→Nat→List PV),l.length=n→l.Nodup→(∀i,i<n→c' (l.getD i 0)=c i)→dH P g args (pre++ .mat l l (.fn e m c')::post) vs objs'):
 dH P g args (pre++ .pmat n (.fn e m c)::post) vs objs':=by
 refine Bp he fun l rc' hk hl hn hc=>?_;cases rc' with
 |ints q' c'=>exact hk.elim
 |recs q c'=>exact hk.elim
 |fn e' m' c'=>
  cases hk
  exact h l c' hl hn (fun i hi=>by have:=hc i hi;simp only[RC.at]at this;injection this)
section
variable {P:Program} {r:Option Nat} {τ:TypeId→Option TE} {B:Imm→World→Prop} {p:Nat}
end
end Go.Eng
namespace Go.Eng
open Go.RowKit Go.Sort
set_option linter.unusedSimpArgs false
set_option linter.unusedVariables false
theorem Mem.write' {S:Imm} {w w':World} {ι:Ix} {H:Hp} (M:Mem S w ι H) {k b:Nat} {c c':CL} {arr arr':Array Value} {e:TypeId}
 (ho:aA H k=some (.cells c false)) (hk:ι.o k=some b) (h:w.heap[b]? =some (.cells arr e (0,0))) (below:Bel w w') (other:∀b',b'<w.heap.size→b'≠b→w'.heap[b']? =w.heap[b']?) (here:w'.heap[b]? =some (.cells arr' e (0,0))) (hsz:arr.size≤arr'.size)
 (hn:c'.ncell≤arr'.size) (hc:∀j,j<c'.ncell→Rep S w ι (c'.get j) (arr'.getD j undef)):
 Mem S w' ι (aO H k (.cells c' false))∧Keeps S w S w'∧∀p,Tr p S w ι H S w' ι (aO H k (.cells c' false)):=by
 obtain⟨b0,arr0,e0,h1,h2,h3,h4,h5⟩:=M.obj k _ ho;rw[hk]at h1;cases h1
 have hlt:∀b' j,(rd w b' j).isSome→b'<w.heap.size:=fun b' j hs=>by
  rcases akw b' w.heap.size with h6|h6
  ·exact h6
  ·unfold rd at hs;rw[akx h6]at hs;simp at hs
 have hkeep:Keeps S w S w':=⟨fun b' j hs=>⟨hs,dD (other b' (hlt b' j (M.imm b' j hs)) (fun e=>by subst e;exact h5 j hs)) j⟩,fun b' j hs=>by
  by_cases eb:b'=b
  ·subst eb
   rw[aJ h]at hs;rw[aJ here];have:j<arr.size:=by
    rcases akw j arr.size with h1|h1
    ·exact h1
    ·rw[akx h1]at hs;simp at hs
   rw[akA qqO];rfl
  ·rw[dD (other b' (hlt b' j hs) eb) j];exact hs⟩
 have ht:ι.t k=none:=by
  cases et:ι.t k with
  |none=>rfl
  |some x=>obtain⟨o,g1,g2⟩:=M.liveT k x et;rw[ho]at g1;cases g1;simp[AO.isTok]at g2
 have:=M.step (S':=S) (w':=w') (ι':=ι) (k:=k) (o':=.cells c' false) (b:=b) below other hkeep (fun b' j h=>.inl h) (fun j hs=>absurd hs (h5 j)) (.refl _) (fun _ _=>rfl) (fun _ _=>rfl)
  rfl (.inr ⟨_,ho,rfl,hk⟩) (fun b'=>by simp[AO.has,hk,eq_comm]) (by simp[AO.isTok]) (fun _=>ht) ⟨b,arr',e,hk,here,hn,fun j hj=>(hc j hj).mono hkeep _ (.refl _),h5⟩
 exact⟨this.1,hkeep,this.2⟩
end Go.Eng
namespace Go.Eng
open Go.RowKit
set_option linter.unusedSimpArgs false
set_option linter.unusedVariables false
section
variable {P:Program} {r:Option Nat} {B:Imm→World→Prop} {p:Nat}
theorem At.freeze {S0:Imm} {w0:World} {ι0:Ix} {H0 H:Hp} {env:Env} {a:Act} {w:World} (h:At B p S0 w0 ι0 H0 env H a w) (hB:BOK B) {k:Nat} {x d:CL} (hx:aA H k=some (.cells x false)) (hn:d.ncell=x.ncell)
 (hc:∀j,j<x.ncell→∀{S:Imm} {w:World} {ι:Ix} {v:Value},Rep S w ι (x.get j) v→Rep S w noI (d.get j) v):At B p S0 w0 ι0 H0 env (aO H k (.cells d true)) a w:=by
 obtain⟨S,ι,hb,M,R,D,D',T⟩:=h.ex;obtain⟨S',M',K',T',_⟩:=M.freeze hx hn hc;exact⟨S',ι,hB _ _ _ _ K' (.refl _) hb,M',R.mono K' (.refl _),D.tr (T' p),D',T.trans (T' p)⟩
end
theorem Tk {w:World} {b j:Nat} (hs:(rd w b j).isSome):b<w.heap.size:=by
 rcases akw b w.heap.size with h|h
 ·exact h
 ·unfold rd at hs;rw[akx h]at hs;simp at hs
theorem P5 {S:Imm} {w w':World} {v:PV} {val:Value} (himm:∀b j,S b j→(rd w b j).isSome) (hB:Below w.heap.size w w') (hr:Rep S w noI v val):W9 S w v val S w':=by
 have hk:Keeps S w S w':=⟨fun b j hs=>⟨hs,dD (hB.block b (Tk (himm b j hs))) j⟩,fun b j hs=>by rw[dD (hB.block b (Tk hs)) j];exact hs⟩
 refine⟨fun b j hs=>by rw[(hk.imm b j hs).2];exact himm b j hs,hk,hr.mono hk _ (.refl _),⟨hB.os,hB.tape,hB.output,hB.size,fun b hb=>gq (hB.block b hb)⟩,hB.block,fun b j _ hs=>hs⟩
theorem l6 {P:Program} {g:FuncId} {xs:List PV} {u:PV} (hent:Enters P g)
 (h:∀(S:Imm) (w:World) (vs:Array Value),gB S w→(∀b j,S b j→(rd w b j).isSome)→bG S w noI xs vs→∃val,Rep S w noI u val∧Calls P g vs w fun e w'=>e=.returned val∧Below w.heap.size w w'):aD P g xs u:=by
 refine⟨hent,fun S w vs hg himm hA=>?_⟩;obtain⟨val,hr,hc⟩:=h S w vs hg himm hA;refine(callsIn_wide.2 hc).mono ?_
 rintro e w' ⟨rfl,hB⟩
 exact⟨val,S,rfl,P5 himm hB hr⟩
theorem fD {P:Program} {g:FuncId} {xs:List PV} {u:PV} (hent:Enters P g)
 (h:∀(S:Imm) (w:World) (vs:Array Value),(∀b j,S b j→(rd w b j).isSome)→bG S w noI xs vs→∃val,Rep S w noI u val∧Calls P g vs w fun e w'=>e=.returned val∧Below w.heap.size w w'):aD P g xs u:=
 l6 hent fun S w vs _=>h S w vs
def C9 (C:PSp):CT:=fun args n H K=>tY H args fun us sets=>C us fun v=>K v sets (keys sets) []
theorem P6 {P:Program} {g:FuncId} {C:PSp} (h:POK P g C):COK P g (C9 C):=by
 intro args n H K hk;unfold C9 at hk;obtain⟨us,sets,hk,hl,hs⟩:=Bo hk;obtain⟨v,hk,hent,hv⟩:=h _ _ hk;refine⟨v,_,_,[],hk,.inl ⟨hent,fun S w ι H' vs hgb M hr ha _=>?_⟩⟩;obtain⟨S1,M1,K1,T1,R1⟩:=hs (fun i=>vs.getD i undef) M (fun j hj=>ha j hj) (fun i hi=>hr.2 i hi);have hA:bG S1 w noI us vs:=⟨hl.trans hr.1,fun i hi=>R1 i hi⟩;refine(hv S1 w vs (rM K1 (.refl _) hgb) M1.imm hA).mono ?_
 rintro ex w' ⟨val,S',rfl,o⟩
 have hno:∀k' ob b,aA (bC H' sets) k'=some ob→ob.has ι k' b→b<w.heap.size:=fun k' ob b ho hb=>(M1.obj k' ob ho).lt hb;have T3:∀p,Tr p S1 w ι (bC H' sets) S' w' ι (bC H' sets):=fun p=>
  ⟨o.below,fun b hb _=>o.same b hb,o.keeps,fun b j hb hs=>.inl (o.immN b j hb hs),fun b h=>.inl h,fun _ _ _ h=>h,fun _ _ b n h=>⟨b,n,h,.inl ⟨rfl,aku _⟩⟩⟩
 exact⟨val,S',ι,rfl,⟨fun k' ob ho=>(M1.obj k' ob ho).mono o.keeps (.refl _) o.below (fun b hb=>o.same b (hno k' ob b ho hb)) (fun _=>rfl) rfl (fun b j hb hs=>o.immN b j (hno k' ob b ho hb) hs),M1.liveO,M1.liveT,M1.dist,o.imm⟩,
  .refl _,K1.trans o.keeps,o.rep.up ι,fun p=>(T1 p).trans (T3 p)⟩
theorem Gi {P:Program} {g:FuncId} {args as:List PV} {H:Hp} {v:PV} (ha:jH args=some as) (h:aD P g as v):iJ P g args H v [] [] []:=by
 obtain⟨hent,h⟩:=h;refine .inl ⟨hent,fun S w ι H' vs hgb M hr _ _=>?_⟩;obtain⟨h1,h2⟩:=gY ha;refine(h S w vs hgb M.imm ⟨h1.trans hr.1,fun i hi=>h2 i qqO (hr.2 i qqO)⟩).mono ?_
 rintro e w' ⟨val,S',rfl,o⟩
 have hno:∀k ob b,aA H' k=some ob→ob.has ι k b→b<w.heap.size:=fun k ob b ho hb=>(M.obj k ob ho).lt hb;refine⟨val,S',ι,rfl,⟨fun k ob ho=>(M.obj k ob ho).mono o.keeps (.refl _) o.below (fun b hb=>o.same b (hno k ob b ho hb)) (fun _=>rfl) rfl (fun b j hb hs=>o.immN b j (hno k ob b ho hb) hs),M.liveO,M.liveT,M.dist,o.imm⟩,
  .refl _,o.keeps,o.rep.up ι,fun p=>⟨o.below,fun b hb _=>o.same b hb,o.keeps,fun b j hb hs=>.inl (o.immN b j hb hs),fun b h=>.inl h,fun _ _ _ h=>h,fun _ _ b n h=>⟨b,n,h,.inl ⟨rfl,aku _⟩⟩⟩⟩
def GI (C:PSp):CT:=fun args n H K=>match jH args with|some xs=>cZ xs fun as=>C as fun v=>K v [] [] []|none=>False
theorem IW {P:Program} {g:FuncId} {C:PSp} (h:POK P g C):COK P g (GI C):=by
 intro args n H K hk;unfold GI at hk;split at hk
 ·rename_i as ha
  rw[bP]at hk;obtain⟨v,hK,hs⟩:=h _ _ hk;exact⟨v,[],[],[],hK,Gi ha hs⟩
 ·exact hk.elim
def xU:List Nat→List Nat→Bool
 | [],_=>true
 |k::r,l=>match gW k l with|true=>false|false=>xU r l
theorem vV {a b:List Nat} (h:xU a b=true):∀k∈a,k∉b:=by
 induction a with
 |nil=>intro k hk;simp at hk
 |cons x a ih=>
  unfold xU at h;split at h
  ·cases h
  ·rename_i hx
   intro k hk;rcases al7.1 hk with rfl|hk
   ·intro hm;rw[←pJ]at hm;rw[hm]at hx;cases hx
   ·exact ih h k hk
def Da (H:Hp):List PV→(List PV→List (Nat × AO)→Prop)→Prop
 | [],K=>K [] []
 |p::r,K=>match p with
  |.rp k off=>bR H k fun o=>match o with
   |.cells c fz=>match fz with
    |true=>False
    |false=>match c with
     |.pv ds=>tY H ds fun us s1=>Da H r fun ws s2=>ifK ((match gW k (keys s1)with|true=>false|false=>true)&&xU (keys s1++[k]) (keys s2)) (K (.ip (.pv us) off::ws) (s1++(k,.cells (.pv us) true)::s2))
     |_=>False
   |_=>False
  |.agg ds=>tY H ds fun us s1=>Da H r fun ws s2=>ifK (xU (keys s1) (keys s2)) (K (.agg us::ws) (s1++s2))
  |p=>tY H [p] fun us s1=>Da H r fun ws s2=>ifK (xU (keys s1) (keys s2)) (K (us++ws) (s1++s2))
theorem mQ:∀(a b:List (Nat × AO)),keys (a++b)=keys a++keys b
 | [],_=>rfl
 |x::a,b=>congrArg (x.1:: ·) (mQ a b)
def nD (H:Hp) (ps us:List PV) (sets:List (Nat × AO)):Prop:=
 us.length=ps.length∧∀{S:Imm} {w:World} {ι:Ix} {H':Hp} (vals:Nat→Value),Mem S w ι H'→(∀j∈keys sets,aA H' j=aA H j)→(∀i,i<ps.length→Rep S w ι (aH ps i) (vals i))→
  ∃S',Mem S' w ι (bC H' sets)∧Keeps S w S' w∧(∀p,Tr p S w ι H' S' w ι (bC H' sets))∧∀i,i<us.length→Rep S' w noI (aH us i) (vals i)
theorem nD.app {H:Hp} {ps us qs ws:List PV} {s1 s2:List (Nat × AO)} (h1:nD H ps us s1) (h2:nD H qs ws s2) (hd:∀k∈keys s1,k∉keys s2):nD H (ps++qs) (us++ws) (s1++s2):=by
 refine⟨by simp[h1.1,h2.1],fun{S w ι H'} vals M ha hr=>?_⟩
 have gl:∀(a b:List PV) i,aH (a++b) i=if i<a.length then aH a i else aH b (i-a.length):=by
  intro a;induction a with
  |nil=>intro b i;simp
  |cons x a ih=>intro b i;cases i with
   |zero=>simp[aH]
   |succ i=>simp[aH,ih]
 obtain⟨S1,M1,K1,T1,R1⟩:=h1.2 vals M (fun j hj=>ha j (by rw[mQ];simp[hj])) (fun i hi=>by have:=hr i (by simp;omega);rw[gl,if_pos hi]at this;exact this)
 obtain⟨S2,M2,K2,T2,R2⟩:=h2.2 (fun i=>vals (i+ps.length)) M1 (fun j hj=>by
  rw[jS (fun hm=>hd j hm hj)];exact ha j (by rw[mQ];simp[hj])) (fun i hi=>by
  have:=(hr (i+ps.length) (by simp;omega)).mono K1 _ (.refl _)
  rw[gl,if_neg qqO,Nat.add_sub_cancel]at this;exact this)
 refine⟨S2,by rw[vU];exact M2,K1.trans K2,fun p=>by rw[vU];exact(T1 p).trans (T2 p),fun i hi=>?_⟩
 rw[gl];split
 ·rename_i hi';exact(R1 i hi').mono K2 _ (.refl _)
 ·have:=R2 (i-us.length) (by simp at hi;omega)
  rw[h1.1]at this⊢;rw[Nat.sub_add_cancel (by have:=h1.1;omega)]at this
  exact this
theorem Db {H:Hp} {ds:List PV} {K:List PV→List (Nat × AO)→Prop} (h:tY H ds K):∃us sets,K us sets∧nD H ds us sets:=by
 obtain⟨us,sets,hk,hl,hs⟩:=Bo h;exact⟨us,sets,hk,hl,hs⟩
theorem abO {H:Hp} {k off:Nat} {ds us:List PV} {s1:List (Nat × AO)} (hob:aA H k=some (.cells (.pv ds) false)) (h:nD H ds us s1) (hkm:k∉keys s1):nD H [.rp k off] [.ip (.pv us) off] (s1++[(k,.cells (.pv us) true)]):=by
 obtain⟨hl,hs⟩:=h;refine⟨rfl,fun{S w ι H'} vals M ha hr=>?_⟩;have hob':=(ha k (by rw[mQ];simp[keys])).trans hob
 obtain⟨b,arr,e,g1,g2,g3,g4,g5⟩:=M.obj k _ hob';obtain⟨S1,M1,K1,T1,R1⟩:=hs (fun i=>arr.getD i undef) M (fun j hj=>ha j (by rw[mQ];simp[hj])) (fun i hi=>g4 i hi)
 have hk1:aA (bC H' s1) k=some (.cells (.pv ds) false):=by rw[jS hkm];exact hob'
 obtain⟨b',arr',e',q1,q2,q3,q4,q5⟩:=M1.obj k _ hk1;rw[g1]at q1;cases q1
 rw[g2]at q2;cases q2
 let S2:Imm:=fun b' j=>S1 b' j∨(b'=b∧j<us.length)
 have hk2:Keeps S1 w S2 w:=⟨fun b' j hs=>⟨.inl hs,rfl⟩,fun b' j hs=>hs⟩;have hus:us.length≤arr.size:=by rw[hl];exact g3
 have rdb:∀j,rdv w b j=arr.getD j undef:=fun j=>by rw[rdv,aJ g2,akD]
 have hlie:∀j,j<(CL.pv us).ncell→S2 b j∧Rep S2 w noI ((CL.pv us).get j) (rdv w b j):=fun j hj=>⟨.inr ⟨rfl,hj⟩,by rw[rdb];exact(R1 j hj).mono hk2 _ (.refl _)⟩
 obtain⟨M2,T2⟩:=M1.step1 (S':=S2) (w':=w) (ι':=ι) (k:=k) (o':=.cells (.pv us) true) (b:=b) (Bel.refl _) (fun _ _ _=>rfl) hk2 (fun b' j hs=>by rcases hs with h|⟨h,_⟩;exact .inl h;exact .inr h)
  (fun j hs=>by
    rcases hs with h|⟨_,h⟩
    ·exact absurd h (q5 j)
    ·rw[aJ g2,akA qqO];rfl) (.refl _) (fun _ _=>rfl) (fun _ _=>rfl) rfl (.inr ⟨_,hk1,rfl,g1⟩) (fun b' h=>h.elim) (by simp[AO.isTok]) (fun _=>M1.cells_t hk1 rfl)
  ⟨b,g1,hlie⟩
 have hput:bC H' (s1++[(k,.cells (.pv us) true)])=aO (bC H' s1) k (.cells (.pv us) true):=by rw[vU];rfl
 rw[hput];refine⟨S2,M2,K1.trans hk2,fun p=>(T1 p).trans (T2 p),fun i hi=>?_⟩;have hi0:i=0:=by simp at hi;exact hi
 subst hi0;have h0:=hr 0 qqS;simp only[aH]at h0⊢;generalize vals 0=v0 at h0
 cases h0 with
 |rp _ _ _ b2 hb2=>
  rw[g1]at hb2;cases hb2
  have:=Rep.ip (S:=S2) (w:=w) noI (.pv us) off b 0 (fun j hj=>by rw[akS];exact(hlie j hj).1) (fun j hj=>by rw[akS];exact(hlie j hj).2)
  rwa [akS]at this
theorem abP {H:Hp} {ds us:List PV} {s1:List (Nat × AO)} (h:nD H ds us s1):nD H [.agg ds] [.agg us] s1:=by
 obtain⟨hl,hs⟩:=h;refine⟨rfl,fun{S w ι H'} vals M ha hr=>?_⟩;have h0:=hr 0 qqS;simp only[aH]at h0;generalize hv:vals 0=v0 at h0
 cases h0 with
 |agg _ _ vs hl' hh=>
  obtain⟨S1,M1,K1,T1,R1⟩:=hs (fun i=>vs.getD i undef) M ha (fun i hi=>hh i hi);refine⟨S1,M1,K1,T1,fun i hi=>?_⟩;have hi0:i=0:=by simp at hi;exact hi
  subst hi0;rw[hv];exact .agg _ _ _ (hl.trans hl') R1
theorem abQ {H:Hp}:∀{ps:List PV} {K:List PV→List (Nat × AO)→Prop},Da H ps K→∃us sets,K us sets∧nD H ps us sets:=by
 intro ps;induction ps with
 |nil=>intro K h;exact⟨_,_,h,rfl,fun vals M _ _=>⟨_,M,.refl _ _,fun p=>.refl _ _ _ _ _,fun i hi=>by simp at hi⟩⟩
 |cons p r ih=>
  intro K h;unfold Da at h;split at h
  ·rename_i k off
   rw[bE]at h;obtain⟨ob,hob,h⟩:=h;split at h
   ·split at h
    ·exact h.elim
    ·split at h
     ·rename_i ds
      obtain⟨us,s1,h,h1⟩:=Db h;obtain⟨ws,s2,h,h2⟩:=ih h;rw[aK,akQ]at h;obtain⟨⟨hm,hd⟩,h⟩:=h;have hkm:k∉keys s1:=fun hm'=>by rw[←pJ]at hm';rw[hm']at hm;cases hm
      have hA:=(abO (off:=off) hob h1 hkm).app h2 (fun j hj=>vV hd j (by rw[mQ]at hj;exact hj))
      refine⟨_,_,h,?_⟩;rw[List.append_assoc]at hA;exact hA
     ·exact h.elim
   ·exact h.elim
  ·rename_i ds
   obtain⟨us,s1,h,h1⟩:=Db h;obtain⟨ws,s2,h,h2⟩:=ih h;rw[aK]at h;exact⟨_,_,h.2,(abP h1).app h2 (vV h.1)⟩
  ·obtain⟨us,s1,h,h1⟩:=Db h
   obtain⟨ws,s2,h,h2⟩:=ih h;rw[aK]at h;exact⟨_,_,h.2,h1.app h2 (vV h.1)⟩
def tZ (C:PSp):CT:=fun args n H K=>Da H args fun us sets=>cZ (fG us) fun us=>C us fun v=>K v sets (keys sets) []
theorem pQ {P:Program} {g:FuncId} {C:PSp} (h:POK P g C):COK P g (tZ C):=by
 intro args n H K hk;unfold tZ at hk;obtain⟨us,sets,hk,hl,hs⟩:=abQ hk;rw[bP]at hk;obtain⟨v,hk,hent,hv⟩:=h _ _ hk;refine⟨v,_,_,[],hk,.inl ⟨hent,fun S w ι H' vs hgb M hr ha _=>?_⟩⟩;obtain⟨S1,M1,K1,T1,R1⟩:=hs (fun i=>vs.getD i undef) M (fun j hj=>ha j hj) (fun i hi=>hr.2 i hi);have hA:bG S1 w noI (fG us) vs:=⟨(dh us).1.trans (hl.trans hr.1),fun i hi=>(dh us).2 i (R1 i (by rw[(dh us).1]at hi;omega))⟩
 refine(hv S1 w vs (rM K1 (.refl _) hgb) M1.imm hA).mono ?_
 rintro ex w' ⟨val,S',rfl,o⟩
 have hno:∀k' ob b,aA (bC H' sets) k'=some ob→ob.has ι k' b→b<w.heap.size:=fun k' ob b ho hb=>(M1.obj k' ob ho).lt hb;have T3:∀p,Tr p S1 w ι (bC H' sets) S' w' ι (bC H' sets):=fun p=>
  ⟨o.below,fun b hb _=>o.same b hb,o.keeps,fun b j hb hs=>.inl (o.immN b j hb hs),fun b h=>.inl h,fun _ _ _ h=>h,fun _ _ b n h=>⟨b,n,h,.inl ⟨rfl,aku _⟩⟩⟩
 exact⟨val,S',ι,rfl,⟨fun k' ob ho=>(M1.obj k' ob ho).mono o.keeps (.refl _) o.below (fun b hb=>o.same b (hno k' ob b ho hb)) (fun _=>rfl) rfl (fun b j hb hs=>o.immN b j (hno k' ob b ho hb) hs),M1.liveO,M1.liveT,M1.dist,o.imm⟩,
  .refl _,K1.trans o.keeps,o.rep.up ι,fun p=>(T1 p).trans (T3 p)⟩
section
variable {P:Program} {τ:TypeId→Option TE} {B:Imm→World→Prop}
end
def Ix.setx (ι:Ix) (k:Nat) (X:Nat→Prop):Ix:=⟨ι.o,ι.t,fun k'=>if k'=k then X else ι.x k'⟩
theorem Mx (ι:Ix) (k:Nat) (X:Nat→Prop):ι.le (ι.setx k X):=⟨fun _ _ h=>h,fun _ b n h=>⟨b,n,h,.inl ⟨rfl,aku _⟩⟩⟩
theorem Mem.bldStep {S:Imm} {w w':World} {ι:Ix} {H:Hp} (M:Mem S w ι H) {k t e b:Nat} {s s':ByteArray} {p p' v v':Value} (hk:aA H k=some (.bld t e s)) (hb:ι.o k=some b)
 (h0:w.heap[b]? =some (.cells #[p,v] t (0,0))) (below:Bel w w') (here:w'.heap[b]? =some (.cells #[p',v'] t (0,0))) (hp:p'=.pointer none∨p'=.pointer (some ⟨b,0,none⟩)) (hne:v'.ownBlock≠some b)
 (own:w'.ownsRowF 0 e 1 v' s'.size (Lib.strCells s')) (hv:∀g,v'.ownBlock=some g→v.ownBlock=some g∨w.heap.size≤g)
 (other:∀b',b'<w.heap.size→b'≠b→v.ownBlock≠some b'→w'.heap[b']? =w.heap[b']?) (cells:∀b' j,(rd w b' j).isSome→(rd w' b' j).isSome):
 Mem S w' (ι.setx k fun b'=>b'=b∨v'.ownBlock=some b') (aO H k (.bld t e s'))∧Keeps S w S w'∧∀pp,Tr pp S w ι H S w' (ι.setx k fun b'=>b'=b∨v'.ownBlock=some b') (aO H k (.bld t e s')):=by
 obtain⟨b1,p1,v1,h1,h2,h3,h4,h5,h6,h7⟩:=M.obj k _ hk;rw[hb]at h1;cases h1
 obtain⟨rfl,rfl⟩:p=p1∧v=v1:=by
  rw[h0]at h2;simp at h2;exact h2
 have hnS:∀b' j,(b'=b∨v.ownBlock=some b')→¬S b' j:=fun b' j h=>h4 b' j ((h7 b').2 h);have keeps:Keeps S w S w':=⟨fun b' j hs=>⟨hs,dD (other b' (dZ (M.imm b' j hs)) (fun e=>hnS b' j (.inl e) hs) (fun e=>hnS b' j (.inr e) hs)) j⟩,cells⟩;have hg:aA (aO H k (.bld t e s')) k=some (.bld t e s'):=by rw[aX];simp
 have hx:(ι.setx k fun b'=>b'=b∨v'.ownBlock=some b').x k=fun b'=>b'=b∨v'.ownBlock=some b':=by simp[Ix.setx]
 have:=M.multi (w':=w') (ι':=ι.setx k fun b'=>b'=b∨v'.ownBlock=some b') (H':=aO H k (.bld t e s')) (fun k'=>k'=k) below keeps (Mx _ _ _)
  (fun k' h=>by rw[aX,if_neg h]) (fun _ _=>rfl) (fun _ _=>rfl) (fun k' h=>by simp[Ix.setx,h])
  (fun b' hb' hno=>other b' hb' (fun e=>hno k _ rfl hk rfl ((h7 b').2 (.inl e))) (fun e=>hno k _ rfl hk rfl ((h7 b').2 (.inr e))))
  (fun k' o2 ek h=>by
    subst ek;rw[hg]at h;cases h
    refine⟨b,p',v',hb,here,hp,fun b' j hb'=>?_,hne,own,fun b'=>by rw[hx]⟩
    rw[hx]at hb';rcases hb' with h|h
    ·exact hnS b' j (.inl h)
    ·rcases hv b' h with h|h
     ·exact hnS b' j (.inr h)
     ·exact fun hs=>by have:=dZ (M.imm b' j hs);omega)
  (fun k' o2 b' ek h hb'=>by
    subst ek;rw[hg]at h;cases h
    have hb':b'=b∨v'.ownBlock=some b':=by
     have:(ι.setx k' fun b'=>b'=b∨v'.ownBlock=some b').x k' b':=hb';rw[hx]at this;exact this
    rcases hb' with h|h
    ·exact .inr ⟨k',_,rfl,hk,rfl,(h7 b').2 (.inl h)⟩
    ·rcases hv b' h with h|h
     ·exact .inr ⟨k',_,rfl,hk,rfl,(h7 b').2 (.inr h)⟩
     ·exact .inl h)
  (fun k' b' ek _=>by subst ek;exact⟨_,hg,rfl⟩)
  (fun k' x ek h=>by
    subst ek;obtain⟨o3,g1,g2⟩:=M.liveT k' x h;rw[hk]at g1;cases g1;cases g2)
  (fun k1 k2 _ _ _ e1 e2 _ _ _ _=>e1.trans e2.symm)
 exact⟨this.1,keeps,this.2⟩
theorem P7 {w:World} {g:Nat} {old cs:Array Value} {t:TypeId} {fr:Nat × Nat} (hg:w.heap[g]? =some (.cells old t fr)) (hs:cs.size=old.size) (b:Nat):bsz (w.setRow g cs) b=bsz w b:=by
 by_cases e:b=g
 ·subst e;unfold bsz;rw[setRow_heap w b old cs t fr hg,hg];simp[hs]
 ·exact gq (setRow_other w g b cs e)
theorem P8 {P:Program} (w:World) (t u ty e:TypeId) (i:TypeInfo) (ht:P.underlying t=some (.slice e)) (hu:P.underlying u=some .string) (hi:P.info? e=some i) (hz:i.zero=some (.int .u8 0))
 (hsize:i.size=1) (hby:i.bytes=1) (v:Value) (n:Nat) (xs:List Value) (hown:w.ownsRowF 0 e 1 v n xs) (s:ByteArray) (h63:n+s.size≤maxLen) (hbytes:n+s.size≤140737488355328):
 ∃v' w',(Builtin.append_ #[t,u] ty #[v,.string s]).run P w=.ok v' w'∧w'.ownsRowF 0 e 1 v' (n+s.size) (xs++Lib.strCells s)∧w.grownBy w' v.ownBlock∧
  (∀b,b<w.heap.size→bsz w' b=bsz w b)∧∀g,v'.ownBlock=some g→v.ownBlock=some g∨w.heap.size≤g:=by
 obtain⟨v',w',hr,h2,h3,h4⟩:=Lib.run_append_own_stringF (P:=P) w 0 t u ty e i ht hu hi hz hsize hby v n xs hown s h63 hbytes (alq _);refine⟨v',w',hr,h2,h3,?_⟩;rcases hown.2 with⟨rfl,rfl⟩|⟨g,cap,cur,fz,rfl,hbg,hg,hfz,hnc,hcm,hcs,htake⟩
 ·refine⟨fun b hb=>gq (h3.block b hb (by simp[Value.ownBlock])),fun g hg=>.inr ?_⟩
  obtain⟨v2,w2,r2,k2,_⟩:=Lib.run_append_own_stringF (P:=P) w w.heap.size t u ty e i ht hu hi hz hsize hby (.slice none 0 0) 0 xs ⟨hown.1,.inl ⟨rfl,rfl⟩⟩ s h63 hbytes (aku _);rw[hr]at r2;cases r2
  exact(k2.lt g hg).1
 ·have hxl:xs.length=n:=by simpa using hown.1
  by_cases hroom:n+s.size≤cap
  ·have r2:=Lib.run_append_room_stringF (P:=P) w t u ty e i ht hu hi hsize g n cap cur fz hg (by simpa using hfz) s hroom qqO
   rw[hr]at r2;cases r2
   refine⟨fun b hb=>P7 hg ?_ b,fun g' hg'=>.inl hg'⟩;simp only[List.size_toArray,List.length_append,alm,List.length_drop,Array.length_toList,Lib.strCells_length];omega
  ·have r2:=Lib.run_append_grow_string (P:=P) w t u ty e i (.int .u8 0) ht hu hi hz ⟨g,0,none⟩ n cap xs (by rw[hsize];simpa using hxl) (hown.cells (g:=g) rfl) s qqO (by simp only[maxLen]at h63;omega) (by rw[hby];exact growslice_fits qqO qqO)
   rw[hr]at r2;cases r2
   refine⟨fun b hb=>gq (Lib.alloc_old w.drew _ b hb),fun g' hg'=>.inr ?_⟩;simp[Value.ownBlock]at hg';exact Nat.le_of_eq hg'
theorem afF {w:World} {b j:Nat}:(rd w b j).isSome↔∃n,bsz w b=some n∧j<n:=by
 unfold rd bsz;split
 ·rename_i c t f h
  constructor
  ·intro hs
   refine⟨_,rfl,?_⟩;rcases akw j c.size with h1|h1
   ·exact h1
   ·rw[akx h1]at hs;cases hs
  ·rintro⟨n,h1,h2⟩
   cases h1
   rw[akA h2];rfl
 ·simp
structure vW (t e:TypeId) (b:Nat) (v:Value) (w w':World) (s':ByteArray) (v':Value):Prop where
 here:∃p',w'.heap[b]? =some (.cells #[p',v'] t (0,0))∧(p'=.pointer none∨p'=.pointer (some ⟨b,0,none⟩))
 ne:v'.ownBlock≠some b
 own:w'.ownsRowF 0 e 1 v' s'.size (Lib.strCells s')
 new:∀g,v'.ownBlock=some g→v.ownBlock=some g∨w.heap.size≤g
 os:w'.os=w.os
 tape:w'.tape=w.tape
 output:w'.output=w.output
 size:w.heap.size≤w'.heap.size
 other:∀b',b'<w.heap.size→b'≠b→v.ownBlock≠some b'→w'.heap[b']? =w.heap[b']?
 len:∀b',b'<w.heap.size→bsz w' b'=bsz w b'
theorem vW.bel {t e:TypeId} {b:Nat} {v v':Value} {w w':World} {s':ByteArray} (h:vW t e b v w w' s' v'):Bel w w':=⟨h.os,h.tape,h.output,h.size,h.len⟩
theorem vW.cells {t e:TypeId} {b:Nat} {v v':Value} {w w':World} {s':ByteArray} (h:vW t e b v w w' s' v') (b' j:Nat) (hs:(rd w b' j).isSome):(rd w' b' j).isSome:=by
 have hl:=dZ hs;rw[afF]at hs⊢;rw[h.len b' hl];exact hs
theorem IX {P:Program} {g:FuncId} (hent:∀vs w,(callFunc g vs).run P w=.ok (.enter g vs) w) {k t e:Nat} {s s':ByteArray} {args:List PV} {u:PV} {H:Hp} (hob:aA H k=some (.bld t e s))
 (hc:∀(S:Imm) (w:World) (ι:Ix) (vs:Array Value) (b:Nat) (p v:Value),bG S w ι args vs→ι.o k=some b→w.heap[b]? =some (.cells #[p,v] t (0,0))→(p=.pointer none∨p=.pointer (some ⟨b,0,none⟩))→v.ownBlock≠some b→w.ownsRowF 0 e 1 v s.size (Lib.strCells s)→
   Calls P g vs w fun ex w'=>∃val v',ex=.returned val∧vW t e b v w w' s' v'∧∀S' ι',Rep S' w' ι' u val):
 iJ P g args H u [(k,.bld t e s')] [k] []:=by
 refine .inl ⟨hent,fun S w ι H' vs hgb M hr ha _=>?_⟩;have hob':=(ha k qqS).trans hob;obtain⟨b,p,v,h1,h2,h3,h4,h5,h6,h7⟩:=M.obj k _ hob';refine(callsIn_wide.2 (hc S w ι vs b p v hr h1 h2 h3 h5 h6)).mono ?_
 rintro ex w' ⟨val,v',rfl,B,hrep⟩
 obtain⟨p',g1,g2⟩:=B.here;obtain⟨M',K',T'⟩:=M.bldStep hob' h1 h2 B.bel g1 g2 B.ne B.own B.new B.other B.cells;exact⟨val,S,_,rfl,M',Mx _ _ _,K',hrep _ _,T'⟩
theorem IY {S:Imm} {w:World} {ι:Ix} {p:PV} {vs:Array Value} (h:bG S w ι [p] vs):∃v,vs= #[v]∧Rep S w ι p v:=by
 have h0:=h.2 0 qqS;have hsz:vs.size=1:=h.1.symm;refine⟨vs.getD 0 undef,?_,h0⟩;apply alW (by simp[hsz])
 intro i h1 h2;have:i=0:=qqO;subst this;simp[akD,h1]
theorem uf {S:Imm} {w:World} {ι:Ix} {p q:PV} {vs:Array Value} (h:bG S w ι [p,q] vs):∃v u,vs= #[v,u]∧Rep S w ι p v∧Rep S w ι q u:=by
 have h0:=h.2 0 qqS;have h1:=h.2 1 qqS;have hsz:vs.size=2:=h.1.symm;refine⟨vs.getD 0 undef,vs.getD 1 undef,?_,h0,h1⟩;apply alW (by simp[hsz])
 intro i h1 h2;have:i=0∨i=1:=qqO;rcases this with rfl|rfl<;>simp[akD,h1]
def afG (S:Imm) (ι:Ix) (H:Hp) (a:List Nat):Imm:=fun b j=>S b j∨∃k c fz,k∈a∧aA H k=some (.cells c fz)∧ι.o k=some b∧j<c.ncell
structure Lk (S:Imm) (w:World) (ι:Ix) (H0 H:Hp) (a:List Nat) (S':Imm) (w':World):Prop where
 ag:∀k∈a,aA H k=aA H0 k
 mem:Mem S w ι H
 old:∀b j,b<w.heap.size→S' b j→afG S ι H a b j
 rd:∀b j,afG S ι H a b j→rd w' b j=rd w b j
def afH (f:Nat→Bool):Nat→Env→Env
 |_,[]=>[]
 |i,v::r=>(match f i with|true=>.any|false=>v)::afH f (i+1) r
def stX (c:Code) (f:Nat→Bool) (env:Env) (us:List (Nat × PV)):Env:=Xj (afH f 0 (Xi 0 env (dstsOf c))) us
def btw (a b i:Nat):Bool:=match akN a i with|true=>akN i b|false=>false
section
variable {P:Program} {r:Option Nat} {τ:TypeId→Option TE} {B:Imm→World→Prop} {p:Nat}
theorem jv {X:Type} (f:Nat→Bool) (I:X→Prop) (us:X→List (Nat × PV)) (hs:X→List (Nat × AO)) (μ:X→Nat) (x0:X) {md rf CP YP} (W:Walk P r B τ CP YP)
 {c:Code} {n:Nat} {Q:Exit→Env→Hp→Prop} {env:Env} {H:Hp} (hok:eu c=true) (hI:I x0)
 (h0:gV (hs x0) H fun H1=>cZ (stX c f env (us x0)) fun env1=>gZ (lg [] H 0 H1) fun σ=>oh σ p env H env1 H1 Ok)
 (hb:∀x,I x→gV (hs x) H fun H1=>cZ (stX c f env (us x)) fun env1=>ev P r B p τ md rf CP YP c n env1 H1 fun e env' H' _=>match e with
   |.normal=>Nx (∃(x':X) (extra:Sg),(I x'∧μ x'<μ x)∧gV (hs x') H fun H1=>cZ (stX c f env (us x')) fun env1=>gZ (lg extra H' 0 H1) fun σ=>oh σ p env' H' env1 H1 Ok)
   |e=>Q e env' H'):Lp md rf CP YP n (AW P r B p (.loop c) Q env H):=by
 refine⟨Mr (X:={x:X // I x}) (fun x=>(stX c f env (us x.1),bC H (hs x.1))) (fun x=>μ x.1) ⟨x0,hI⟩ ?_ fun x=>?_⟩
 ·simp only[iH,bP,jf]at h0
  exact(jr h0).2
 ·have h:=hb x.1 x.2
  simp only[iH,bP,jf]at h;refine(kZ W.hB W.hm W.hτ W.hC W.hY c hok _ _ _ _ h).mono ?_
  rintro e env' H' ⟨_,h⟩
  cases e with
  |normal=>
   obtain⟨x',extra,⟨h0,h1⟩,h2⟩:=h.get;exact⟨⟨x',h0⟩,h1,(jr h2).2⟩
  |_=>exact h
end
def IZ (P:Program) (g:FuncId) (C:PSp):Prop:=∀as K,C as K→∃v,K v∧∀(S:Imm) (w:World) (vs:Array Value),bG S w noI as vs→∃val,(callFunc g vs).run P w=.ok (.value val) w∧Rep S w noI v val
theorem nQ {P:Program} {g:FuncId} {C:PSp} (h:IZ P g C):COK P g (aP C):=by
 intro args n H K hk;unfold aP A8 at hk;split at hk
 ·rename_i as ha
  rw[bP]at hk;obtain⟨v,hK,hs⟩:=h _ _ hk;refine⟨v,[],[],[],hK,.inr ⟨rfl,fun S w ι vs hr=>?_⟩⟩;obtain⟨h1,h2⟩:=gY ha;obtain⟨val,r1,r2⟩:=hs S w vs ⟨(dh as).1.trans (h1.trans hr.1),fun i hi=>(dh as).2 i (h2 i (by rw[(dh as).1]at hi;omega) (hr.2 i (by rw[(dh as).1]at hi;omega)))⟩
  exact⟨val,r1,r2.up ι⟩
 ·exact hk.elim
theorem I4 {P:Program} {g:FuncId} {args as bs:List PV} {H:Hp} {v:PV} (ha:jH args=some as) (hb:bs.length=as.length∧∀i {S:Imm} {w:World} {ι:Ix} {v:Value},Rep S w ι (aH as i) v→Rep S w ι (aH bs i) v) (h:aD P g bs v):iJ P g args H v [] [] []:=by
 obtain⟨hent,h⟩:=h;refine .inl ⟨hent,fun S w ι H' vs hg M hr _ _=>?_⟩;obtain⟨h1,h2⟩:=gY ha;refine(h S w vs hg M.imm ⟨hb.1.trans (h1.trans hr.1),fun i hi=>hb.2 i (h2 i (by rw[hb.1]at hi;omega) (hr.2 i (by rw[hb.1]at hi;omega)))⟩).mono ?_
 rintro e w' ⟨val,S',rfl,o⟩
 have hno:∀k ob b,aA H' k=some ob→ob.has ι k b→b<w.heap.size:=fun k ob b ho hb=>(M.obj k ob ho).lt hb;refine⟨val,S',ι,rfl,⟨fun k ob ho=>(M.obj k ob ho).mono o.keeps (.refl _) o.below (fun b hb=>o.same b (hno k ob b ho hb)) (fun _=>rfl) rfl (fun b j hb hs=>o.immN b j (hno k ob b ho hb) hs),M.liveO,M.liveT,M.dist,o.imm⟩,
  .refl _,o.keeps,o.rep.up ι,fun p=>⟨o.below,fun b hb _=>o.same b hb,o.keeps,fun b j hb hs=>.inl (o.immN b j hb hs),fun b h=>.inl h,fun _ _ _ h=>h,fun _ _ b n h=>⟨b,n,h,.inl ⟨rfl,aku _⟩⟩⟩⟩
def GJ:PV→PV
 |.isl c _=>.isl c .none
 |.bool b=>.bp b
 |p=>p
def vX:List PV→List PV
 | []=>[]
 |x::xs=>GJ x::vX xs
def Xq:PV→PV
 |.agg cs=>.agg (vX cs)
 |p=>GJ p
def Br:List PV→List PV
 | []=>[]
 |x::xs=>Xq x::Br xs
theorem EG {S:Imm} {w:World} {ι:Ix} {p:PV} {v:Value} (h:Rep S w ι p v):Rep S w ι (GJ p) v:=by
 unfold GJ;split
 ·exact h.drop
 ·cases h;exact .bp _ _
 ·exact h
theorem ug:∀(ps:List PV),(vX ps).length=ps.length∧∀i {S:Imm} {w:World} {ι:Ix} {v:Value},Rep S w ι (aH ps i) v→Rep S w ι (aH (vX ps) i) v:=by
 intro ps;induction ps with
 |nil=>exact⟨rfl,fun i _ _ _ _ h=>h⟩
 |cons p ps ih=>exact⟨by simp[vX,ih.1],fun i _ _ _ _ h=>by cases i with|zero=>exact EG h|succ i=>exact ih.2 i h⟩
theorem Xr {S:Imm} {w:World} {ι:Ix} {p:PV} {v:Value} (h:Rep S w ι p v):Rep S w ι (Xq p) v:=by
 unfold Xq;split
 ·cases h with|agg _ _ vs hl hh=>exact .agg _ _ _ ((ug _).1.trans hl) (fun i hi=>(ug _).2 i (hh i (by rw[(ug _).1]at hi;exact hi)))
 ·exact EG h
theorem Tn:∀(ps:List PV),(Br ps).length=ps.length∧∀i {S:Imm} {w:World} {ι:Ix} {v:Value},Rep S w ι (aH ps i) v→Rep S w ι (aH (Br ps) i) v:=by
 intro ps;induction ps with
 |nil=>exact⟨rfl,fun i _ _ _ _ h=>h⟩
 |cons p ps ih=>exact⟨by simp[Br,ih.1],fun i _ _ _ _ h=>by cases i with|zero=>exact Xr h|succ i=>exact ih.2 i h⟩
def aR (C:PSp):CT:=fun args n H K=>match jH args with|some xs=>cZ (Br xs) fun as=>C as fun v=>K v [] [] []|none=>False
theorem aF {P:Program} {g:FuncId} {C:PSp} (h:POK P g C):COK P g (aR C):=by
 intro args n H K hk;unfold aR at hk;split at hk
 ·rename_i as ha
  rw[bP]at hk;obtain⟨v,hK,hs⟩:=h _ _ hk;exact⟨v,[],[],[],hK,I4 ha (Tn as) hs⟩
 ·exact hk.elim
section
variable {P:Program} {r:Option Nat} {τ:TypeId→Option TE} {B:Imm→World→Prop} {p:Nat}
theorem Dc {md rf CP YP} (W:Walk P r B τ CP YP) {c:Code} {n:Nat} {Q:Exit→Env→Hp→Prop} {env:Env} {H H':Hp}
 (hs:∀S w ι,Mem S w ι H→∃S' ι',Mem S' w ι' H'∧ι.le ι'∧Keeps S w S' w∧∀p,Tr p S w ι H S' w ι' H')
 (h:Lp md rf CP YP n (AW P r B p c Q env H')):Lp md rf CP YP n (AW P r B p c Q env H):=by
 refine⟨fun S0 w0 ι0 H0 a w hA=>?_⟩;obtain⟨S,ι,hB,M,hR,hD,hd,T⟩:=hA.ex;obtain⟨S',ι',M',le,K,T'⟩:=hs S w ι M;exact h.get S0 w0 ι0 H0 a w ⟨S',ι',W.hB S w S' w K (.refl _) hB,M',hR.mono K le,hD.tr (T' p),hd,T.trans (T' p)⟩
theorem MB {md rf CP YP} {c:Code} {n:Nat} {Q:Exit→Env→Hp→Prop} {env:Env} {H:Hp} (k:Nat) {m:Nat} {rc:RC} (hk:aA H k=some (.pmat m rc))
 (h:∀(l:List Nat) (rc':RC),rc'.kin rc→l.length=m→l.Nodup→(∀i,i<m→rc'.at (l.getD i 0)=rc.at i)→jh H k (.mat l l rc') fun H'=>Lp md rf CP YP n (AW P r B p c Q env H')):
 Lp md rf CP YP n (AW P r B p c Q env H):=by
 refine⟨fun S0 w0 ι0 H0 a w hA=>?_⟩;obtain⟨S,ι,hB,M,hR,hD,hd,T⟩:=hA.ex;obtain⟨all,l,rc',h1',h2,h3,h4,h6,h5⟩:=M.obj _ _ hk;have hmem:∀b,b∈all↔b∈l:=fun b=>⟨h6 b,fun hb=>by
  obtain⟨i,hi,rfl⟩:=akK hb;obtain⟨b0,arr,e,_,_,_,_,_,_,_,h8⟩:=h1';have:=(h8 i hi).1;rw[akG,akL hi]at this;exact this⟩
 have h1:iA S w ι k l l rc':=by
  obtain⟨b0,arr,e,g1,g2,g3,g4,g5,g6,g7,g8⟩:=h1';exact⟨b0,arr,e,g1,g2,g3,g4,fun h=>g5 ((hmem _).2 h),fun b'=>by rw[g6 b',hmem],fun r hr=>g7 r ((hmem r).2 hr),fun i hi=>⟨(hmem _).1 (g8 i hi).1,(g8 i hi).2⟩⟩
 obtain⟨M1,T1⟩:=M.stay (o':=.mat l l rc') hk rfl rfl rfl (.refl _) (.refl _ _) (fun _ _=>rfl) (fun b hb=>hb) h1;have h:=h l rc' h2 h3 h4 h5;rw[kW]at h;exact h.get S0 w0 ι0 H0 a w ⟨S,ι,hB,M1,hR,hD.tr (T1 p),hd,T.trans (T1 p)⟩
theorem I5 {md rf CP YP} {c:Code} {n:Nat} {Q:Exit→Env→Hp→Prop} {env:Env} {H:Hp} (k:Nat) {m:Nat} {q:IntKind} {g:Nat→List Int} (hk:aA H k=some (.pmat m (.ints q g)))
 (h:∀(l:List Nat) (g':Nat→List Int),l.length=m→l.Nodup→(∀i,i<m→g' (l.getD i 0)=g i)→jh H k (.mat l l (.ints q g')) fun H'=>Lp md rf CP YP n (AW P r B p c Q env H')):
 Lp md rf CP YP n (AW P r B p c Q env H):=by
 refine MB k hk fun l rc' hkin hl hn hc=>?_;cases rc' with
 |recs m' c'=>exact hkin.elim
 |fn e' m' c'=>exact hkin.elim
 |ints q' c'=>
  cases hkin
  exact h l c' hl hn (fun i hi=>by have:=hc i hi;simp only[RC.at]at this;injection this)
theorem Bt {md rf CP YP} {c:Code} {n:Nat} {Q:Exit→Env→Hp→Prop} {env:Env} {H:Hp} (k:Nat) {m e q:Nat} {g:Nat→Nat→List PV} (hk:aA H k=some (.pmat m (.fn e q g)))
 (h:∀(l:List Nat) (g':Nat→Nat→List PV),l.length=m→l.Nodup→(∀i,i<m→g' (l.getD i 0)=g i)→jh H k (.mat l l (.fn e q g')) fun H'=>Lp md rf CP YP n (AW P r B p c Q env H')):
 Lp md rf CP YP n (AW P r B p c Q env H):=by
 refine MB k hk fun l rc' hkin hl hn hc=>?_;cases rc' with
 |ints q c'=>exact hkin.elim
 |recs q c'=>exact hkin.elim
 |fn e' m' c'=>
  cases hkin
  exact h l c' hl hn (fun i hi=>by have:=hc i hi;simp only[RC.at]at this;injection this)
structure gK (c d:CL):Prop where
 cnt:d.cnt=c.cnt
 esz:d.esz=c.esz
 get:∀j,j<c.ncell→d.get j=c.get j
theorem fH.cells {S:Imm} {w:World} {ι:Ix} {k n:Nat} {f:Nat→Nat} {c c':Nat→CL} (h:fH S w ι k n f c) (hc:∀i,i<n→f i=2→gK (c i) (c' i)):fH S w ι k n f c':=by
 obtain⟨b,arr,e,l,h1,h2,h3,h4,h5,h6,h7,h8⟩:=h;refine⟨b,arr,e,l,h1,h2,h3,h4,h5,fun i hi hf=>?_,h7,h8⟩;obtain⟨g1,⟨arr2,e2,q1,q2,q3,q4⟩,g3,cap,g4,g5,g6⟩:=h6 i hi hf;have hs:=hc i hi hf;have hn:(c' i).ncell=(c i).ncell:=by rw[bF,bF,hs.cnt,hs.esz]
 exact⟨g1,⟨arr2,e2,q1,qqO,fun j hj=>by rw[hs.get j qqO];exact q3 j qqO,q4⟩,by rw[hs.esz];exact g3,cap,by rw[hs.cnt];exact g4,by rw[hs.esz];exact g5,by rw[hs.cnt];exact g6⟩
theorem gK.rfl' (c:CL):gK c c:=⟨rfl,rfl,fun _ _=>rfl⟩
theorem aib {md rf CP YP} (W:Walk P r B τ CP YP) {c:Code} {n:Nat} {Q:Exit→Env→Hp→Prop} {env:Env} {H:Hp} (k:Nat) {m:Nat} {f:Nat→Nat} {g:Nat→CL} (rc:RC) (hk:aA H k=some (.qmat m f g)) (hf:∀i,i<m→f i=2∧gK (g i) (rc.at i))
 (h:jh H k (.pmat m rc) fun H'=>Lp md rf CP YP n (AW P r B p c Q env H')):Lp md rf CP YP n (AW P r B p c Q env H):=by
 rw[kW]at h;refine Dc W (fun S w ι M=>?_) h;have ho:fH S w ι k m f g:=M.obj _ _ hk;obtain⟨M1,T1⟩:=M.stay (o':=.pmat m rc) hk rfl rfl rfl (.refl _) (.refl _ _) (fun _ _=>rfl) (fun b hb=>hb) (vQ (ho.cells (c':=rc.at) (fun i hi _=>(hf i hi).2)) (fun i hi=>⟨(hf i hi).1,rfl⟩));exact⟨S,ι,M1,.refl _,.refl _ _,T1⟩
end
theorem Mem.freezeX {S:Imm} {w:World} {ι:Ix} {H:Hp} (M:Mem S w ι H) {k b0:Nat} {o:AO} {c:CL} (hk:aA H k=some o) (hx:o.excl=true) (hT:o.isTok=false) (hb:ι.o k=some b0) (F:Nat→Nat→Prop)
 (hF:∀b j,F b j→o.has ι k b∧(rd w b j).isSome) (h0:∀j,j<c.ncell→F b0 j) (hrep:Keeps S w (fun b j=>S b j∨F b j) w→∀j,j<c.ncell→Rep (fun b j=>S b j∨F b j) w noI (c.get j) (rdv w b0 j)):
 Mem (fun b j=>S b j∨F b j) w ι (aO H k (.cells c true))∧Keeps S w (fun b j=>S b j∨F b j) w∧∀p,Tr p S w ι H (fun b j=>S b j∨F b j) w ι (aO H k (.cells c true)):=by
 have hkp:Keeps S w (fun b j=>S b j∨F b j) w:=⟨fun b j hs=>⟨.inl hs,rfl⟩,fun b j hs=>hs⟩;have get:∀k' o',aA (aO H k (.cells c true)) k'=some o'→(k'=k∧o'=.cells c true)∨(k'≠k∧aA H k'=some o'):=fun k' o' h=>by
  rw[aX]at h;by_cases e:k'=k
  ·rw[if_pos e]at h;cases h;exact .inl ⟨e,rfl⟩
  ·rw[if_neg e]at h;exact .inr ⟨e,h⟩
 have gk:aA (aO H k (.cells c true)) k=some (.cells c true):=by rw[aX,if_pos rfl]
 have go:∀k',k'≠k→aA (aO H k (.cells c true)) k'=aA H k':=fun k' e=>by rw[aX,if_neg e]
 refine⟨⟨fun k' o' h=>?_,fun k' b h=>?_,fun k' x h=>?_,fun k1 k2 o1 o2 b h1 h2 b1 b2=>?_,fun b j hs=>?_⟩,hkp,fun p=>⟨.refl _,fun _ _ _=>rfl,hkp,fun b j _ hs=>?_,?_,fun _ _ _ h=>h,fun _ _ b n h=>⟨b,n,h,.inl ⟨rfl,aku _⟩⟩⟩⟩
 ·rcases get k' o' h with⟨rfl,rfl⟩|⟨hne,h⟩
  ·exact⟨b0,hb,fun j hj=>⟨.inr (h0 j hj),hrep hkp j hj⟩⟩
  ·refine(M.obj k' o' h).mono hkp (.refl _) (.refl _) (fun _ _=>rfl) (fun _=>rfl) rfl (fun b j hb' hs=>?_)
   rcases hs with hs|hs
   ·exact hs
   ·exact absurd (M.dist k' k o' o b h hk hb' (hF b j hs).1) hne
 ·by_cases e:k'=k
  ·subst e;exact⟨_,gk,rfl⟩
  ·rw[go k' e];exact M.liveO k' b h
 ·by_cases e:k'=k
  ·subst e
   have:=M.tok_none hk hT;rw[this]at h;cases h
  ·rw[go k' e];exact M.liveT k' x h
 ·rcases get k1 o1 h1 with⟨rfl,rfl⟩|⟨_,h1⟩
  ·exact b1.elim
  ·rcases get k2 o2 h2 with⟨rfl,rfl⟩|⟨_,h2⟩
   ·exact b2.elim
   ·exact M.dist k1 k2 o1 o2 b h1 h2 b1 b2
 ·rcases hs with hs|hs
  ·exact M.imm b j hs
  ·exact(hF b j hs).2
 ·rcases hs with hs|hs
  ·exact .inl hs
  ·exact .inr ⟨k,o,hk,hx,(hF b j hs).1⟩
 ·rintro b ⟨k',o',h1,h2,h3⟩
  rcases get k' o' h1 with⟨rfl,rfl⟩|⟨_,h1⟩
  ·exact h3.elim
  ·exact .inl ⟨k',o',h1,h2,h3⟩
theorem pz.rd {S:Imm} {w:World} {c:CL} {b:Nat} (h:pz S w c b):∀j,j<c.ncell→(rd w b j).isSome∧Rep S w noI (c.get j) (rdv w b j):=fun j hj=>by
 obtain⟨arr,e,h1,h2,h3,h4⟩:=h;have:=h3 j hj;rw[akD]at this;rw[rdv,aJ h1];exact⟨by rw[akA qqO];rfl,this⟩
theorem Mem.freezeP {S:Imm} {w:World} {ι:Ix} {H:Hp} (M:Mem S w ι H) {k m:Nat} {rc:RC} (hk:aA H k=some (.pmat m rc)):
 ∃S',Mem S' w ι (aO H k (.cells (.gen m fun i=>.isl (rc.at i) .none) true))∧Keeps S w S' w∧∀p,Tr p S w ι H S' w ι (aO H k (.cells (.gen m fun i=>.isl (rc.at i) .none) true)):=by
 obtain⟨all,l,rc',⟨b,arr,e,h1,h2,h3,h4,h5,h6,h7,h8⟩,g2,g3,g4,g6,g5⟩:=M.obj _ _ hk;refine⟨_,M.freezeX (c:=.gen m fun i=>.isl (rc.at i) .none) hk rfl rfl h1 (fun b' j=>(b'=b∧j<m)∨(b'∈all∧j<(rc'.at b').ncell)) (fun b' j hF=>?_) (fun j hj=>.inl ⟨rfl,hj⟩) (fun hkp j hj=>?_)⟩
 ·rcases hF with⟨rfl,hj⟩|⟨hb,hj⟩
  ·exact⟨(h6 _).2 (.inl rfl),by rw[aJ h2,akA qqO];rfl⟩
  ·exact⟨(h6 _).2 (.inr hb),((h7 b' hb).rd j hj).1⟩
 ·have hj:j<m:=hj
  obtain⟨q1,cap,q2,q3⟩:=h8 j qqO;have hrow:=(h7 _ q1).rd;rw[g5 j hj]at q2 q3 hrow;have e1:rdv w b j=.slice (some ⟨l.getD j 0,0,none⟩) (rc.at j).cnt cap:=by
   rw[rdv,aJ h2,←q3,akD]
  rw[e1];refine .isl _ _ _ _ _ _ q2 (fun i hi=>.inr (.inr ⟨q1,by rw[g5 j hj,akS];exact hi⟩)) (fun i hi=>?_) (fun h=>by cases h) (fun k h=>by cases h)
  rw[akS];exact(hrow i hi).2.mono hkp _ (.refl _)
section
variable {P:Program} {r:Option Nat} {τ:TypeId→Option TE} {B:Imm→World→Prop} {p:Nat}
theorem P9 {md rf CP YP} (W:Walk P r B τ CP YP) {c:Code} {n:Nat} {Q:Exit→Env→Hp→Prop} {env:Env} {H:Hp} (k:Nat) {m:Nat} {rc:RC} (hk:aA H k=some (.pmat m rc))
 (h:jh H k (.cells (.gen m fun i=>.isl (rc.at i) .none) true) fun H'=>Lp md rf CP YP n (AW P r B p c Q env H')):Lp md rf CP YP n (AW P r B p c Q env H):=by
 rw[kW]at h;refine Dc W (fun S w ι M=>?_) h;obtain⟨S',M',K,T⟩:=M.freezeP hk;exact⟨S',ι,M',.refl _,K,T⟩
end
theorem pR {P:Program} {g:FuncId} {args vs:List PV} {objs' pre post:List AO} {m:Nat} {f:Nat→Nat} {c:Nat→CL} (rc:RC) (hf:∀i,i<m→f i=2∧gK (c i) (rc.at i))
 (h:dH P g args (pre++ .pmat m rc::post) vs objs'):dH P g args (pre++ .qmat m f c::post) vs objs':=by
 refine⟨h.1,fun S w ι us hb M hr=>?_⟩;have hk:aA (dx (pre++AO.qmat m f c::post)) pre.length=some (.qmat m f c):=by rw[fK];simp
 have ho:fH S w ι pre.length m f c:=M.obj _ _ hk;obtain⟨M1,T1⟩:=M.stay (o':=.pmat m rc) hk rfl rfl rfl (.refl _) (.refl _ _) (fun _ _=>rfl) (fun b hb=>hb) (vQ (ho.cells (c':=rc.at) (fun i hi _=>(hf i hi).2)) (fun i hi=>⟨(hf i hi).1,rfl⟩));have hg:=IV pre post (.qmat m f c) (.pmat m rc);refine CallsIn.mono (h.2 S w ι us hb (M1.congr hg) hr) ?_
 rintro e w' ⟨val,S',ι',e1,M',R',T'⟩
 refine⟨val,S',ι',e1,M',R',?_⟩;have e2:(pre++AO.qmat m f c::post).length=(pre++AO.pmat m rc::post).length:=qqS;rw[e2];exact((T1 _).congr' hg).trans T'
def I6 (C:PSp):CT:=fun args n H K=>match args with
 | [p]=>match p with
  |.rsl k off r=>bR H k fun o=>match o with
   |.pmat m rc=>r≤m∧ifK (akM off 0) (C [.isl (.gen r fun i=>.isl (rc.at i) .none) .none] fun v=>K v [(k,.cells (.gen m fun i=>.isl (rc.at i) .none) true)] [k] [])
   |_=>False
  |.nils=>C [.isl (.gen 0 fun _=>.nils) .none] fun v=>K v [] [] []
  |_=>False
 |_=>False
theorem Tp {P:Program} {g:FuncId} {C:PSp} (h:POK P g C):COK P g (I6 C):=by
 intro args n H K hk;unfold I6 at hk;split at hk
 ·split at hk
  ·rename_i k off r
   rw[bE]at hk;obtain⟨ob,hob,hk⟩:=hk;split at hk
   ·rename_i m rc
    rw[aK]at hk;obtain⟨hm,hoff,hk⟩:=hk;have hoff:=akR hoff;subst hoff;obtain⟨v,hk,hent,hv⟩:=h _ _ hk;refine⟨v,_,_,[],hk,.inl ⟨hent,fun S w ι H' vs hgb M hr ha _=>?_⟩⟩;have hob':=(ha k qqS).trans hob;obtain⟨S1,M1,K1,T1⟩:=M.freezeP hob';have hA:bG S1 w noI [.isl (.gen r fun i=>.isl (rc.at i) .none) .none] vs:=by
     refine⟨hr.1,fun i hi=>?_⟩;have hi0:i=0:=by simp at hi;exact hi
     subst hi0;have h0:=(hr.2 0 qqS).mono K1 _ (.refl _);simp only[aH]at h0⊢;generalize vs.getD 0 undef=v0 at h0
     cases h0 with
     |rsl _ _ _ _ b cap hk hc _=>
      obtain⟨b',e1,e2⟩:=M1.obj k (.cells (.gen m fun i=>.isl (rc.at i) .none) true) (by rw[aX,if_pos rfl])
      rw[hk]at e1;cases e1
      refine .isl _ _ _ _ _ _ hc (fun j hj=>?_) (fun j hj=>?_) (fun h=>by cases h) (fun k h=>by cases h)
      ·rw[akS];exact(e2 j (akv hj hm)).1
      ·rw[akS];exact(e2 j (akv hj hm)).2
     |rslz _ _ _ b o hk=>exact .islnil _ _ _ rfl
    refine(hv S1 w vs (rM K1 (.refl _) hgb) M1.imm hA).mono ?_
    rintro ex w' ⟨val,S',rfl,o⟩
    generalize AO.cells (.gen m fun i=>.isl (rc.at i) .none) true=od at*
    have hno:∀k' ob b,aA (aO H' k od) k'=some ob→ob.has ι k' b→b<w.heap.size:=fun k' ob b ho hb=>(M1.obj k' ob ho).lt hb;have T3:∀p,Tr p S1 w ι (aO H' k od) S' w' ι (aO H' k od):=fun p=>
     ⟨o.below,fun b hb _=>o.same b hb,o.keeps,fun b j hb hs=>.inl (o.immN b j hb hs),fun b h=>.inl h,fun _ _ _ h=>h,fun _ _ b n h=>⟨b,n,h,.inl ⟨rfl,aku _⟩⟩⟩
    exact⟨val,S',ι,rfl,⟨fun k' ob ho=>(M1.obj k' ob ho).mono o.keeps (.refl _) o.below (fun b hb=>o.same b (hno k' ob b ho hb)) (fun _=>rfl) rfl (fun b j hb hs=>o.immN b j (hno k' ob b ho hb) hs),M1.liveO,M1.liveT,M1.dist,o.imm⟩,
     .refl _,K1.trans o.keeps,o.rep.up ι,fun p=>(T1 p).trans (T3 p)⟩
   ·exact hk.elim
  ·obtain⟨v,hk,hent,hv⟩:=h _ _ hk
   refine⟨v,_,_,[],hk,.inl ⟨hent,fun S w ι H' vs hgb M hr ha _=>?_⟩⟩;have hA:bG S w noI [.isl (.gen 0 fun _=>.nils) .none] vs:=by
    refine⟨hr.1,fun i hi=>?_⟩;have hi0:i=0:=by simp at hi;exact hi
    subst hi0;have h0:=hr.2 0 qqS;simp only[aH]at h0⊢;generalize vs.getD 0 undef=v0 at h0
    cases h0
    exact .islnil _ _ _ rfl
   refine(hv S w vs hgb M.imm hA).mono ?_
   rintro ex w' ⟨val,S',rfl,o⟩
   have hno:∀k' ob b,aA H' k'=some ob→ob.has ι k' b→b<w.heap.size:=fun k' ob b ho hb=>(M.obj k' ob ho).lt hb;have T3:∀p,Tr p S w ι H' S' w' ι H':=fun p=>
    ⟨o.below,fun b hb _=>o.same b hb,o.keeps,fun b j hb hs=>.inl (o.immN b j hb hs),fun b h=>.inl h,fun _ _ _ h=>h,fun _ _ b n h=>⟨b,n,h,.inl ⟨rfl,aku _⟩⟩⟩
   exact⟨val,S',ι,rfl,⟨fun k' ob ho=>(M.obj k' ob ho).mono o.keeps (.refl _) o.below (fun b hb=>o.same b (hno k' ob b ho hb)) (fun _=>rfl) rfl (fun b j hb hs=>o.immN b j (hno k' ob b ho hb) hs),M.liveO,M.liveT,M.dist,o.imm⟩,
    .refl _,o.keeps,o.rep.up ι,T3⟩
  ·exact hk.elim
 ·exact hk.elim
section
variable {P:Program} {r:Option Nat} {τ:TypeId→Option TE} {B:Imm→World→Prop} {p:Nat}
theorem abR {md rf CP YP} (W:Walk P r B τ CP YP) {c:Code} {n:Nat} {Q:Exit→Env→Hp→Prop} {env:Env} {H:Hp} (k:Nat) {q:Nat} {rs:List (List PV)} (hk:aA H k=some (.rowo (.recs q rs)))
 (h:jh H k (.cells (.recs q rs) false) fun H'=>Lp md rf CP YP n (AW P r B p c Q env H')):Lp md rf CP YP n (AW P r B p c Q env H):=by
 rw[kW]at h;refine Dc W (fun S w ι M=>?_) h;obtain⟨b',g1,arr,e9,g2,g3,g4,g5⟩:=M.obj k _ hk;obtain⟨M',T⟩:=M.stay (o':=.cells (.recs q rs) false) hk rfl rfl rfl (.refl _) (.refl _ _) (fun _ _=>rfl) (fun b hb=>hb) ⟨b',arr,e9,g1,g2,g3,fun j hj=>(g4 j hj).up ι,g5⟩;exact⟨S,ι,M',.refl _,.refl _ _,T⟩
end
theorem Gj {P:Program} {g:FuncId} {args:List PV} {es n:Nat} {L:List (List PV)} (h:dH P g args [] [.rsc 0 es n] [.rowo (.recs es L)]) (hn:L.length=n) (hL:eZ L):aD P g args (.isl (.recs es L) .none):=by
 refine⟨h.1,fun S w vs hb himm hr=>?_⟩;have M:Mem S w noI (dx []):=⟨fun k o h=>by simp[dx,aA]at h,fun k b h=>by simp[noI]at h,fun k x h=>by simp[noI]at h,fun k k' o o' b h=>by simp[dx,aA]at h,himm⟩
 refine CallsIn.mono (h.2 S w noI vs hb M hr) ?_
 rintro e w' ⟨val,S',ι',rfl,M',R',T'⟩
 have hk:aA (dx [AO.rowo (.recs es L)]) 0=some (.rowo (.recs es L)):=rfl;obtain⟨b',g1,arr,e9,g2,g3,g4,g5⟩:=M'.obj 0 _ hk;obtain⟨M2,T2⟩:=M'.stay (o':=.cells (.recs es L) false) hk rfl rfl rfl (.refl _) (.refl _ _) (fun _ _=>rfl) (fun b hb=>hb) ⟨b',arr,e9,g1,g2,g3,fun j hj=>(g4 j hj).up ι',g5⟩;have hk2:aA (aO (dx [AO.rowo (.recs es L)]) 0 (.cells (.recs es L) false)) 0=some (.cells (.recs es L) false):=by rw[aX,if_pos rfl]
 obtain⟨S3,M3,K3,T3,F3⟩:=M2.freeze (c':=.recs es L) hk2 rfl (fun j hj=>by intro S w ι v hr;exact L9 hL j hr)
 have hT:Tr 0 S w noI (dx []) S3 w' ι' _:=(T'.trans (T2 0)).trans (T3 0);have hno:∀b,¬owned noI (dx []) b:=fun b ⟨k,o,h1,_⟩=>by simp[dx,aA]at h1
 refine⟨val,S3,rfl,M3.imm,hT.keeps,?_,hT.below,fun b hb=>hT.same b hb (hno b),fun b j hb hs=>(hT.immN b j hb hs).resolve_right (hno b)⟩;have hv:Rep S' w' ι' (.rsc 0 es n) val:=R';cases hv with
 |rsc _ _ _ _ b cap hk1 hc he hr1=>
  have:=F3 _ hk1;rw[←hn];refine .isl _ _ _ _ _ _ (by show L.length≤_;omega) (fun j hj=>by rw[akS];exact(this j hj).1) (fun j hj=>by rw[akS];exact(this j hj).2) (fun h=>by cases h) (fun k h=>by cases h)
def vY:List PV→List PV
 | []=>[]
 |p::r=>dropP p::vY r
theorem uh:∀ps:List PV,(vY ps).length=ps.length
 | []=>rfl
 |_::r=>congrArg (·+1) (uh r)
theorem Qa:∀(ps:List PV) (i:Nat),i<ps.length→aH (vY ps) i=dropP (aH ps i):=by
 intro ps;induction ps with
 |nil=>intro i h;cases h
 |cons p r ih=>
  intro i h;cases i with
  |zero=>rfl
  |succ i=>exact ih i (by simpa using h)
def Tq (C:PSp):CT:=fun args n H K=>C9 C (vY args) n H K
theorem Tt {P:Program} {g:FuncId} {C:PSp} (h:POK P g C):COK P g (Tq C):=by
 intro args n H K hk;obtain⟨v,sets,accs,news,h1,h2⟩:=P6 h _ _ _ _ hk;have hr:∀{S:Imm} {w:World} {ι:Ix} {vs:Array Value},bG S w ι args vs→bG S w ι (vY args) vs:=fun hr=>
  ⟨(uh args).trans hr.1,fun i hi=>by
   rw[uh]at hi;rw[Qa _ _ hi];exact(hr.2 i hi).dropP⟩
 refine⟨v,sets,accs,news,h1,h2.imp (fun h2=>⟨h2.1,fun S w ι H' vs hb M ha=>h2.2 S w ι H' vs hb M (hr ha)⟩) (fun h2=>⟨h2.1,?_⟩)⟩;intro S w ι vs ha;exact h2.2 S w ι vs (hr ha)
theorem Gl {P:Program} {g:FuncId} {args:List PV} {r m:Nat} {rc:RC} {e:Int} (h:dH P g args [] [.rsl 0 0 r,.int .i64 e] [.pmat m rc]) (hrm:r≤m):aD P g args (.tup [.isl (.gen r fun i=>.isl (rc.at i) .none) .none,.int .i64 e]):=by
 refine⟨h.1,fun S w vs hb himm hr=>?_⟩;have M:Mem S w noI (dx []):=⟨fun k o h=>by simp[dx,aA]at h,fun k b h=>by simp[noI]at h,fun k x h=>by simp[noI]at h,fun k k' o o' b h=>by simp[dx,aA]at h,himm⟩
 refine CallsIn.mono (h.2 S w noI vs hb M hr) ?_
 rintro ex w' ⟨val,S',ι',rfl,M',R',T'⟩
 have hk:aA (dx [AO.pmat m rc]) 0=some (.pmat m rc):=rfl;obtain⟨S3,M3,K3,T3⟩:=M'.freezeP hk;have hT:Tr 0 S w noI (dx []) S3 w' ι' _:=T'.trans (T3 0);have hno:∀b,¬owned noI (dx []) b:=fun b ⟨k,o,h1,_⟩=>by simp[dx,aA]at h1
 refine⟨val,S3,rfl,M3.imm,hT.keeps,?_,hT.below,fun b hb=>hT.same b hb (hno b),fun b j hb hs=>(hT.immN b j hb hs).resolve_right (hno b)⟩;have hv:Rep S' w' ι' (.tup [.rsl 0 0 r,.int .i64 e]) val:=R';cases hv with
 |tup _ _ vs hl hh=>
  refine .tup _ _ vs hl fun i hi=>?_;have:i=0∨i=1:=by simp at hi;omega
  rcases this with rfl|rfl
  ·have h0:=hh 0 qqS
   simp only[aH]at h0⊢;generalize vs.getD 0 undef=v0 at h0
   cases h0 with
   |rsl _ _ _ _ b cap hk1 hc _=>
    obtain⟨b',e1,e2⟩:=M3.obj 0 (.cells (.gen m fun i=>.isl (rc.at i) .none) true) (by rw[aX,if_pos rfl])
    rw[hk1]at e1;cases e1
    refine .isl _ _ _ _ _ _ hc (fun j hj=>?_) (fun j hj=>?_) (fun h=>by cases h) (fun k h=>by cases h)
    ·rw[akS];exact(e2 j (akv hj hrm)).1
    ·rw[akS];exact(e2 j (akv hj hrm)).2
   |rslz _ _ _ b o hk=>exact .islnil _ _ _ rfl
  ·have h0:=hh 1 qqS
   simp only[aH]at h0⊢;generalize vs.getD 1 undef=v0 at h0
   cases h0
   exact .int _ _ _
end Go.Eng
