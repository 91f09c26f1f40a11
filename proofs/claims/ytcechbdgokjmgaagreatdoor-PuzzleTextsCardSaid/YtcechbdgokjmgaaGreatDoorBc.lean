/- The base of the claims of this seat: an engine that walks through functions with symbolic values, its soundness, and contracts of the functions that every law calls. Conditions stand in the contracts. -/
import Derived.RangeFuncRecord
import Derived.Sort.Grow
import Derived.Below
import Derived.Lib.FrozenHead
import Derived.Test.YtcechbdgokjmgaaGreatDoorBb
open Array renaming getD_eq_getD_getElem?→aej,replicate→afN,mapM_eq_mapM_toList→afO,getElem?_eq_none→aec,getElem?_eq_getElem→aeg,ext→afr,getElem?_modify→aeh
open Bool renaming and_eq_true→aeA
open List renaming pairwise_cons→afE,mapM→afP,mem_cons_of_mem→aek,mem_cons→afD,mem_iff_getElem?→afR,getElem?_eq_some_iff→afS,getElem?_eq_getElem→aev,mem_of_getElem?→afT,drop_eq_getElem_cons→afU,length→afV,length_take→ae0,getD_eq_getElem?_getD→aeo,size_toArray→afX,range→ael,mem_range→afY
open Nat renaming le_refl→aea,beq→aew,blt→afQ,eq_of_beq_eq_true→aeB,zero_add→aeC,lt_or_ge→aeb,lt_of_lt_of_le→aed,le_trans→afW,ble→aex,le_of_ble_eq_true→aeK,zero_le→aeY
open Option renaming isSome_iff_exists→aem,bind_some→afC,map_some→aei
namespace Go.Eng
open Go.RowKit
set_option linter.unusedSimpArgs false
set_option linter.unusedVariables false
variable {P:Program} {τ:TypeId→Option TE} {B:Imm→World→Prop} {p:Nat}
theorem run_takeDeferred {w:World} {b:Nat} (h:w.heap[b]? =some (.deferred (some []))):(Instr.takeDeferred b).run P w=.ok [] {w with heap:=w.heap.setIfInBounds b (.deferred none)}:=by
 simp[Instr.takeDeferred,getObj,setObj,Sem.run_bind,Sem.run,h,Result.andThen,Sem.bind]
theorem At.leave {S0:Imm} {w0:World} {ι0:Ix} {H0 H:Hp} {env:Env} {tmps:Array Value} {fn:Func} {R:Ending→World→Prop} (hB:BOK B):∀(ds:List Deferred) (w:World),
 At B p S0 w0 ι0 H0 env H {tmps:=tmps,defers:=ds} w→(∀w',At B p S0 w0 ι0 H0 env H {tmps:=tmps,defers:=[]} w'→LeavesIn (Fw none) 0 P fn tmps R [] .returning w')→
  LeavesInM (Fw none) 0 P fn tmps R ds .returning w:=by
 intro ds;induction ds with
 |nil=>intro w hA h;exact h w hA
 |cons d ds ih=>
  intro w hA h;obtain⟨S,ι,hb,M,RA,D,D',T⟩:=hA.ex;obtain⟨b,h1,h2,h3⟩:=D.all d (by simp)
  have hge:=D' d (by simp) b h1
  have hlt:=lt_of_heap h2;have hset:=MapKept.heap_set (o':=.deferred none) h2
  let w':World:={w with heap:=w.heap.setIfInBounds b (.deferred none)}
  have hnS:∀j,¬S b j:=fun j hs=>by have:=M.imm b j hs;rw[gT h2 rfl]at this;simp at this
  have hk:Keeps S w S w':=by
   refine⟨fun b' j hs=>⟨hs,?_⟩,fun b' j hs=>?_⟩
   ·by_cases e:b'=b
    ·subst e;exact absurd hs (hnS j)
    ·exact cB (hset.2 b' e) j
   ·by_cases e:b'=b
    ·subst e;rw[gT h2 rfl]at hs;simp at hs
    ·rw[cB (hset.2 b' e) j];exact hs
  have hbel:Bel w w':=.block b rfl rfl rfl (by simp[w']) hset.2 (by rw[h2];exact fJ rfl) (by rw[hset.1];exact fJ rfl) (fun _=>by unfold bsz;rw[h2];show(match(w.heap.setIfInBounds b (Obj.deferred none))[b]? with|some (.cells c _ _)=>some c.size|_=>none)=none;rw[hset.1])
  have hne:∀k o b',ay H k=some o→o.has ι k b'→b'≠b:=by
   intro k o b' ho hb' e;subst e;exact h3 ⟨k,o,ho,oM hb',hb'⟩
  refine⟨by simp,.inl ⟨b,w',h1,run_takeDeferred h2,ih w' ⟨S,ι,hB _ _ _ _ hk hbel hb,?_,RA.mono hk (.refl _),?_,fun d' hd'=>D' d' (by simp[hd']),?_⟩ h⟩⟩
  ·exact⟨fun k o ho=>(M.obj k o ho).mono hk (.refl _) hbel (fun b' hb'=>hset.2 b' (hne k o b' ho hb')) (fun _=>rfl) rfl (fun _ _ _ h=>h),M.liveO,M.liveT,M.dist,fun b' j hs=>by rw[(hk.imm b' j hs).2];exact M.imm b' j hs⟩
  ·refine⟨fun d' hd'=>?_,(afE.1 D.nodup).2⟩
   obtain⟨b',g1,g2,g3⟩:=D.all d' (by simp[hd'])
   have:=(afE.1 D.nodup).1 d' hd' b b' h1 g1;exact⟨b',g1,(hset.2 b' (Ne.symm this)).trans g2,g3⟩
  ·exact⟨T.below.trans hbel,fun b' hb' ho=>(hset.2 b' (by omega)).trans (T.same b' hb' ho),T.keeps.trans hk,T.immN,T.own,T.protO,T.protT⟩
structure KT (S:Imm) (w:World) (v:PV) (val:Value) (S':Imm) (w':World):Prop where
 imm:∀b j,S' b j→(rd w' b j).isSome
 keeps:Keeps S w S' w'
 rep:Rep S' w' noI v val
 below:Bel w w'
 same:∀b,b<w.heap.size→w'.heap[b]? =w.heap[b]?
 immN:∀b j,b<w.heap.size→S' b j→S b j
def Enters (P:Program) (g:FuncId):Prop:=∀vs w,(callFunc g vs).run P w=.ok (.enter g vs) w
def tV (P:Program) (B:Imm→World→Prop) (g:FuncId) (args:List PV) (v:PV):Prop:=
 ∀(S:Imm) (w:World) (vs:Array Value),B S w→(∀b j,S b j→(rd w b j).isSome)→bC S w noI args vs→
  CallsIn (Fw none) 0 P g vs w fun e w'=>∃val S',e=.returned val∧KT S w v val S' w'
def aF (P:Program) (g:FuncId) (args:List PV) (v:PV):Prop:=Enters P g∧tV P gB g args v
theorem enters {g:FuncId} {fn:Func} (hf:P.funcs[g]? =some fn) (hn:(fn.name== "runtime.NumGoroutine")=false) (hb:fn.body.isNone=false):Enters P g:=by
 intro vs w;have h1:¬fn.name= "runtime.NumGoroutine" :=fun e=>by rw[e]at hn;simp at hn
 have h2:¬fn.body=none:=fun e=>by rw[e]at hb;simp at hb
 simp[callFunc,hf,h1,h2,Result.andThen]
theorem BU {S:Imm} {w:World} {us:List PV} {vals:List Value} (hlen:us.length=vals.length) (h:∀i,i<us.length→Rep S w noI (aC us i) (vals.getD i undef)):
 Rep S w noI (bF us) (if h:vals.toArray.size=1 then vals.toArray[0]else .tuple vals.toArray):=by
 match us,vals,hlen,h with
 | [],[],_,_=>exact .tup _ _ _ rfl (fun i hi=>by simp at hi)
 | [u],[x],_,h=>simpa [bF,aC]using h 0 (by simp)
 |u::u'::us,x::x'::xs,hlen,h=>
  have:¬(x::x'::xs).toArray.size=1:=by simp
  rw[dif_neg this];refine .tup _ _ _ (by simpa using hlen) (fun i hi=>?_)
  have:=h i hi;rw[aej];simpa using this
theorem xg {S:Imm} {w:World} {ι:Ix} {args:List PV} {vs:Array Value} (h:bC S w ι args vs) (n:Nat):bC S w ι (args++kD n) (vs++afN n undef):=by
 refine fK h ⟨by simp[wW],fun i hi=>?_⟩
 rw[Ee];exact .any _ _
structure Sup (p q:PV):Prop where
 get:∀{S:Imm} {w:World} {ι:Ix} {v:Value},Rep S w ι p v→Rep S w ι q v
theorem Sup.of {p q:PV} (h:p=q):Sup p q:=⟨fun hr=>h▸hr⟩
structure Fin (q:Prop):Prop where
 get:q
theorem fM {q:Prop} (h:q):Fin q:=⟨h⟩
theorem aI {a b:Prop} (h:a) (g:b):a∧b:=⟨h,g⟩
theorem vw:(∀{α:Type} (a b:α),(if True then a else b)=a)∧(∀{α:Type} (a b:α),(if False then a else b)=b)∧(∀{p:Prop} [Decidable p],(decide p=true)=p)∧(∀{p:Prop} [Decidable p],decide p=false↔¬p)∧(∀b:Bool,(¬b=true)=(b=false))∧(∀b:Bool,(¬b=false)=(b=true))∧(∀b:Bool,((!b)=true)=(b=false))∧(∀b:Bool,((!b)=false)=(b=true))∧((!true)=false)∧((!false)=true):=
 ⟨fun _ _=>rfl,fun _ _=>rfl, @decide_eq_true_eq, @decide_eq_false_iff_not,Bool.not_eq_true,Bool.not_eq_false,Bool.not_eq_true',Bool.not_eq_false',Bool.not_true,Bool.not_false⟩
def Y1 (τ:TypeId→Option TE) (fn:Func) (v:PV) (e:Exit) (env:Env) (H:Hp):Prop:=
 match e with
 |.normal=>kH τ fn.results.toList env H fun vs=>tT vs H fun us _=>Fin (Sup (bF us) v)
 |.ret=>kH τ fn.results.toList env H fun vs=>tT vs H fun us _=>Fin (Sup (bF us) v)
 |_=>False
theorem Hu (hB:BOK B) (hτ:aV P τ) {g:FuncId} {fn:Func} {c:Code} {args:List PV} {v:PV} (hf:P.funcs[g]? =some fn) (hb:fn.body=some c)
 (h:AW P none B 0 c (Y1 τ fn v) (args++kD (fn.ntmps-args.length)) []):tV P B g args v:=by
 intro S w vs hBw himm hr;have M:Mem S w noI []:=⟨fun k o h=>by simp[ay]at h,fun k b h=>by simp[noI]at h,fun k x h=>by simp[noI]at h,fun k k' o o' b h=>by simp[ay]at h,himm⟩
 have hA:At B 0 S w noI [] (args++kD (fn.ntmps-args.length)) [] {tmps:=vs++afN (fn.ntmps-vs.size) undef,defers:=[]} w:=
  ⟨S,noI,hBw,M,by rw[hr.1];exact xg hr _,.nil _ _ _,fun d hd=>by simp at hd,.refl _ _ _ _ _⟩
 refine callsIn_of_wp_marks hf hb trivial (wpIn_mono (h S w noI [] _ w hA) ?_)
 rintro e ⟨tmps,ds⟩ w1 ⟨env',H',q,hA1⟩
 have fin:(kH τ fn.results.toList env' H' fun vs=>tT vs H' fun us _=>Fin (Sup (bF us) v))→LeavesInM (Fw none) 0 P fn tmps (fun e w'=>∃val S',e=.returned val∧KT S w v val S' w') ds .returning w1:=by
  intro q;refine At.leave hB ds w1 hA1 fun w2 hA2=>?_;obtain⟨S2,ι2,hb2,M2,R2,_,_,T2⟩:=hA2.ex;obtain⟨vs1,q,hs⟩:=qW (P:=P) hτ _ q;obtain⟨us,H3,q,hl,hz⟩:=Ew (P:=P) _ q;obtain⟨vals,r1,r2,r3⟩:=hs M2 R2;obtain⟨S3,M3,K3,T3,R3⟩:=hz (fun i=>vals.getD i undef) M2 r3;have hT:=T2.trans (T3 0);have hno:∀b,¬owned noI [] b:=by rintro b ⟨k,o,h1,_⟩;simp[ay]at h1
  have hrun:(results fn tmps).run P w2=.ok (if h:vals.toArray.size=1 then vals.toArray[0]else .tuple vals.toArray) w2:=by
   unfold results;rw[Sem.run_bind,afO,←bind_pure_comp,Sem.run_bind];have:(afP (fun(x:ResultVar)=>(match x with|.tmp t=>pure (tmps.getD t undef)|.cell a t=>do loadVar t (←asAddr (tmps.getD a undef)):Sem Value)) fn.results.toList).run P w2=.ok vals w2:=r1
   erw [this]
   simp only[Result.andThen,Function.comp,Sem.run_pure]
  refine⟨_,hrun,_,S3,rfl,M3.imm,hT.keeps,?_,hT.below,fun b hb=>hT.same b hb (hno b),fun b j hb hs=>(hT.immN b j hb hs).resolve_right (hno b)⟩;exact q.get.get (BU (by omega) R3)
 cases e with
 |normal=>exact fin q
 |ret=>exact fin q
 |_=>exact q.elim
def KU:PV→PV
 |.isl c _=>.isl c .none
 |.bool b=>.bp b
 |.nils=>.isl (.ints .i64 []) .none
 |p=>p
def yZ:List PV→List PV
 | []=>[]
 |x::xs=>KU x::yZ xs
def QW:PV→PV
 |.agg cs=>.agg (yZ cs)
 |p=>KU p
def dh:List PV→List PV
 | []=>[]
 |x::xs=>QW x::dh xs
theorem Ey {S:Imm} {w:World} {ι:Ix} {p:PV} {v:Value} (h:Rep S w ι p v):Rep S w ι (KU p) v:=by
 unfold KU;split
 ·exact h.drop
 ·cases h;exact .bp _ _
 ·cases h;exact .islnil _ _ _ rfl
 ·exact h
theorem tX:∀(ps:List PV),(yZ ps).length=ps.length∧∀i {S:Imm} {w:World} {ι:Ix} {v:Value},Rep S w ι (aC ps i) v→Rep S w ι (aC (yZ ps) i) v:=by
 intro ps;induction ps with
 |nil=>exact⟨rfl,fun i _ _ _ _ h=>h⟩
 |cons p ps ih=>exact⟨by simp[yZ,ih.1],fun i _ _ _ _ h=>by cases i with|zero=>exact Ey h|succ i=>exact ih.2 i h⟩
theorem QX {S:Imm} {w:World} {ι:Ix} {p:PV} {v:Value} (h:Rep S w ι p v):Rep S w ι (QW p) v:=by
 unfold QW;split
 ·cases h with|agg _ _ vs hl hh=>exact .agg _ _ _ ((tX _).1.trans hl) (fun i hi=>(tX _).2 i (hh i (by rw[(tX _).1]at hi;exact hi)))
 ·exact Ey h
theorem bq:∀(ps:List PV),(dh ps).length=ps.length∧∀i {S:Imm} {w:World} {ι:Ix} {v:Value},Rep S w ι (aC ps i) v→Rep S w ι (aC (dh ps) i) v:=by
 intro ps;induction ps with
 |nil=>exact⟨rfl,fun i _ _ _ _ h=>h⟩
 |cons p ps ih=>exact⟨by simp[dh,ih.1],fun i _ _ _ _ h=>by cases i with|zero=>exact QX h|succ i=>exact ih.2 i h⟩
def pI (args:List PV) (K:List PV→Prop):Prop:=match jf args with|some xs=>bM (dh xs) K|none=>False
theorem tY {g:FuncId} {args as:List PV} {H:Hp} {v:PV} (ha:jf args=some as) (h:aF P g (dh as) v):iK P g args H v [] [] []:=by
 obtain⟨hent,h⟩:=h;refine⟨hent,fun S w ι H' vs hg M hr _ _=>?_⟩;obtain⟨h1,h2⟩:=iA ha;refine(h S w vs hg M.imm ⟨(bq as).1.trans (h1.trans hr.1),fun i hi=>(bq as).2 i (h2 i (by rw[(bq as).1]at hi;omega) (hr.2 i (by rw[(bq as).1]at hi;omega)))⟩).mono ?_
 rintro e w' ⟨val,S',rfl,o⟩
 have hno:∀k ob b,ay H' k=some ob→ob.has ι k b→b<w.heap.size:=fun k ob b ho hb=>(M.obj k ob ho).lt hb;refine⟨val,S',ι,rfl,⟨fun k ob ho=>(M.obj k ob ho).mono o.keeps (.refl _) o.below (fun b hb=>o.same b (hno k ob b ho hb)) (fun _=>rfl) rfl (fun b j hb hs=>o.immN b j (hno k ob b ho hb) hs),M.liveO,M.liveT,M.dist,o.imm⟩,
  .refl _,o.keeps,o.rep.up ι,fun p=>⟨o.below,fun b hb _=>o.same b hb,o.keeps,fun b j hb hs=>.inl (o.immN b j hb hs),fun b h=>.inl h,fun _ _ _ h=>h,fun _ _ b n h=>⟨b,n,h,.inl ⟨rfl,aea _⟩⟩⟩⟩
end Go.Eng
namespace Go.Eng
inductive TT where
 |leaf (k:Nat) (te:TE)
 |node (m:Nat) (l r:TT)
def TT.get:TT→Nat→Option TE
 |.leaf k te,t=>match aew t k with|true=>some te|false=>none
 |.node m l r,t=>match afQ t m with|true=>l.get t|false=>r.get t
def TT.All (f:Nat→TE→Prop):TT→Prop
 |.leaf k te=>f k te
 |.node _ l r=>l.All f∧r.All f
theorem TT.get_all {f:Nat→TE→Prop}:∀(T:TT),T.All f→∀t te,T.get t=some te→f t te:=by
 intro T;induction T with
 |leaf k te'=>
  intro h t te hg;simp only[TT.get]at hg;cases hb:aew t k with
  |true=>rw[hb]at hg;cases hg;rw[aeB hb];exact h
  |false=>rw[hb]at hg;cases hg
 |node m l r ihl ihr=>
  intro h t te hg;simp only[TT.get]at hg;cases hb:afQ t m with
  |true=>rw[hb]at hg;exact ihl h.1 t te hg
  |false=>rw[hb]at hg;exact ihr h.2 t te hg
def aO (t u:TypeInfo):TE:=⟨u.desc,t.zero.getD undef,t.size,t.bytes,none,t.methods.toList⟩
def jA (t u:TypeInfo) (ks:List CK):TE:=⟨u.desc,t.zero.getD undef,t.size,t.bytes,some ks,t.methods.toList⟩
def aH (P:Program) (k:Nat) (te:TE):Prop:=
 P.underlying k=some te.und∧(∃i,P.info? k=some i∧i.zero=some te.zero∧i.size=te.size∧i.bytes=te.bytes)∧te.zero.cells.size=te.size∧(∀ks,te.cmp=some ks→CZ P k ks)∧∃i,P.info? k=some i∧i.methods.toList=te.meths
theorem kr {P:Program} {t:TypeId} {i:TypeInfo} (h:∀w,(typeInfo t).run P w=.ok i w):P.info? t=some i:=by
 cases hi:P.info? t with
 |none=>have:=h default;simp[typeInfo,hi]at this
 |some j=>have:=h default;simp[typeInfo,hi]at this;rw[this]
theorem aJ {P:Program} {k:Nat} {t u:TypeInfo} {d:TypeDesc} {z:Value} (h1:P.underlying k=some d) (h2:∀w,(typeInfo k).run P w=.ok t w) (h3:u.desc=d) (h4:t.zero=some z) (h5:z.cells.size=t.size):aH P k (aO t u):=
 ⟨by rw[h1,←h3];rfl,⟨t,kr h2,by simp[aO,h4],rfl,rfl⟩,by simp[aO,h4,h5],fun ks h=>(by cases h),t,kr h2,rfl⟩
theorem EqT.mono {P:Program} {t:TypeId} {ks:List CK} {n m:Nat} (h:EqT P t ks n) (hm:n≤m):EqT P t ks m:=fun w d xs ys off hd=>h w d xs ys off (by omega)
theorem sP.nil {P:Program} {n off:Nat}:sP P n [] off []:=rfl
theorem sP.cons {P:Program} {n off:Nat} {f:Field} {fs:List Field} {kf rest:List CK} (h1:f.name≠ "_") (h2:f.offset=off) (h3:EqT P f.type kf n) (h4:sP P n fs (off+kf.length) rest):sP P n (f::fs) off (kf++rest):=
 ⟨h1,h2,kf,rest,rfl,h3,h4⟩
theorem Ez {P:Program} {t:TypeId} {i:TypeInfo} (h:∀w,(typeInfo t).run P w=.ok i w):P.cellsOf t=i.size:=by simp[Program.cellsOf,kr h]
theorem iB {P:Program} {k:Nat} {t u:TypeInfo} {d:TypeDesc} {z:Value} {ks:List CK} (hc:CZ P k ks) (h1:P.underlying k=some d) (h2:∀w,(typeInfo k).run P w=.ok t w) (h3:u.desc=d) (h4:t.zero=some z) (h5:z.cells.size=t.size):aH P k (jA t u ks):=
 ⟨by rw[h1,←h3];rfl,⟨t,kr h2,by simp[jA,h4],rfl,rfl⟩,by simp[jA,h4,h5],fun ks' h=>(by cases h;exact hc),t,kr h2,rfl⟩
theorem QY {P:Program} {T:TT} (h:T.All (aH P)):aV P T.get:=
 ⟨fun t te ht=>(TT.get_all T h t te ht).1,fun t te ht=>(TT.get_all T h t te ht).2.1,fun t te ht=>(TT.get_all T h t te ht).2.2.1,fun t te ks ht=>(TT.get_all T h t te ht).2.2.2.1 ks,fun t te ht=>(TT.get_all T h t te ht).2.2.2.2⟩
theorem tZ {P:Program} {g:FuncId} {xs:List PV} {u v:PV} (h:aF P g xs u) (hs:Sup u v):aF P g xs v:=
 ⟨h.1,fun S w vs hb himm hA=>(h.2 S w vs hb himm hA).mono fun _ _ ⟨val,S',h1,h2⟩=>⟨val,S',h1,⟨h2.imm,h2.keeps,hs.get h2.rep,h2.below,h2.same,h2.immN⟩⟩⟩
def noC:CPT:=fun _ _ _ _ _=>False
def noY:YPT:=fun _ _ _ _ _ _ _=>False
theorem aD {P:Program}:aW P noC:=fun _ _ _ _ _ h=>h.elim
theorem aQ {P:Program} {r:Option Nat} {B:Imm→World→Prop}:jY P r B noY:=fun _ _ _ _ _ _ _ h=>h.elim
theorem aK:BOK jX:=⟨fun _ _ _ _ k b h=>lK k b h,fun _ _ h=>h⟩
def KV (P:Program) (B:Imm→World→Prop) (τ:TypeId→Option TE) (md:Nat) (rf:List Nat) (CP:CPT) (YP:YPT) (fn:Func) (args:List PV) (v:PV):Prop:=
 ev P none B 0 τ md rf CP YP (fn.body.getD .skip) 0 (args++kD (fn.ntmps-args.length)) [] fun e env H _=>Y1 τ fn v e env H
theorem uf {P:Program} {τ:TypeId→Option TE} {B:Imm→World→Prop} (hB:BOK B) (hm:P.follows .mixedOrders=true) (hτ:aV P τ) {md rf CP YP} (hC:jy P B CP) (hY:jY P none B YP) {g:FuncId} {fn:Func} {args:List PV} {v:PV}
 (hf:P.funcs[g]? =some fn) (hb:fn.body.isSome=true) (hok:dI (fn.body.getD .skip)=true) (h:KV P B τ md rf CP YP fn args v):tV P B g args v:=by
 obtain⟨c,hc⟩:=aem.1 hb;unfold KV at h;rw[hc]at h hok;exact Hu hB hτ hf hc ((iU hB hm hτ hC hY c hok _ _ _ _ h).mono fun e env H ⟨n,h⟩=>h)
theorem av {P:Program} {τ:TypeId→Option TE} (hm:P.follows .mixedOrders=true) (hτ:aV P τ) {md rf CP} (hC:aW P CP) {g:FuncId} {fn:Func} {args:List PV} {v:PV}
 (hf:P.funcs[g]? =some fn) (hn:(fn.name== "runtime.NumGoroutine")=false) (hb:fn.body.isSome=true) (hok:dI (fn.body.getD .skip)=true) (h:KV P jX τ md rf CP noY fn args v):aF P g args v:=
 ⟨enters hf hn (by cases h:fn.body<;>simp_all),uf aK hm hτ hC aQ hf hb hok h⟩
end Go.Eng
namespace Go.Eng
open Go.RowKit
set_option linter.unusedSimpArgs false
set_option linter.unusedVariables false
abbrev Sg:=List (Nat × Nat)
def sgF:Sg→Nat→Option Nat
 | [],_=>none
 |(a,b)::r,k=>match aew a k with|true=>some b|false=>sgF r k
def sgB:Sg→Nat→Option Nat
 | [],_=>none
 |(a,b)::r,k=>match aew b k with|true=>some a|false=>sgB r k
def KW (σ:Sg):PV→Option PV
 |.rsl k o n=>match sgF σ k with|some k'=>some (.rsl k' o n)|none=>none
 |.rp k o=>match sgF σ k with|some k'=>some (.rp k' o)|none=>none
 |.rpe k m i j=>match sgF σ k with|some k'=>some (.rpe k' m i j)|none=>none
 |.rm k=>match sgF σ k with|some k'=>some (.rm k')|none=>none
 |.row k b n=>match sgF σ k with|some k'=>some (.row k' b n)|none=>none
 |.rowp k b m i j=>match sgF σ k with|some k'=>some (.rowp k' b m i j)|none=>none
 |.isl c t=>match t with
  |.own k=>match sgF σ k with|some k'=>some (.isl c (.own k'))|none=>some (.isl c .none)
  |.none=>some (.isl c .none)
  |.full=>some (.isl c .full)
 |.any=>some .any
 |p=>eF p
def pJ (σ:Sg):List PV→Option (List PV)
 | []=>some []
 |x::xs=>match KW σ x with
  |some y=>match pJ σ xs with
   |some ys=>some (y::ys)
   |none=>none
  |none=>none
def qX (σ:Sg):PV→Option PV
 |.agg cs=>match pJ σ cs with|some ds=>some (.agg ds)|none=>none
 |.tup cs=>match pJ σ cs with|some ds=>some (.tup ds)|none=>none
 |.fn f us vs=>match pJ σ us with
  |some us=>match pJ σ vs with
   |some vs=>some (.fn f us vs)
   |none=>none
  |none=>none
 |p=>KW σ p
structure VC (q:Prop):Prop where
 get:q
theorem vM {q:Prop} (h:q):VC q:=⟨h⟩
def eqT (t u:Tok):Prop:=match u with
 |.none=>True
 |.full=>match t with|.full=>True|_=>False
 |.own k=>match t with|.own k'=>ifK (aew k k') True|_=>False
def Aa (p q:PV) (K:Prop):Prop:=
 match q with
 |.any=>K
 |.int k a=>match p with
  |.int k' b=>ifK (decide (k'=k)) (VC (b=a)∧K)
  |_=>False
 |.bp a=>match p with
  |.bp b=>VC (b=a)∧K
  |.bool b=>VC (b=a)∧K
  |_=>False
 |.str a=>match p with
  |.str b=>VC (b=a)∧K
  |_=>False
 |.isl c t=>match p with
  |.isl d u=>VC (d=c)∧eqT u t∧K
  |.nils=>VC (c.cnt=0)∧K
  |_=>False
 |.rsl k o n=>match p with
  |.rsl k' o' n'=>ifK (aew k k') (VC (o'=o∧n'=n)∧K)
  |_=>False
 |q=>VC (p=q)∧K
def Db:List PV→List PV→Prop→Prop
 | [],[],K=>K
 |p::ps,q::qs,K=>Aa p q (Db ps qs K)
 |_,_,_=>False
def EA (σ:Sg) (p q:PV) (K:Prop):Prop:=
 match q with
 |.any=>K
 |.agg ds=>match qX σ p with
  |some (.agg cs)=>Db cs ds K
  |_=>False
 |.isl c t=>match t with
  |.none=>match p with
   |.isl d _=>VC (d=c)∧K
   |.nils=>VC (c.cnt=0)∧K
   |_=>False
  |t=>match qX σ p with
   |some p'=>Aa p' (.isl c t) K
   |none=>False
 |q=>match qX σ p with
  |some p'=>Aa p' q K
  |none=>False
def Dc (σ:Sg):List PV→List PV→Prop→Prop
 | [],[],K=>K
 |p::ps,q::qs,K=>EA σ p q (Dc σ ps qs K)
 |_,_,_=>False
theorem Ab {σ:Sg} {k k':Nat} (h:sgF σ k=some k') (hinj:∀x∈σ,sgB σ x.2=some x.1):sgB σ k'=some k:=by
 have:(k,k')∈σ:=by
  clear hinj;induction σ with
  |nil=>cases h
  |cons x r ih=>
   obtain⟨a,b⟩:=x;simp only[sgF]at h;cases hb:aew a k with
   |true=>rw[hb]at h;cases h;rw[aeB hb];simp
   |false=>rw[hb]at h;exact aek _ (ih h)
 exact hinj _ this
def Ix.ren (ι:Ix) (σ:Sg):Ix:=⟨fun k=>(sgB σ k).bind ι.o,fun k=>(sgB σ k).bind ι.t,fun k b=>∃k0,sgB σ k=some k0∧ι.x k0 b⟩
structure qY (σ:Sg) (ι ι1:Ix):Prop where
 o:∀k k' b,sgF σ k=some k'→ι.o k=some b→ι1.o k'=some b
 t:∀k k' x,sgF σ k=some k'→ι.t k=some x→ι1.t k'=some x
theorem pK {σ:Sg} (hinj:∀x∈σ,sgB σ x.2=some x.1) (ι:Ix):qY σ ι (ι.ren σ):=
 ⟨fun k k' b h hb=>by simp[Ix.ren,Ab h hinj,hb],fun k k' b h hb=>by simp[Ix.ren,Ab h hinj,hb]⟩
section
variable {S:Imm} {w:World} {ι ι1:Ix} {σ:Sg} (hinj:qY σ ι ι1)
include hinj
theorem I5 {p q:PV} (h:KW σ p=some q) {v:Value} (hr:Rep S w ι p v):Rep S w ι1 q v:=by
 have key:∀{k k' b:Nat},sgF σ k=some k'→ι.o k=some b→ι1.o k'=some b:=fun h hb=>hinj.o _ _ _ h hb;have keyt:∀{k k':Nat} {x},sgF σ k=some k'→ι.t k=some x→ι1.t k'=some x:=fun h hb=>hinj.t _ _ _ h hb;unfold KW at h;split at h
 ·split at h
  ·rename_i hs;cases h
   cases hr with
   |rsl _ _ _ _ b cap hk hc hr=>exact .rsl _ _ _ _ _ _ (key hs hk) hc hr
   |rslz _ _ _ b o hk=>exact .rslz _ _ _ _ _ (key hs hk)
  ·cases h
 ·split at h
  ·rename_i hs;cases h
   cases hr with|rp _ _ _ b hk=>exact .rp _ _ _ _ (key hs hk)
  ·cases h
 ·split at h
  ·rename_i hs;cases h
   cases hr with|rpe _ _ _ _ _ b hk=>exact .rpe _ _ _ _ _ _ (key hs hk)
  ·cases h
 ·split at h
  ·rename_i hs;cases h
   cases hr with|rm _ _ b hk=>exact .rm _ _ _ (key hs hk)
  ·cases h
 ·split at h
  ·rename_i hs;cases h
   cases hr with|row _ _ _ _ cap hc=>exact .row _ _ _ _ _ hc
  ·cases h
 ·split at h
  ·rename_i hs;cases h
   cases hr;exact .rowp _ _ _ _ _ _
  ·cases h
 ·rename_i c t
  split at h
  ·rename_i k
   split at h
   ·rename_i hs;cases h
    cases hr with
    |islnil _ _ _ hc=>exact .islnil _ _ _ hc
    |isl _ _ _ b off cap hc hs' hh hf ho=>
     refine .isl _ _ _ _ _ _ hc hs' hh (fun e=>by cases e) (fun k1 e=>?_)
     cases e
     rcases ho k rfl with h0|⟨b1,n,g1,g2⟩
     ·exact .inl h0
     ·exact .inr ⟨b1,n,keyt hs g1,g2⟩
   ·cases h;exact(hr.drop.toNoI).up _
  ·cases h;exact(hr.toNoI).up _
  ·cases h;exact(fE (p:=.isl c .full) rfl hr).up _
 ·cases h;exact .any _ _
 ·exact(fE h hr).up _
theorem qZ:∀{ps qs:List PV},pJ σ ps=some qs→qs.length=ps.length∧∀i,i<ps.length→∀{v:Value},Rep S w ι (aC ps i) v→Rep S w ι1 (aC qs i) v:=by
 intro ps;induction ps with
 |nil=>intro qs h;simp[pJ]at h;subst h;exact⟨rfl,fun i hi=>by simp at hi⟩
 |cons p ps ih=>
  intro qs h;unfold pJ at h;split at h
  ·rename_i y hy
   split at h
   ·rename_i ys hys
    cases h
    obtain⟨h1,h2⟩:=ih hys;refine⟨by simp[h1],fun i hi=>?_⟩
    cases i with
    |zero=>intro v hr;exact I5 hinj hy hr
    |succ i=>exact h2 i (by simpa using hi)
   ·cases h
  ·cases h
theorem vQ {p q:PV} (h:qX σ p=some q) {v:Value} (hr:Rep S w ι p v):Rep S w ι1 q v:=by
 unfold qX at h;split at h
 ·split at h
  ·rename_i ds hds
   cases h
   obtain⟨h1,h2⟩:=qZ hinj hds (S:=S) (w:=w);cases hr with|agg _ _ vs hl hh=>exact .agg _ _ _ (h1.trans hl) (fun i hi=>h2 i (by omega) (hh i (by omega)))
  ·cases h
 ·split at h
  ·rename_i ds hds
   cases h
   obtain⟨h1,h2⟩:=qZ hinj hds (S:=S) (w:=w);cases hr with|tup _ _ vs hl hh=>exact .tup _ _ _ (h1.trans hl) (fun i hi=>h2 i (by omega) (hh i (by omega)))
  ·cases h
 ·split at h
  ·rename_i us hus
   split at h
   ·rename_i vs hvs
    cases h
    obtain⟨h1,h2⟩:=qZ hinj hus (S:=S) (w:=w);obtain⟨g1,g2⟩:=qZ hinj hvs (S:=S) (w:=w);cases hr with|fn _ _ _ _ us' vs' hk hl hu hv=>exact .fn _ _ _ _ _ _ (h1.trans hk) (g1.trans hl) (fun i hi=>h2 i (by omega) (hu i (by omega))) (fun i hi=>g2 i (by omega) (hv i (by omega)))
   ·cases h
  ·cases h
 ·exact I5 hinj h hr
end
theorem q9 {σ:Sg} (hinj:∀x∈σ,sgB σ x.2=some x.1) {S:Imm} {w:World} {ι:Ix} {p q:PV} (h:qX σ p=some q) {v:Value} (hr:Rep S w ι p v):Rep S w (ι.ren σ) q v:=vQ (pK hinj ι) h hr
theorem nV {p q:PV} {K:Prop} (h:Aa p q K):K∧∀{S:Imm} {w:World} {ι:Ix} {v:Value},Rep S w ι p v→Rep S w ι q v:=by
 unfold Aa at h;split at h
 ·exact⟨h,fun _=>.any _ _⟩
 ·split at h
  ·rw[aL]at h
   obtain⟨h1,⟨h2⟩,h3⟩:=h;have h1:=of_decide_eq_true h1;subst h1;subst h2;exact⟨h3,fun hr=>hr⟩
  ·exact h.elim
 ·split at h
  ·obtain⟨⟨h1⟩,h2⟩:=h;subst h1;exact⟨h2,fun hr=>hr⟩
  ·obtain⟨⟨h1⟩,h2⟩:=h;subst h1;exact⟨h2,fun hr=>by cases hr;constructor⟩
  ·exact h.elim
 ·split at h
  ·obtain⟨⟨h1⟩,h2⟩:=h;subst h1;exact⟨h2,fun hr=>hr⟩
  ·exact h.elim
 ·rename_i c t
  split at h
  ·rename_i d u
   obtain⟨⟨h1⟩,h2,h3⟩:=h;subst h1;refine⟨h3,fun hr=>?_⟩;unfold eqT at h2;split at h2
   ·exact hr.drop
   ·split at h2
    ·exact hr
    ·exact h2.elim
   ·split at h2
    ·rw[aL]at h2;have:=aeB h2.1;subst this;exact hr
    ·exact h2.elim
  ·obtain⟨⟨h1⟩,h2⟩:=h
   exact⟨h2,fun hr=>by cases hr;exact .islnil _ _ _ h1⟩
  ·exact h.elim
 ·split at h
  ·rw[aL]at h
   obtain⟨h1,⟨h2,h3⟩,h4⟩:=h;have h1:=aeB h1;subst h1;subst h2;subst h3;exact⟨h4,fun hr=>hr⟩
  ·exact h.elim
 ·obtain⟨⟨h1⟩,h2⟩:=h;subst h1;exact⟨h2,fun hr=>hr⟩
theorem wI:∀{ps qs:List PV} {K:Prop},Db ps qs K→K∧ps.length=qs.length∧∀i {S:Imm} {w:World} {ι:Ix} {v:Value},Rep S w ι (aC ps i) v→Rep S w ι (aC qs i) v:=by
 intro ps;induction ps with
 |nil=>intro qs K h;cases qs with
  |nil=>exact⟨h,rfl,fun i _ _ _ _ hr=>hr⟩
  |cons=>exact h.elim
 |cons p ps ih=>intro qs K h;cases qs with
  |nil=>exact h.elim
  |cons q qs=>
   obtain⟨h,h1⟩:=nV h;obtain⟨h,h2,h3⟩:=ih h;refine⟨h,by simp[h2],fun i _ _ _ _ hr=>?_⟩
   cases i with
   |zero=>exact h1 hr
   |succ i=>exact h3 i hr
theorem ru {σ:Sg} (hinj:∀x∈σ,sgB σ x.2=some x.1) {p q:PV} {K:Prop} (h:EA σ p q K):K∧∀{S:Imm} {w:World} {ι:Ix} {v:Value},Rep S w ι p v→Rep S w (ι.ren σ) q v:=by
 unfold EA at h;split at h
 ·exact⟨h,fun _=>.any _ _⟩
 ·split at h
  ·rename_i cs hcs
   obtain⟨h,h1,h2⟩:=wI h;refine⟨h,fun hr=>?_⟩;have:=q9 hinj hcs hr;cases this with|agg _ _ vs hl hh=>exact .agg _ _ _ (h1.symm.trans hl) (fun i hi=>h2 i (hh i (by omega)))
  ·exact h.elim
 ·rename_i c t
  split at h
  ·split at h
   ·rename_i d u
    obtain⟨⟨e⟩,h⟩:=h;subst e;exact⟨h,fun hr=>by
     have:=hr.drop;cases this with
     |islnil _ _ _ hc=>exact .islnil _ _ _ hc
     |isl _ _ _ b off cap hc hs hh hf ho=>exact .isl _ _ _ _ _ _ hc hs hh hf (fun k e=>by cases e)⟩
   ·obtain⟨⟨e⟩,h⟩:=h
    exact⟨h,fun hr=>by cases hr;exact .islnil _ _ _ e⟩
   ·exact h.elim
  ·split at h
   ·rename_i p' hp
    obtain⟨h,h1⟩:=nV h;exact⟨h,fun hr=>h1 (q9 hinj hp hr)⟩
   ·exact h.elim
 ·split at h
  ·rename_i p' hp
   obtain⟨h,h1⟩:=nV h;exact⟨h,fun hr=>h1 (q9 hinj hp hr)⟩
  ·exact h.elim
theorem wJ {σ:Sg} (hinj:∀x∈σ,sgB σ x.2=some x.1):∀{ps qs:List PV} {K:Prop},Dc σ ps qs K→K∧ps.length=qs.length∧∀i {S:Imm} {w:World} {ι:Ix} {v:Value},Rep S w ι (aC ps i) v→Rep S w (ι.ren σ) (aC qs i) v:=by
 intro ps;induction ps with
 |nil=>intro qs K h;cases qs with
  |nil=>exact⟨h,rfl,fun i _ _ _ _ hr=>.any _ _⟩
  |cons=>exact h.elim
 |cons p ps ih=>intro qs K h;cases qs with
  |nil=>exact h.elim
  |cons q qs=>
   obtain⟨h,h1⟩:=ru hinj h;obtain⟨h,h2,h3⟩:=ih h;refine⟨h,by simp[h2],fun i _ _ _ _ hr=>?_⟩
   cases i with
   |zero=>exact h1 hr
   |succ i=>exact h3 i hr
def KY (p q:PV):Prop:=
 match q with
 |.agg qs=>(match p with|.agg ps=>Db ps qs True|_=>False)
 |q=>Aa p q True
def QZ:List PV→List PV→Prop
 | [],[]=>True
 |p::ps,q::qs=>KY p q∧QZ ps qs
 |_,_=>False
def eqR (p q:PV):Prop:=
 match q with
 |.tup qs=>(match p with|.tup ps=>QZ ps qs|_=>False)
 |q=>KY p q
theorem y5 {p q:PV} (h:KY p q) {S:Imm} {w:World} {ι:Ix} {v:Value} (hr:Rep S w ι p v):Rep S w ι q v:=by
 unfold KY at h;split at h
 ·split at h
  ·obtain⟨_,h1,h2⟩:=wI h
   cases hr with|agg _ _ vs hl hh=>exact .agg _ _ _ (h1.symm.trans hl) (fun i hi=>h2 i (hh i (by omega)))
  ·exact h.elim
 ·exact(nV h).2 hr
theorem KZ:∀{ps qs:List PV},QZ ps qs→ps.length=qs.length∧∀i {S:Imm} {w:World} {ι:Ix} {v:Value},Rep S w ι (aC ps i) v→Rep S w ι (aC qs i) v:=by
 intro ps;induction ps with
 |nil=>intro qs h;cases qs with
  |nil=>exact⟨rfl,fun i _ _ _ _ hr=>hr⟩
  |cons=>exact h.elim
 |cons p ps ih=>intro qs h;cases qs with
  |nil=>exact h.elim
  |cons q qs=>
   obtain⟨h1,h2⟩:=ih h.2;refine⟨by simp[h1],fun i _ _ _ _ hr=>?_⟩
   cases i with
   |zero=>exact y5 h.1 hr
   |succ i=>exact h2 i hr
theorem Sup.via {p q:PV} (h:eqR p q):Sup p q:=⟨fun hr=>by
 unfold eqR at h;split at h
 ·split at h
  ·obtain⟨h1,h2⟩:=KZ h
   cases hr with|tup _ _ vs hl hh=>exact .tup _ _ _ (h1.symm.trans hl) (fun i hi=>h2 i (hh i (by omega)))
  ·exact h.elim
 ·exact y5 h hr⟩
def Q0 (σ:Sg) (c c1:CL) (K:Prop):Prop:=
 match c1 with
 |.pv qs=>match c with
  |.pv ps=>Dc σ ps qs K
  |_=>False
 |.ints k ys=>match c with
  |.ints k' xs=>ifK (decide (k'=k)) (VC (xs=ys)∧K)
  |_=>False
 |.bools ys=>match c with
  |.bools xs=>VC (xs=ys)∧K
  |_=>False
 |.strs ys=>match c with
  |.strs xs=>VC (xs=ys)∧K
  |_=>False
 |.rows k ys=>match c with
  |.rows k' xs=>ifK (decide (k'=k)) (VC (xs=ys)∧K)
  |_=>False
 |.recs m ys=>match c with
  |.recs m' xs=>ifK (aew m' m) (VC (xs=ys∧nZ xs)∧K)
  |_=>False
 |_=>False
def Q5 (σ:Sg):List (PV × PV)→List (PV × PV)→Prop→Prop
 | [],[],K=>K
 |(p,u)::ps,(q,v)::qs,K=>EA σ p q (EA σ u v (Q5 σ ps qs K))
 |_,_,_=>False
def EB (a b:RC) (D:Nat→Prop) (f:Nat→Nat) (K:Prop):Prop:=
 match b with
 |.ints k c=>match a with
  |.ints k' c'=>ifK (decide (k'=k)) (VC (∀i,D i→c' (f i)=c i)∧K)
  |_=>False
 |.recs m c=>match a with
  |.recs m' c'=>ifK (aew m' m) (VC (∀i,D i→c' (f i)=c i)∧K)
  |_=>False
theorem rz {a b:RC} {D:Nat→Prop} {f:Nat→Nat} {K:Prop} (h:EB a b D f K):K∧a.kin b∧∀i,D i→a.at (f i)=b.at i:=by
 unfold EB at h;split at h
 ·split at h
  ·rw[aL]at h
   obtain⟨h1,⟨h2⟩,h3⟩:=h;have h1:=of_decide_eq_true h1;subst h1;exact⟨h3,rfl,fun i hi=>by simp only[RC.at];rw[h2 i hi]⟩
  ·exact h.elim
 ·split at h
  ·rw[aL]at h
   obtain⟨h1,⟨h2⟩,h3⟩:=h;have h1:=aeB h1;subst h1;exact⟨h3,rfl,fun i hi=>by simp only[RC.at];rw[h2 i hi]⟩
  ·exact h.elim
theorem gZ.cong {S:Imm} {w:World} {ι ι1:Ix} {k k1:Nat} {all l:List Nat} {rc:RC} (h:gZ S w ι k all l rc) (ho:ι1.o k1=ι.o k) (hx:ι1.x k1=ι.x k):gZ S w ι1 k1 all l rc:=by
 obtain⟨b,arr,e,h1,h2,h3,h4,h5,h6,h7,h8⟩:=h;exact⟨b,arr,e,ho.trans h1,h2,h3,h4,h5,fun b'=>by rw[hx];exact h6 b',h7,h8⟩
theorem gZ.with {S:Imm} {w:World} {ι:Ix} {k:Nat} {all l:List Nat} {rc rc':RC} (h:gZ S w ι k all l rc) (hr:∀b,b∈all→rc.at b=rc'.at b):gZ S w ι k all l rc':=by
 obtain⟨b,arr,e,h1,h2,h3,h4,h5,h6,h7,h8⟩:=h;refine⟨b,arr,e,h1,h2,h3,h4,h5,h6,fun r hm=>by rw[←hr r hm];exact h7 r hm,fun i hi=>?_⟩
 obtain⟨g1,cap,g2,g3⟩:=h8 i hi;rw[←hr _ g1];exact⟨g1,cap,g2,g3⟩
def Q6 (σ:Sg) (o o1:AO) (K:Prop):Prop:=
 match o1 with
 |.cells c1 fz1=>match o with
  |.cells c fz=>match fz1 with
   |true=>match fz with
    |true=>VC (c=c1)∧K
    |false=>False
   |false=>match fz with
    |true=>False
    |false=>Q0 σ c c1 K
  |_=>False
 |.tok m n=>match o with
  |.tok m' n'=>ifK (aew m' m) (VC (n'=n)∧K)
  |_=>False
 |.map es=>match o with
  |.map ds=>Q5 σ ds es K
  |_=>False
 |.dfr=>match o with
  |.dfr=>K
  |_=>False
 |.ext G pre=>match o with
  |.ext G' pre'=>VC (G'=G∧pre'=pre)∧K
  |_=>False
 |.mat all l rc=>match o with
  |.mat all' l' rc'=>VC (all'=all∧l'=l)∧EB rc' rc (fun b=>b∈all) (fun b=>b) K
  |_=>False
 |.pmat n rc=>match o with
  |.pmat n' rc'=>VC (n'=n)∧EB rc' rc (fun i=>i<n) (fun i=>i) K
  |.mat all l rc'=>VC (l.length=n∧l.Nodup∧∀b,b∈all→b∈l)∧EB rc' rc (fun i=>i<n) (fun i=>l.getD i 0) K
  |_=>False
 |.bld t e s=>match o with
  |.bld t' e' s'=>ifK (aew t' t&&aew e' e) (VC (s'=s)∧K)
  |_=>False
 |_=>False
def vR (σ:Sg) (H:Hp):Nat→Hp→Prop→Prop
 |_,[],K=>K
 |k1,o::r,K=>match o with
  |none=>iQ (k1+1) fun k2=>vR σ H k2 r K
  |some o1=>match sgB σ k1 with
   |some k=>bW H k fun o=>Q6 σ o o1 (iQ (k1+1) fun k2=>vR σ H k2 r K)
   |none=>match o1 with
    |.tok _ 0=>iQ (k1+1) fun k2=>vR σ H k2 r K
    |_=>False
def om {α:Type}:Option α→Bool|some _=>true|none=>false
def eqO:Option Nat→Nat→Bool|some a,b=>aew a b|none,_=>false
def Df (σ:Sg) (H H1:Hp):Sg→Bool
 | []=>true
 |(a,b)::r=>match eqO (sgB σ b) a&&eqO (sgF σ a) b&&(!om (ay H a)||om (ay H1 b))with|true=>Df σ H H1 r|false=>false
def K4 (σ:Sg) (H:Hp):Nat→Bool
 |0=>true
 |k+1=>match !om (ay H k)||eqO (sgB σ k) k with|true=>K4 σ H k|false=>false
def nH (σ:Sg) (p:Nat) (env:Env) (H:Hp) (env1:Env) (H1:Hp) (K:Prop):Prop:=
 ifK (Df σ H H1 σ&&K4 σ H p) (Dc σ env env1 (vR σ H 0 H1 K))
theorem Ac {o:Option Nat} {a:Nat}:eqO o a=true↔o=some a:=by
 cases o with
 |none=>simp[eqO]
 |some b=>simp[eqO,Nat.beq_eq]
theorem Hw {σ:Sg} {H H1:Hp}:∀{r:Sg},Df σ H H1 r=true→∀x∈r,sgB σ x.2=some x.1∧sgF σ x.1=some x.2∧((ay H x.1).isSome→(ay H1 x.2).isSome):=by
 intro r;induction r with
 |nil=>intro _ x hx;simp at hx
 |cons y r ih=>
  intro h x hx;obtain⟨a,b⟩:=y;simp only[Df]at h;split at h
  ·rename_i hb
   rcases afD.1 hx with e|hx
   ·subst e
    simp only[aeA,Ac,Bool.or_eq_true]at hb;refine⟨hb.1.1,hb.1.2,fun hs=>?_⟩;rcases hb.2 with h1|h1
    ·cases e:ay H a with
     |none=>rw[e]at hs;simp at hs
     |some o=>rw[e]at h1;simp[om]at h1
    ·cases e:ay H1 b with
     |none=>rw[e]at h1;simp[om]at h1
     |some o=>rfl
   ·exact ih h x hx
  ·cases h
theorem y7 {σ:Sg} {H:Hp}:∀{p:Nat},K4 σ H p=true→∀k,k<p→ay H k≠none→sgB σ k=some k:=by
 intro p;induction p with
 |zero=>intro _ k hk;omega
 |succ p ih=>
  intro h k hk hne;simp only[K4]at h;split at h
  ·rename_i hb
   by_cases e:k=p
   ·subst e
    cases hg:ay H k with
    |none=>exact absurd hg hne
    |some o=>rw[hg]at hb;simpa [om,Ac]using hb
   ·exact ih h k (by omega) hne
  ·cases h
theorem lY {σ:Sg} {k k1:Nat} (h:sgB σ k1=some k):(k,k1)∈σ:=by
 induction σ with
 |nil=>cases h
 |cons x r ih=>
  obtain⟨a,b⟩:=x;simp only[sgB]at h;cases hb:aew b k1 with
  |true=>rw[hb]at h;cases h;rw[aeB hb];simp
  |false=>rw[hb]at h;exact aek _ (ih h)
section
variable {σ:Sg} (hinj:∀x∈σ,sgB σ x.2=some x.1)
include hinj
theorem K5 {c c1:CL} {K:Prop} (h:Q0 σ c c1 K):K∧c1.ncell=c.ncell∧∀j,j<c.ncell→∀{S:Imm} {w:World} {ι:Ix} {v:Value},Rep S w ι (c.get j) v→Rep S w (ι.ren σ) (c1.get j) v:=by
 unfold Q0 at h;split at h
 ·split at h
  ·obtain⟨h,h1,h2⟩:=wJ hinj h
   exact⟨h,h1.symm,fun j _ S w ι v hr=>h2 j hr⟩
  ·exact h.elim
 ·split at h
  ·rw[aL]at h
   obtain⟨h1,⟨h2⟩,h3⟩:=h;have h1:=of_decide_eq_true h1;subst h1;subst h2;exact⟨h3,rfl,fun j _ S w ι v hr=>by cases hr;exact .int _ _ _⟩
  ·exact h.elim
 ·split at h
  ·obtain⟨⟨h2⟩,h3⟩:=h;subst h2
   exact⟨h3,rfl,fun j _ S w ι v hr=>by cases hr;exact .bp _ _⟩
  ·exact h.elim
 ·split at h
  ·obtain⟨⟨h2⟩,h3⟩:=h;subst h2
   exact⟨h3,rfl,fun j _ S w ι v hr=>by cases hr;exact .str _ _⟩
  ·exact h.elim
 ·split at h
  ·rw[aL]at h
   obtain⟨h1,⟨h2⟩,h3⟩:=h;have h1:=of_decide_eq_true h1;subst h1;subst h2;exact⟨h3,rfl,fun j _ S w ι v hr=>hr.toNoI.up _⟩
  ·exact h.elim
 ·split at h
  ·rename_i m' xs
   rw[aL]at h;obtain⟨h1,⟨h2,h4⟩,h3⟩:=h;have h1:=aeB h1;subst h1;subst h2;have ht:oI (.recs m' xs) (fun d=>d=.recs m' xs):=⟨h4,rfl⟩;obtain⟨d,rfl,d1,d2,d3⟩:=jC ht;exact⟨h3,rfl,fun j hj S w ι v hr=>(d3 j hj hr).up _⟩
  ·exact h.elim
 ·exact h.elim
theorem K6:∀{ds es:List (PV × PV)} {K:Prop},Q5 σ ds es K→K∧ds.length=es.length∧∀i (h:i<ds.length) (h':i<es.length) {S:Imm} {w:World} {ι:Ix} {u v:Value},
 Rep S w ι ds[i].1 u→Rep S w ι ds[i].2 v→Rep S w (ι.ren σ) es[i].1 u∧Rep S w (ι.ren σ) es[i].2 v:=by
 intro ds;induction ds with
 |nil=>intro es K h;cases es with
  |nil=>exact⟨h,rfl,fun i hi=>by simp at hi⟩
  |cons=>exact h.elim
 |cons d ds ih=>intro es K h;cases es with
  |nil=>exact h.elim
  |cons e es=>
   obtain⟨p,u⟩:=d;obtain⟨q,v⟩:=e;obtain⟨h,h1⟩:=ru hinj h;obtain⟨h,h2⟩:=ru hinj h;obtain⟨h,h3,h4⟩:=ih h;refine⟨h,by simp[h3],fun i hi hi' S w ι a b ha hb=>?_⟩
   cases i with
   |zero=>exact⟨h1 ha,h2 hb⟩
   |succ i=>exact h4 i (by simpa using hi) (by simpa using hi') ha hb
theorem K7 {o o1:AO} {K:Prop} (h:Q6 σ o o1 K):K∧o1.isTok=o.isTok∧o1.isExt=o.isExt∧o1.excl=o.excl∧∀{S:Imm} {w:World} {ι:Ix} {k k1:Nat},sgB σ k1=some k→gu S w ι k o→gu S w (ι.ren σ) k1 o1:=by
 have ko:∀{ι:Ix} {k k1 b:Nat},sgB σ k1=some k→ι.o k=some b→(ι.ren σ).o k1=some b:=fun h hb=>by simp[Ix.ren,h,hb]
 have kt:∀{ι:Ix} {k k1:Nat},sgB σ k1=some k→(ι.ren σ).t k1=ι.t k:=fun h=>by simp[Ix.ren,h]
 unfold Q6 at h;split at h
 ·split at h
  ·rename_i c1 fz1 c fz
   split at h
   ·split at h
    ·obtain⟨⟨h1⟩,h⟩:=h
     subst h1;exact⟨h,rfl,rfl,rfl,fun hk ⟨b,g1,g2⟩=>⟨b,ko hk g1,g2⟩⟩
    ·exact h.elim
   ·split at h
    ·exact h.elim
    ·obtain⟨h,h1,h2⟩:=K5 hinj h
     refine⟨h,rfl,rfl,rfl,fun hk ⟨b,arr,e,g1,g2,g3,g4,g5⟩=>⟨b,arr,e,ko hk g1,g2,by omega,fun j hj=>?_,g5⟩⟩
     have:=g4 j (by omega)
     exact h2 j (by omega) this
  ·exact h.elim
 ·split at h
  ·rw[aL]at h
   obtain⟨h1,⟨h2⟩,h⟩:=h;have h1:=aeB h1;subst h1;subst h2;refine⟨h,rfl,rfl,rfl,fun hk ⟨g1,g2⟩=>⟨fun hz=>by rw[kt hk];exact g1 hz,fun hz=>?_⟩⟩
   obtain⟨b,arr,e,q1,q2,q3⟩:=g2 hz;exact⟨b,arr,e,by rw[kt hk];exact q1,q2,q3⟩
  ·exact h.elim
 ·split at h
  ·obtain⟨h,h1,h2⟩:=K6 hinj h
   refine⟨h,rfl,rfl,rfl,fun hk ⟨b,ents,clock,g1,g2,g3,g4⟩=>⟨b,ents,clock,ko hk g1,g2,by omega,fun i hi hi'=>?_⟩⟩
   obtain⟨q1,q2⟩:=g4 i (by omega) hi'
   exact h2 i (by omega) hi q1 q2
  ·exact h.elim
 ·split at h
  ·exact⟨h,rfl,rfl,rfl,fun hk ⟨b,g1,g2⟩=>⟨b,ko hk g1,g2⟩⟩
  ·exact h.elim
 ·split at h
  ·obtain⟨⟨h1,h2⟩,h⟩:=h
   subst h1;subst h2;refine⟨h,rfl,rfl,rfl,fun{S w ι k k1} hk ⟨g1,g2,g3⟩=>?_⟩;have hx:(ι.ren σ).x k1=ι.x k:=by funext b;simp[Ix.ren,hk]
   exact⟨by rw[hx];exact g1,g2,by rw[hx];exact g3⟩
  ·exact h.elim
 ·split at h
  ·obtain⟨⟨h1,h2⟩,h⟩:=h
   subst h1;subst h2;obtain⟨h,h3,h4⟩:=rz h;refine⟨h,rfl,rfl,rfl,fun{S w ι k k1} hk hr=>?_⟩;have hx:(ι.ren σ).x k1=ι.x k:=by funext b;simp[Ix.ren,hk]
   have hr:gZ S w ι k _ _ _:=hr;exact(hr.cong (by simp[Ix.ren,hk]) hx).with h4
  ·exact h.elim
 ·split at h
  ·obtain⟨⟨h1⟩,h⟩:=h
   subst h1;obtain⟨h,h3,h4⟩:=rz h;refine⟨h,rfl,rfl,rfl,fun{S w ι k k1} hk hr=>?_⟩;have hx:(ι.ren σ).x k1=ι.x k:=by funext b;simp[Ix.ren,hk]
   obtain⟨all,l,rc',g1,g2,g3,g4,g6,g5⟩:=hr;exact⟨all,l,rc',g1.cong (by simp[Ix.ren,hk]) hx,RC.kin_trans g2 h3,g3,g4,g6,fun i hi=>(g5 i hi).trans (h4 i hi)⟩
  ·rename_i all l rc'
   obtain⟨⟨h1,h2,h6⟩,h⟩:=h;obtain⟨h,h3,h4⟩:=rz h;refine⟨h,rfl,rfl,rfl,fun{S w ι k k1} hk hr=>?_⟩;have hx:(ι.ren σ).x k1=ι.x k:=by funext b;simp[Ix.ren,hk]
   have hr:gZ S w ι k _ _ _:=hr;exact⟨all,l,rc',hr.cong (by simp[Ix.ren,hk]) hx,h3,h1,h2,h6,h4⟩
  ·exact h.elim
 ·split at h
  ·rw[aL,aeA]at h
   obtain⟨⟨h1,h2⟩,⟨h3⟩,h⟩:=h;have h1:=aeB h1;have h2:=aeB h2;subst h1;subst h2;subst h3;refine⟨h,rfl,rfl,rfl,fun{S w ι k k1} hk hr=>?_⟩;have hx:(ι.ren σ).x k1=ι.x k:=by funext b;simp[Ix.ren,hk]
   have hr:lM S w ι k _ _ _:=hr;exact hr.cong (by simp[Ix.ren,hk]) hx
  ·exact h.elim
 ·exact h.elim
theorem Hy {H:Hp}:∀{l:Hp} {k1:Nat} {K:Prop},vR σ H k1 l K→K∧∀i o1,ay l i=some o1→
 (∃k o,sgB σ (k1+i)=some k∧ay H k=some o∧o1.isTok=o.isTok∧o1.isExt=o.isExt∧o1.excl=o.excl∧∀{S:Imm} {w:World} {ι:Ix},gu S w ι k o→gu S w (ι.ren σ) (k1+i) o1)∨
 (sgB σ (k1+i)=none∧∃m,o1=.tok m 0):=by
 intro l;induction l with
 |nil=>intro k1 K h;exact⟨h,fun i o1 ho=>by simp[ay]at ho⟩
 |cons o l ih=>
  intro k1 K h;unfold vR at h;have shift:∀i,k1+1+i=k1+(i+1):=fun i=>by omega
  split at h
  ·rw[jh]at h
   obtain⟨h,h1⟩:=ih h;refine⟨h,fun i o1 ho=>?_⟩;cases i with
   |zero=>simp[ay]at ho
   |succ i=>rw[←shift];exact h1 i o1 ho
  ·rename_i o1
   split at h
   ·rename_i k hk
    rw[bg]at h;obtain⟨ob,hob,h⟩:=h;obtain⟨h,a1,a2,a3,a4⟩:=K7 hinj h;rw[jh]at h;obtain⟨h,h1⟩:=ih h;refine⟨h,fun i o2 ho=>?_⟩;cases i with
    |zero=>
     simp only[ay,Option.some.injEq]at ho;subst ho;exact .inl ⟨k,ob,hk,hob,a1,a2,a3,fun hh=>a4 hk hh⟩
    |succ i=>rw[←shift];exact h1 i o2 ho
   ·rename_i hk
    split at h
    ·rename_i m
     rw[jh]at h;obtain⟨h,h1⟩:=ih h;refine⟨h,fun i o2 ho=>?_⟩;cases i with
     |zero=>simp only[ay,Option.some.injEq]at ho;exact .inr ⟨hk,m,ho.symm⟩
     |succ i=>rw[←shift];exact h1 i o2 ho
    ·exact h.elim
end
theorem iV {B:Imm→World→Prop} {σ:Sg} {p:Nat} {env env1:Env} {H H1:Hp} {K:Prop} (h:nH σ p env H env1 H1 K):K∧Sub B p env H env1 H1:=by
 unfold nH at h;rw[aL,aeA]at h;obtain⟨⟨h1,h2⟩,h⟩:=h;have hs:=Hw h1;have hinj:∀x∈σ,sgB σ x.2=some x.1:=fun x hx=>(hs x hx).1;obtain⟨h,h3,h4⟩:=wJ hinj h;obtain⟨h,h5⟩:=Hy hinj h;simp only[aeC]at h5;refine⟨h,fun S0 w0 ι0 H0 a w hA=>?_⟩;obtain⟨S,ι,hb,M,R,D,D',T⟩:=hA.ex;have hfun:∀{k k1 k2:Nat},sgB σ k1=some k→sgB σ k2=some k→k1=k2:=fun e1 e2=>by
  have a1:=(hs _ (lY e1)).2.1;have a2:=(hs _ (lY e2)).2.1;simp only at a1 a2;rw[a1]at a2;exact Option.some.inj a2
 have hhas:∀{k k1:Nat} {o o1:AO} {b:Nat},sgB σ k1=some k→o1.isTok=o.isTok→o1.isExt=o.isExt→o1.excl=o.excl→(o1.has (ι.ren σ) k1 b↔o.has ι k b):=by
  intro k k1 o o1 b hk ht he hx;exact mW (by simp[Ix.ren,hk]) (by simp[Ix.ren,hk]) (by funext b;simp[Ix.ren,hk]) ht he hx b
 have hvirg:∀{k1 b m:Nat},sgB σ k1=none→¬(AO.tok m 0).has (ι.ren σ) k1 b:=by
  intro k1 b m hk hh;obtain⟨n,hh⟩:=hh;simp[Ix.ren,hk]at hh
 have hown:∀b,owned (ι.ren σ) H1 b→owned ι H b:=by
  rintro b ⟨k1,o1,g1,g2,g3⟩
  rcases h5 k1 o1 g1 with⟨k,o,q1,q2,q3,q4,q5,q6⟩|⟨q1,m,rfl⟩
  ·exact⟨k,o,q2,q5▸g2,(hhas q1 q3 q4 q5).1 g3⟩
  ·exact absurd g3 (hvirg q1)
 refine⟨S,ι.ren σ,hb,⟨?_,?_,?_,?_,M.imm⟩,⟨h3▸R.1,fun i hi=>h4 i (R.2 i (by omega))⟩,⟨fun d hd=>?_,D.nodup⟩,D',?_⟩
 ·intro k1 o1 g1
  rcases h5 k1 o1 g1 with⟨k,o,q1,q2,q3,q4,q5,q6⟩|⟨q1,m,rfl⟩
  ·exact q6 (M.obj k o q2)
  ·exact⟨fun _=>by simp[Ix.ren,q1],fun h=>by omega⟩
 ·intro k1 b g1
  cases e:sgB σ k1 with
  |none=>simp[Ix.ren,e]at g1
  |some k=>
   simp only[Ix.ren,e,afC]at g1;obtain⟨o,q1,q2⟩:=M.liveO k b g1;have hsome:=(hs _ (lY e)).2.2 (by simp[q1])
   obtain⟨o1,ho1⟩:=aem.1 hsome;rcases h5 k1 o1 ho1 with⟨k',o',r1,r2,r3,_⟩|⟨r1,_⟩
   ·rw[e]at r1;cases r1;rw[q1]at r2;cases r2;exact⟨o1,ho1,r3.trans q2⟩
   ·rw[e]at r1;cases r1
 ·intro k1 b g1
  cases e:sgB σ k1 with
  |none=>simp[Ix.ren,e]at g1
  |some k=>
   simp only[Ix.ren,e,afC]at g1;obtain⟨o,q1,q2⟩:=M.liveT k b g1;have hsome:=(hs _ (lY e)).2.2 (by simp[q1])
   obtain⟨o1,ho1⟩:=aem.1 hsome;rcases h5 k1 o1 ho1 with⟨k',o',r1,r2,r3,_⟩|⟨r1,_⟩
   ·rw[e]at r1;cases r1;rw[q1]at r2;cases r2;exact⟨o1,ho1,r3.trans q2⟩
   ·rw[e]at r1;cases r1
 ·intro k1 k2 o1 o2 b g1 g2 b1 b2
  rcases h5 k1 o1 g1 with⟨ka,oa,q1,q2,q3,q4,q5,q6⟩|⟨q1,m,rfl⟩
  ·rcases h5 k2 o2 g2 with⟨kb,ob,r1,r2,r3,r4,r5,r6⟩|⟨r1,m,rfl⟩
   ·have:=M.dist ka kb oa ob b q2 r2 ((hhas q1 q3 q4 q5).1 b1) ((hhas r1 r3 r4 r5).1 b2)
    subst this;exact hfun q1 r1
   ·exact absurd b2 (hvirg r1)
  ·exact absurd b1 (hvirg q1)
 ·obtain⟨b,q1,q2,q3⟩:=D.all d hd
  exact⟨b,q1,q2,fun hh=>q3 (hown b hh)⟩
 ·refine⟨T.below,T.same,T.keeps,T.immN,fun b hh=>T.own b (hown b hh),fun k hk b hi=>?_,fun k hk b n hi=>?_⟩
  ·have:=T.protO k hk b hi
   obtain⟨o,ho,_⟩:=M.liveO k b this;simp[Ix.ren,y7 h2 k hk (by rw[ho];simp),this]
  ·obtain⟨b',n',r1,r2⟩:=T.protT k hk b n hi
   obtain⟨o,ho,_⟩:=M.liveT k _ r1;exact⟨b',n',by simp[Ix.ren,y7 h2 k hk (by rw[ho];simp),r1],r2⟩
def Ad:List Oper→List Nat
 | []=>[]
 |o::r=>match o.dst with|some d=>d::Ad r|none=>Ad r
def dstsOf:Code→List Nat
 |.region _ ops _=>Ad ops.toList
 |.seq a b=>dstsOf a++dstsOf b
 |.cond _ a b=>dstsOf a++dstsOf b
 |.block _ c=>dstsOf c
 |.loop c=>dstsOf c
 |.scope c=>dstsOf c
 |.rangeFunc _ ps a b=>ps.toList++dstsOf a++dstsOf b
 |_=>[]
def Y2:Nat→Env→List Nat→Env
 |_,[],_=>[]
 |i,v::r,ds=>(match iq i ds with|true=>.any|false=>v)::Y2 (i+1) r ds
def Y3:Env→List (Nat × PV)→Env
 |env,[]=>env
 |env,(i,v)::r=>Y3 (env.set i v) r
def stE (c:Code) (env:Env) (us:List (Nat × PV)):Env:=Y3 (Y2 0 env (dstsOf c)) us
def kI (extra:Sg) (H:Hp):Nat→Hp→Sg
 |_,[]=>[]
 |k,o::r=>match o with
  |none=>kI extra H (k+1) r
  |some _=>match sgB extra k with
   |some a=>(a,k)::kI extra H (k+1) r
   |none=>match ay H k with
    |some _=>match sgF extra k with
     |none=>(k,k)::kI extra H (k+1) r
     |some _=>kI extra H (k+1) r
    |none=>kI extra H (k+1) r
def gy (σ:Sg) (K:Sg→Prop):Prop:=
 match σ with
 | []=>K []
 |(a,b)::r=>iQ a fun a=>iQ b fun b=>gy r fun r=>K ((a,b)::r)
theorem iL (σ:Sg) (K:Sg→Prop):gy σ K=K σ:=by
 induction σ generalizing K with
 |nil=>rfl
 |cons x r ih=>obtain⟨a,b⟩:=x;simp only[gy,jh,ih]
structure Nx (q:Prop):Prop where
 get:q
theorem nM {q:Prop} (h:q):Nx q:=⟨h⟩
structure Ok:Prop where
section
variable {P:Program} {r:Option Nat} {τ:TypeId→Option TE} {B:Imm→World→Prop} {p:Nat}
structure Walk (P:Program) (r:Option Nat) (B:Imm→World→Prop) (τ:TypeId→Option TE) (CP:CPT) (YP:YPT):Prop where
 hB:BOK B
 hm:P.follows .mixedOrders=true
 hτ:aV P τ
 hC:jy P B CP
 hY:jY P r B YP
theorem aM {X:Type} (I:X→Prop) (us:X→List (Nat × PV)) (hs:X→List (Nat × AO)) (μ:X→Nat) (x0:X) {md rf CP YP} (W:Walk P r B τ CP YP)
 {c:Code} {n:Nat} {Q:Exit→Env→Hp→Prop} {env:Env} {H:Hp} (hok:dI c=true) (hI:I x0)
 (h0:gq (hs x0) H fun H1=>bM (stE c env (us x0)) fun env1=>gy (kI [] H 0 H1) fun σ=>nH σ p env H env1 H1 Ok)
 (hb:∀x,I x→gq (hs x) H fun H1=>bM (stE c env (us x)) fun env1=>ev P r B p τ md rf CP YP c n env1 H1 fun e env' H' _=>match e with
  |.normal=>Nx (∃(x':X) (extra:Sg),(I x'∧μ x'<μ x)∧gq (hs x') H fun H1=>bM (stE c env (us x')) fun env1=>gy (kI extra H' 0 H1) fun σ=>nH σ p env' H' env1 H1 Ok)
  |e=>Q e env' H'):Lp md rf CP YP n (AW P r B p (.loop c) Q env H):=by
 refine⟨I4 (X:={x:X // I x}) (fun x=>(stE c env (us x.1),aX H (hs x.1))) (fun x=>μ x.1) ⟨x0,hI⟩ ?_ fun x=>?_⟩
 ·simp only[gK,bD,iL]at h0
  exact(iV h0).2
 ·have h:=hb x.1 x.2
  simp only[gK,bD,iL]at h;refine(iU W.hB W.hm W.hτ W.hC W.hY c hok _ _ _ _ h).mono ?_
  rintro e env' H' ⟨_,h⟩
  cases e with
  |normal=>
   obtain⟨x',extra,⟨h0,h1⟩,h2⟩:=h.get;exact⟨⟨x',h0⟩,h1,(iV h2).2⟩
  |_=>exact h
end
abbrev CT:=List PV→Nat→Hp→KR→Prop
def COK (P:Program) (g:FuncId) (C:CT):Prop:=∀args n H K,C args n H K→∃v sets accs news,K v sets accs news∧iK P g args H v sets accs news
def aA (g:FuncId) (C:CT) (CP:CPT):CPT:=fun f args n H K=>match aew f g with|true=>C args n H K|false=>CP f args n H K
theorem aj {P:Program} {g:FuncId} {C:CT} {CP:CPT} (h:COK P g C) (hC:aW P CP):aW P (aA g C CP):=by
 intro f args n H K hk;unfold aA at hk;cases hb:aew f g with
 |true=>rw[hb]at hk;rw[aeB hb];exact h _ _ _ _ hk
 |false=>rw[hb]at hk;exact hC _ _ _ _ _ hk
abbrev PSp:=List PV→(PV→Prop)→Prop
def POK (P:Program) (g:FuncId) (C:PSp):Prop:=∀as K,C as K→∃v,K v∧aF P g as v
def aB (C:PSp):CT:=fun args n H K=>pI args fun as=>C as fun v=>K v [] [] []
theorem au {P:Program} {g:FuncId} {C:PSp} (h:POK P g C):COK P g (aB C):=by
 intro args n H K hk;unfold aB pI at hk;split at hk
 ·rename_i as ha
  rw[bD]at hk;obtain⟨v,hK,hs⟩:=h _ _ hk;exact⟨v,[],[],[],hK,tY ha hs⟩
 ·exact hk.elim
end Go.Eng
namespace Go.Eng
structure Rn (md:Nat) (rf:List Nat) (CP:CPT) (YP:YPT) (n:Nat) (q:Prop):Prop where
 get:q
section
variable {P:Program} {r:Option Nat} {τ:TypeId→Option TE} {B:Imm→World→Prop} {p:Nat}
end
end Go.Eng
namespace Go.Eng
open Go.RowKit
set_option linter.unusedSimpArgs false
set_option linter.unusedVariables false
def rA (σ:Sg):List PV→Option (List PV)
 | []=>some []
 |x::xs=>match qX σ x with
  |some y=>match rA σ xs with
   |some ys=>some (y::ys)
   |none=>none
  |none=>none
theorem xq {S:Imm} {w:World} {σ:Sg} {ι ι1:Ix} (R:qY σ ι ι1):∀{ps qs:List PV},rA σ ps=some qs→qs.length=ps.length∧∀i,i<ps.length→∀{v:Value},Rep S w ι (aC ps i) v→Rep S w ι1 (aC qs i) v:=by
 intro ps;induction ps with
 |nil=>intro qs h;simp[rA]at h;subst h;exact⟨rfl,fun i hi=>by simp at hi⟩
 |cons p ps ih=>
  intro qs h;unfold rA at h;split at h
  ·rename_i y hy
   split at h
   ·rename_i ys hys
    cases h
    obtain⟨h1,h2⟩:=ih hys;refine⟨by simp[h1],fun i hi=>?_⟩
    cases i with
    |zero=>intro v hr;exact vQ R hy hr
    |succ i=>exact h2 i (by simpa using hi)
   ·cases h
  ·cases h
def y8 (σ:Sg):List (PV × PV)→Option (List (PV × PV))
 | []=>some []
 |(p,u)::xs=>match qX σ p with
  |some q=>match qX σ u with
   |some v=>match y8 σ xs with
    |some ys=>some ((q,v)::ys)
    |none=>none
   |none=>none
  |none=>none
theorem Q7 {S:Imm} {w:World} {σ:Sg} {ι ι1:Ix} (R:qY σ ι ι1):∀{ps qs:List (PV × PV)},y8 σ ps=some qs→qs.length=ps.length∧
 ∀i (h:i<ps.length) (h':i<qs.length),(∀{v:Value},Rep S w ι ps[i].1 v→Rep S w ι1 qs[i].1 v)∧(∀{v:Value},Rep S w ι ps[i].2 v→Rep S w ι1 qs[i].2 v):=by
 intro ps;induction ps with
 |nil=>intro qs h;simp[y8]at h;subst h;exact⟨rfl,fun i hi=>by simp at hi⟩
 |cons p ps ih=>
  intro qs h;obtain⟨p,u⟩:=p;unfold y8 at h;split at h
  ·rename_i q hq
   split at h
   ·rename_i y hy
    split at h
    ·rename_i ys hys
     cases h
     obtain⟨h1,h2⟩:=ih hys;refine⟨by simp[h1],fun i hi hi'=>?_⟩
     cases i with
     |zero=>exact⟨fun hr=>vQ R hq hr,fun hr=>vQ R hy hr⟩
     |succ i=>exact h2 i (by simpa using hi) (by simpa using hi')
    ·cases h
   ·cases h
  ·cases h
def rC (σ:Sg):AO→Option AO
 |.cells c fz=>match fz with
  |true=>some (.cells c true)
  |false=>match c with
   |.pv ds=>match rA σ ds with|some es=>some (.cells (.pv es) false)|none=>none
   |.ints k xs=>some (.cells (.ints k xs) false)
   |.bools xs=>some (.cells (.bools xs) false)
   |.strs xs=>some (.cells (.strs xs) false)
   |.rows k xs=>some (.cells (.rows k xs) false)
   |_=>none
 |.tok m n=>some (.tok m n)
 |.ext G pre=>some (.ext G pre)
 |.mat all l rc=>some (.mat all l rc)
 |.pmat n rc=>some (.pmat n rc)
 |.bld t e s=>some (.bld t e s)
 |.map es=>match y8 σ es with|some ds=>some (.map ds)|none=>none
 |_=>none
theorem rD {σ:Sg} {ι ι1:Ix} (R:qY σ ι ι1) {o o1:AO} (h:rC σ o=some o1) {S:Imm} {w:World} {k k1:Nat} (ho:ι1.o k1=ι.o k) (ht:ι1.t k1=ι.t k) (hx:ι1.x k1=ι.x k) (hr:gu S w ι k o):
 gu S w ι1 k1 o1∧o1.isTok=o.isTok∧o1.isExt=o.isExt∧o1.excl=o.excl:=by
 unfold rC at h;split at h
 ·rename_i c fz
  split at h
  ·cases h
   obtain⟨b,g1,g2⟩:=hr;exact⟨⟨b,ho.trans g1,g2⟩,rfl,rfl,rfl⟩
  ·obtain⟨b,arr,e,g1,g2,g3,g4,g5⟩:=hr
   have mk:∀c1:CL,c1.ncell=c.ncell→(∀j,j<c.ncell→∀v,Rep S w ι (c.get j) v→Rep S w ι1 (c1.get j) v)→gu S w ι1 k1 (.cells c1 false):=
    fun c1 hn hc=>⟨b,arr,e,ho.trans g1,g2,by omega,fun j hj=>hc j (by omega) _ (g4 j (by omega)),g5⟩
   split at h
   ·split at h
    ·rename_i ds es hes
     cases h
     obtain⟨q1,q2⟩:=xq R hes (S:=S) (w:=w);exact⟨mk _ q1 (fun j hj v hv=>q2 j hj hv),rfl,rfl,rfl⟩
    ·cases h
   ·cases h;exact⟨mk _ rfl (fun j hj v hv=>by cases hv;exact .int _ _ _),rfl,rfl,rfl⟩
   ·cases h;exact⟨mk _ rfl (fun j hj v hv=>by cases hv;exact .bp _ _),rfl,rfl,rfl⟩
   ·cases h;exact⟨mk _ rfl (fun j hj v hv=>by cases hv;exact .str _ _),rfl,rfl,rfl⟩
   ·cases h;exact⟨mk _ rfl (fun j hj v hv=>hv.toNoI.up _),rfl,rfl,rfl⟩
   ·cases h
 ·cases h
  obtain⟨g1,g2⟩:=hr;refine⟨⟨fun hz=>ht.trans (g1 hz),fun hz=>?_⟩,rfl,rfl,rfl⟩;obtain⟨b,arr,e,q1,q2,q3⟩:=g2 hz;exact⟨b,arr,e,ht.trans q1,q2,q3⟩
 ·cases h
  obtain⟨g1,g2,g3⟩:=hr;exact⟨⟨fun b hb=>g1 b (by rw[←hx];exact hb),g2,by rw[hx];exact g3⟩,rfl,rfl,rfl⟩
 ·cases h
  have hr:gZ S w ι k _ _ _:=hr;exact⟨hr.cong ho hx,rfl,rfl,rfl⟩
 ·cases h
  obtain⟨all,l,rc',g1,g2⟩:=hr;exact⟨⟨all,l,rc',g1.cong ho hx,g2⟩,rfl,rfl,rfl⟩
 ·cases h
  have hr:lM S w ι k _ _ _:=hr;exact⟨hr.cong ho hx,rfl,rfl,rfl⟩
 ·split at h
  ·rename_i ds hds
   cases h
   obtain⟨b,ents,clock,g1,g2,g3,g4⟩:=hr;obtain⟨q1,q2⟩:=Q7 (S:=S) (w:=w) R hds;exact⟨⟨b,ents,clock,ho.trans g1,g2,g3.trans q1.symm,fun i hl hl'=>⟨(q2 i (by omega) hl).1 (g4 i (by omega) hl').1,(q2 i (by omega) hl).2 (g4 i (by omega) hl').2⟩⟩,rfl,rfl,rfl⟩
  ·cases h
 ·cases h
structure oP (σ:Sg):Prop where
 b:∀x∈σ,sgB σ x.2=some x.1
 f:∀x∈σ,sgF σ x.1=some x.2
theorem oP.inj {σ:Sg} (h:oP σ) {k k1 k2:Nat} (e1:sgB σ k1=some k) (e2:sgB σ k2=some k):k1=k2:=by
 have a1:=h.f _ (lY e1);have a2:=h.f _ (lY e2);simp only at a1 a2;rw[a1]at a2;exact Option.some.inj a2
theorem oP.fb {σ:Sg} (h:oP σ) {k k':Nat} (e:sgF σ k=some k'):sgB σ k'=some k:=Ab e h.b
theorem oP.bf {σ:Sg} (h:oP σ) {k k':Nat} (e:sgB σ k'=some k):sgF σ k=some k':=h.f _ (lY e)
theorem Mem.lend {S:Imm} {w:World} {ι:Ix} {H H1:Hp} (M:Mem S w ι H) {σ:Sg} (hσ:oP σ) (hA:∀k1 o1,ay H1 k1=some o1→∃k o,sgB σ k1=some k∧ay H k=some o∧rC σ o=some o1)
 (hB:∀k k1,sgB σ k1=some k→(ay H k).isSome→(ay H1 k1).isSome):Mem S w (ι.ren σ) H1∧∀b,owned (ι.ren σ) H1 b→owned ι H b:=by
 have R:=pK hσ.b ι;have eo:∀{k k1},sgB σ k1=some k→(ι.ren σ).o k1=ι.o k:=fun h=>by simp[Ix.ren,h]
 have et:∀{k k1},sgB σ k1=some k→(ι.ren σ).t k1=ι.t k:=fun h=>by simp[Ix.ren,h]
 have ex:∀{k k1},sgB σ k1=some k→(ι.ren σ).x k1=ι.x k:=fun h=>by funext b;simp[Ix.ren,h]
 have all:∀k1 o1,ay H1 k1=some o1→∃k o,sgB σ k1=some k∧ay H k=some o∧gu S w (ι.ren σ) k1 o1∧o1.isTok=o.isTok∧o1.excl=o.excl∧∀b,o1.has (ι.ren σ) k1 b↔o.has ι k b:=by
  intro k1 o1 h1;obtain⟨k,o,q1,q2,q3⟩:=hA k1 o1 h1;obtain⟨r1,r2,r3,r5⟩:=rD R q3 (eo q1) (et q1) (ex q1) (M.obj k o q2);refine⟨k,o,q1,q2,r1,r2,r5,fun b=>?_⟩;exact mW (eo q1) (et q1) (ex q1) r2 r3 r5 b
 refine⟨⟨fun k1 o1 h1=>?_,fun k1 b h=>?_,fun k1 b h=>?_,fun k1 k2 o1 o2 b h1 h2 b1 b2=>?_,M.imm⟩,?_⟩
 ·obtain⟨k,o,_,_,r,_⟩:=all k1 o1 h1;exact r
 ·cases e:sgB σ k1 with
  |none=>simp[Ix.ren,e]at h
  |some k=>
   rw[eo e]at h;obtain⟨o,g1,g2⟩:=M.liveO k b h;obtain⟨o1,ho1⟩:=aem.1 (hB k k1 e (by simp[g1]))
   obtain⟨k',o',q1,q2,_,q3,_⟩:=all k1 o1 ho1;rw[e]at q1;cases q1;rw[g1]at q2;cases q2
   exact⟨o1,ho1,q3.trans g2⟩
 ·cases e:sgB σ k1 with
  |none=>simp[Ix.ren,e]at h
  |some k=>
   rw[et e]at h;obtain⟨o,g1,g2⟩:=M.liveT k b h;obtain⟨o1,ho1⟩:=aem.1 (hB k k1 e (by simp[g1]))
   obtain⟨k',o',q1,q2,_,q3,_⟩:=all k1 o1 ho1;rw[e]at q1;cases q1;rw[g1]at q2;cases q2
   exact⟨o1,ho1,q3.trans g2⟩
 ·obtain⟨ka,oa,p1,p2,_,_,_,p3⟩:=all k1 o1 h1
  obtain⟨kb,ob,q1,q2,_,_,_,q3⟩:=all k2 o2 h2;have:=M.dist ka kb oa ob b p2 q2 ((p3 b).1 b1) ((q3 b).1 b2);subst this;exact hσ.inj p1 q1
 ·rintro b ⟨k1,o1,h1,h2,h3⟩
  obtain⟨k,o,p1,p2,_,_,p4,p3⟩:=all k1 o1 h1;exact⟨k,o,p2,p4▸h2,(p3 b).1 h3⟩
def Ix.merge (ι ιl:Ix) (σ:Sg):Ix:=
 ⟨fun k=>match sgB σ k with|some i=>ιl.o i|none=>ι.o k,fun k=>match sgB σ k with|some i=>ιl.t i|none=>ι.t k,fun k=>match sgB σ k with|some i=>ιl.x i|none=>ι.x k⟩
theorem wK {σ:Sg} (hσ:oP σ) (ι ιl:Ix):qY σ ιl (ι.merge ιl σ):=
 ⟨fun k k' b h hb=>by simp[Ix.merge,hσ.fb h,hb],fun k k' b h hb=>by simp[Ix.merge,hσ.fb h,hb]⟩
theorem Mem.back {S S':Imm} {w w':World} {ι ιl':Ix} {H HL HL' H'':Hp} {σ τn:Sg} {m:Nat} (M:Mem S w ι H) (hσ:oP σ) (hτ:oP τn) (M':Mem S' w' ιl' HL') (T:Tr m S w (ι.ren τn) HL S' w' ιl' HL')
 (hown:∀b,owned (ι.ren τn) HL b→owned ι H b)
 (hlent:∀i k,sgB σ k=some i→(∃o',ay HL' i=some o')∧((i<m∧sgB τn i=some k)∨ay H k=none))
 (hleft:∀k,sgB σ k=none→ay H'' k=ay H k∧∀i,sgB τn i≠some k)
 (hback:∀i k,sgB σ k=some i→∃o' o'',ay HL' i=some o'∧rC σ o'=some o''∧ay H'' k=some o'')
 (hLown:∀b,owned (ι.ren τn) HL b→∃i k,sgB τn i=some k∧i<m∧∃o,ay H k=some o∧o.has ι k b):
 Mem S' w' (ι.merge ιl' σ) H''∧ι.le (ι.merge ιl' σ)∧∀p,Tr p S w ι H S' w' (ι.merge ιl' σ) H'':=by
 have R:=wK hσ ι ιl';have eo:∀{i k},sgB σ k=some i→(ι.merge ιl' σ).o k=ιl'.o i:=fun h=>by simp[Ix.merge,h]
 have et:∀{i k},sgB σ k=some i→(ι.merge ιl' σ).t k=ιl'.t i:=fun h=>by simp[Ix.merge,h]
 have no:∀{k},sgB σ k=none→(ι.merge ιl' σ).o k=ι.o k:=fun h=>by simp[Ix.merge,h]
 have nt:∀{k},sgB σ k=none→(ι.merge ιl' σ).t k=ι.t k:=fun h=>by simp[Ix.merge,h]
 have ex:∀{i k},sgB σ k=some i→(ι.merge ιl' σ).x k=ιl'.x i:=fun h=>by simp[Ix.merge,h]
 have nx:∀{k},sgB σ k=none→(ι.merge ιl' σ).x k=ι.x k:=fun h=>by simp[Ix.merge,h]
 have le:ι.le (ι.merge ιl' σ):=by
  refine⟨fun k b hb=>?_,fun k b n hb=>?_⟩
  ·cases e:sgB σ k with
   |none=>rw[no e];exact hb
   |some i=>
    rw[eo e];rcases(hlent i k e).2 with⟨h1,h2⟩|h2
    ·exact T.protO i h1 b (by simp[Ix.ren,h2,hb])
    ·rw[M.none_o h2]at hb;cases hb
  ·cases e:sgB σ k with
   |none=>rw[nt e];exact⟨b,n,hb,.inl ⟨rfl,aea _⟩⟩
   |some i=>
    rw[et e];rcases(hlent i k e).2 with⟨h1,h2⟩|h2
    ·exact T.protT i h1 b n (by simp[Ix.ren,h2,hb])
    ·rw[M.none_t h2]at hb;cases hb
 have away:∀k o b,sgB σ k=none→ay H k=some o→o.has ι k b→b<w.heap.size∧¬owned (ι.ren τn) HL b:=by
  intro k o b hk ho hb;refine⟨(M.obj k o ho).lt hb,fun h=>?_⟩;obtain⟨i,k',q1,q2,o',q3,q4⟩:=hLown b h;have:=M.dist k k' o o' b ho q3 hb q4;subst this;exact(hleft k hk).2 i q1
 have inn:∀i k o'',sgB σ k=some i→ay H'' k=some o''→∃o',ay HL' i=some o'∧gu S' w' (ι.merge ιl' σ) k o''∧o''.isTok=o'.isTok∧o''.excl=o'.excl∧∀b,o''.has (ι.merge ιl' σ) k b↔o'.has ιl' i b:=by
  intro i k o'' hk h'';obtain⟨o',o2,p1,p2,p3⟩:=hback i k hk;rw[h'']at p3;cases p3
  obtain⟨r1,r2,r3,r5⟩:=rD R p2 (eo hk) (et hk) (ex hk) (M'.obj i o' p1);refine⟨o',p1,r1,r2,r5,fun b=>?_⟩;exact mW (eo hk) (et hk) (ex hk) r2 r3 r5 b
 have nhas:∀{k o b},sgB σ k=none→(AO.has (ι.merge ιl' σ) k o b↔AO.has ι k o b):=by
  intro k o b hk;cases o<;>simp[AO.has,no hk,nt hk,nx hk]
 have mixed:∀i k1 k2 o1 o2 b,sgB σ k1=some i→sgB σ k2=none→ay H'' k1=some o1→ay H k2=some o2→o1.has (ι.merge ιl' σ) k1 b→o2.has ι k2 b→False:=by
  intro i k1 k2 o1 o2 b e1 e2 h1 h2 b1 b2;obtain⟨hlt,hno⟩:=away k2 o2 b e2 h2 b2;obtain⟨o',p1,_,p3,p4,p5⟩:=inn i k1 o1 e1 h1;have hb':=(p5 b).1 b1;rcases T.own b ⟨i,o',p1,oM hb',hb'⟩with h|h
  ·exact hno h
  ·omega
 refine⟨⟨fun k o'' h''=>?_,fun k b hb=>?_,fun k b hb=>?_,fun k1 k2 o1 o2 b h1 h2 b1 b2=>?_,M'.imm⟩,le,fun p=>⟨T.below,fun b hb ho=>T.same b hb (fun h=>ho (hown b h)),T.keeps,fun b j hb hs=>Or.imp id (hown b) (T.immN b j hb hs),?_,fun k _ b hb=>le.o k b hb,fun k _ b n hb=>le.t k b n hb⟩⟩
 ·cases e:sgB σ k with
  |some i=>obtain⟨_,_,r,_⟩:=inn i k o'' e h'';exact r
  |none=>
   rw[(hleft k e).1]at h'';exact(M.obj k o'' h'').mono T.keeps le T.below (fun b hb=>T.same b (away k o'' b e h'' hb).1 (away k o'' b e h'' hb).2) (fun _=>nt e) (nx e)
    (fun b j hb hs=>(T.immN b j (away k o'' b e h'' hb).1 hs).resolve_right (away k o'' b e h'' hb).2)
 ·cases e:sgB σ k with
  |some i=>
   rw[eo e]at hb;obtain⟨o',g1,g2⟩:=M'.liveO i b hb;obtain⟨o2,o'',p1,p2,p3⟩:=hback i k e;obtain⟨o3,q1,_,q3,_⟩:=inn i k o'' e p3;rw[g1]at q1;cases q1
   exact⟨o'',p3,q3.trans g2⟩
  |none=>rw[no e]at hb;rw[(hleft k e).1];exact M.liveO k b hb
 ·cases e:sgB σ k with
  |some i=>
   rw[et e]at hb;obtain⟨o',g1,g2⟩:=M'.liveT i b hb;obtain⟨o2,o'',p1,p2,p3⟩:=hback i k e;obtain⟨o3,q1,_,q3,_⟩:=inn i k o'' e p3;rw[g1]at q1;cases q1
   exact⟨o'',p3,q3.trans g2⟩
  |none=>rw[nt e]at hb;rw[(hleft k e).1];exact M.liveT k b hb
 ·cases e1:sgB σ k1 with
  |some i1=>
   cases e2:sgB σ k2 with
   |some i2=>
    obtain⟨oa,p1,_,_,_,p5⟩:=inn i1 k1 o1 e1 h1;obtain⟨ob,q1,_,_,_,q5⟩:=inn i2 k2 o2 e2 h2;have:=M'.dist i1 i2 oa ob b p1 q1 ((p5 b).1 b1) ((q5 b).1 b2);subst this;exact hσ.inj e1 e2
   |none=>rw[(hleft k2 e2).1]at h2;exact(mixed i1 k1 k2 o1 o2 b e1 e2 h1 h2 b1 ((nhas e2).1 b2)).elim
  |none=>
   rw[(hleft k1 e1).1]at h1;cases e2:sgB σ k2 with
   |some i2=>exact(mixed i2 k2 k1 o2 o1 b e2 e1 h2 h1 b2 ((nhas e1).1 b1)).elim
   |none=>rw[(hleft k2 e2).1]at h2;exact M.dist k1 k2 o1 o2 b h1 h2 ((nhas e1).1 b1) ((nhas e2).1 b2)
 ·rintro b ⟨k,o'',h1,h2,h3⟩
  cases e:sgB σ k with
  |some i=>
   obtain⟨o',p1,_,_,p4,p5⟩:=inn i k o'' e h1;exact(T.own b ⟨i,o',p1,p4▸h2,(p5 b).1 h3⟩).imp (hown b) id
  |none=>rw[(hleft k e).1]at h1;exact .inl ⟨k,o'',h1,h2,(nhas e).1 h3⟩
def eH (l:List AO):Hp:=l.map some
theorem iM (l:List AO):∀k,ay (eH l) k=l[k]? :=by
 induction l with
 |nil=>intro k;rfl
 |cons o r ih=>intro k;cases k with
  |zero=>rfl
  |succ k=>exact ih k
def y9 (P:Program) (B:Imm→World→Prop) (g:FuncId) (args:List PV) (objs:List AO) (rs:List PV) (objs':List AO):Prop:=
 ∀(S:Imm) (w:World) (ι:Ix) (vs:Array Value),B S w→Mem S w ι (eH objs)→bC S w ι args vs→
  CallsIn (Fw none) 0 P g vs w fun e w'=>∃val S' ι',e=.returned val∧Mem S' w' ι' (eH objs')∧Rep S' w' ι' (bF rs) val∧Tr objs.length S w ι (eH objs) S' w' ι' (eH objs')
def gL (P:Program) (g:FuncId) (args:List PV) (objs:List AO) (rs:List PV) (objs':List AO):Prop:=Enters P g∧y9 P jX g args objs rs objs'
def TU (τ:TypeId→Option TE) (fn:Func) (m:Nat) (extra:Sg) (rs:List PV) (objs':List AO) (e:Exit) (env:Env) (H:Hp):Prop:=
 match e with
 |.normal=>kH τ fn.results.toList env H fun vs=>gy (kI extra H 0 (eH objs')) fun σ=>nH σ m vs H rs (eH objs') Ok
 |.ret=>kH τ fn.results.toList env H fun vs=>gy (kI extra H 0 (eH objs')) fun σ=>nH σ m vs H rs (eH objs') Ok
 |_=>False
theorem K8 {S:Imm} {w:World} {ι:Ix} {us:List PV} {vals:List Value} (hlen:us.length=vals.length) (h:∀i,i<us.length→Rep S w ι (aC us i) (vals.getD i undef)):
 Rep S w ι (bF us) (if h:vals.toArray.size=1 then vals.toArray[0]else .tuple vals.toArray):=by
 match us,vals,hlen,h with
 | [],[],_,_=>exact .tup _ _ _ rfl (fun i hi=>by simp at hi)
 | [u],[x],_,h=>simpa [bF,aC]using h 0 (by simp)
 |u::u'::us,x::x'::xs,hlen,h=>
  have:¬(x::x'::xs).toArray.size=1:=by simp
  rw[dif_neg this];refine .tup _ _ _ (by simpa using hlen) (fun i hi=>?_)
  have:=h i hi;rw[aej];simpa using this
section
variable {P:Program} {τ:TypeId→Option TE} {B:Imm→World→Prop}
theorem wL (hB:BOK B) (hτ:aV P τ) {g:FuncId} {fn:Func} {c:Code} {args rs:List PV} {objs objs':List AO} {extra:Sg} (hf:P.funcs[g]? =some fn) (hb:fn.body=some c)
 (h:AW P none B objs.length c (TU τ fn objs.length extra rs objs') (args++kD (fn.ntmps-args.length)) (eH objs)):y9 P B g args objs rs objs':=by
 intro S w ι vs hBw M hr;have hA:At B objs.length S w ι (eH objs) (args++kD (fn.ntmps-args.length)) (eH objs) {tmps:=vs++afN (fn.ntmps-vs.size) undef,defers:=[]} w:=
  ⟨S,ι,hBw,M,by rw[hr.1];exact xg hr _,.nil _ _ _,fun d hd=>by simp at hd,.refl _ _ _ _ _⟩
 refine callsIn_of_wp_marks hf hb trivial (wpIn_mono (h S w ι (eH objs) _ w hA) ?_)
 rintro e ⟨tmps,ds⟩ w1 ⟨env',H',q,hA1⟩
 have fin:(kH τ fn.results.toList env' H' fun vs=>gy (kI extra H' 0 (eH objs')) fun σ=>nH σ objs.length vs H' rs (eH objs') Ok)→
  LeavesInM (Fw none) 0 P fn tmps (fun e w'=>∃val S' ι',e=.returned val∧Mem S' w' ι' (eH objs')∧Rep S' w' ι' (bF rs) val∧Tr objs.length S w ι (eH objs) S' w' ι' (eH objs')) ds .returning w1:=by
  intro q;refine At.leave hB ds w1 hA1 fun w2 hA2=>?_;obtain⟨S2,ι2,hb2,M2,R2,D2,D2',T2⟩:=hA2.ex;obtain⟨vs1,q,hs⟩:=qW (P:=P) hτ _ q;rw[iL]at q;obtain⟨vals,r1,r2,r3⟩:=hs M2 R2;have hA3:At B objs.length S w ι (eH objs) vs1 H' {tmps:=vals.toArray,defers:=[]} w2:=
   ⟨S2,ι2,hb2,M2,⟨by simp[r2],fun i hi=>by have:=r3 i hi;simpa [aej]using this⟩,D2,D2',T2⟩
  have hA4:=(iV (B:=B) q).2 _ _ _ _ _ _ hA3;obtain⟨S4,ι4,hb4,M4,R4,_,_,T4⟩:=hA4.ex;have hrun:(results fn tmps).run P w2=.ok (if h:vals.toArray.size=1 then vals.toArray[0]else .tuple vals.toArray) w2:=by
   unfold results;rw[Sem.run_bind,afO,←bind_pure_comp,Sem.run_bind];have:(afP (fun(x:ResultVar)=>(match x with|.tmp t=>pure (tmps.getD t undef)|.cell a t=>do loadVar t (←asAddr (tmps.getD a undef)):Sem Value)) fn.results.toList).run P w2=.ok vals w2:=r1
   erw [this]
   simp only[Result.andThen,Function.comp,Sem.run_pure]
  refine⟨_,hrun,_,S4,ι4,rfl,M4,?_,T4⟩;have h1:=R4.1;have h2:=R4.2;exact K8 (by simpa using h1) (fun i hi=>by have:=h2 i hi;simpa [aej]using this)
 cases e with
 |normal=>exact fin q
 |ret=>exact fin q
 |_=>exact q.elim
end
def ug (P:Program) (B:Imm→World→Prop) (τ:TypeId→Option TE) (md:Nat) (rf:List Nat) (CP:CPT) (YP:YPT) (fn:Func) (args:List PV) (objs:List AO) (n0:Nat) (extra:Sg) (rs:List PV) (objs':List AO):Prop:=
 ev P none B objs.length τ md rf CP YP (fn.body.getD .skip) n0 (args++kD (fn.ntmps-args.length)) (eH objs) fun e env H _=>TU τ fn objs.length extra rs objs' e env H
theorem bG {P:Program} {τ:TypeId→Option TE} (hm:P.follows .mixedOrders=true) (hτ:aV P τ) {md rf CP} (hC:aW P CP) {g:FuncId} {fn:Func} {args rs:List PV} {objs objs':List AO} (n0:Nat) (extra:Sg)
 (hf:P.funcs[g]? =some fn) (hn:(fn.name== "runtime.NumGoroutine")=false) (hb:fn.body.isSome=true) (hok:dI (fn.body.getD .skip)=true)
 (h:ug P jX τ md rf CP noY fn args objs n0 extra rs objs'):gL P g args objs rs objs':=by
 refine⟨enters hf hn (by cases h:fn.body<;>simp_all),?_⟩
 obtain⟨c,hc⟩:=aem.1 hb;unfold ug at h;rw[hc]at h hok;exact wL aK hτ hf hc ((iU aK hm hτ hC aQ c hok _ _ _ _ h).mono fun e env H ⟨n,h⟩=>h)
def Y4:PV→List Nat
 |.rsl k _ _=>[k]
 |.rp k _=>[k]
 |.rpe k _ _ _=>[k]
 |.rm k=>[k]
 |.yld k=>[k]
 |.row k _ _=>[k]
 |.rowp k _ _ _ _=>[k]
 |.isl _ t=>match t with
  |.own k=>[k]
  |_=>[]
 |_=>[]
def za:List PV→List Nat
 | []=>[]
 |x::xs=>Y4 x++za xs
def acu:PV→List Nat
 |.agg cs=>za cs
 |.tup cs=>za cs
 |.fn _ us vs=>za us++za vs
 |p=>Y4 p
def Dg:List PV→List Nat
 | []=>[]
 |x::xs=>acu x++Dg xs
def acv:AO→List Nat
 |.cells c _=>match c with
  |.pv ds=>Dg ds
  |_=>[]
 |_=>[]
def ze (H:Hp):Nat→List Nat→List Nat→List Nat
 |0,_,done=>done
 |_+1,[],done=>done
 |f+1,k::r,done=>match iq k done with
  |true=>ze H f r done
  |false=>match ay H k with
   |some o=>ze H f (r++acv o) (done++[k])
   |none=>ze H f r done
def lZ:List Nat→Nat→Sg
 | [],_=>[]
 |k::r,j=>(k,j)::lZ r (j+1)
def zf:Sg→Sg
 | []=>[]
 |(a,b)::r=>(b,a)::zf r
def oo (σ:Sg):Sg→Bool
 | []=>true
 |(a,b)::r=>match eqO (sgB σ b) a&&eqO (sgF σ a) b with|true=>oo σ r|false=>false
theorem sN {σ:Sg}:∀{r:Sg},oo σ r=true→∀x∈r,sgB σ x.2=some x.1∧sgF σ x.1=some x.2:=by
 intro r;induction r with
 |nil=>intro _ x hx;simp at hx
 |cons y r ih=>
  intro h x hx;obtain⟨a,b⟩:=y;simp only[oo]at h;split at h
  ·rename_i hb
   rcases afD.1 hx with e|hx
   ·subst e
    simp only[aeA,Ac]at hb;exact hb
   ·exact ih h x hx
  ·cases h
theorem Oe {σ:Sg} (h:oo σ σ=true):oP σ:=⟨fun x hx=>(sN h x hx).1,fun x hx=>(sN h x hx).2⟩
theorem Q8:∀(ks:List Nat) (j x:Nat),sgB (lZ ks j) (j+x)=ks[x]? :=by
 intro ks;induction ks with
 |nil=>intro j x;rfl
 |cons k r ih=>
  intro j x;simp only[lZ,sgB];cases x with
  |zero=>simp
  |succ x=>
   have:aew j (j+(x+1))=false:=by
    cases hb:aew j (j+(x+1))with
    |false=>rfl
    |true=>have:=aeB hb;omega
   rw[this];have:=ih (j+1) x;simp only[List.getElem?_cons_succ];rw[←this];congr 1;omega
theorem l5 (ks:List Nat) (x:Nat):sgB (lZ ks 0) x=ks[x]? :=by
 have:=Q8 ks 0 x;simpa using this
theorem EC (σ:Sg) (x:Nat):sgF (zf σ) x=sgB σ x:=by
 induction σ with
 |nil=>rfl
 |cons y r ih=>obtain⟨a,b⟩:=y;simp only[zf,sgF,sgB,ih]
def Dh (σ:Sg) (H:Hp):List Nat→(List AO→Prop)→Prop
 | [],K=>K []
 |k::r,K=>bW H k fun o=>match rC σ o with
  |some o1=>Dh σ H r fun os=>K (o1::os)
  |none=>False
theorem Hz {σ:Sg} {H:Hp}:∀{ks:List Nat} {K:List AO→Prop},Dh σ H ks K→∃os,K os∧os.length=ks.length∧∀(i k:Nat),ks[i]? =some k→∃o o1,ay H k=some o∧rC σ o=some o1∧os[i]? =some o1:=by
 intro ks;induction ks with
 |nil=>intro K h;exact⟨_,h,rfl,fun i k hk=>by simp at hk⟩
 |cons k r ih=>
  intro K h;unfold Dh at h;rw[bg]at h;obtain⟨o,ho,h⟩:=h;split at h
  ·rename_i o1 h1
   obtain⟨os,hK,hl,hs⟩:=ih h;refine⟨_,hK,by simp[hl],fun i k' hk=>?_⟩
   cases i with
   |zero=>simp at hk;subst hk;exact⟨o,o1,ho,h1,by simp⟩
   |succ i=>obtain⟨a,b,c1,c2,c3⟩:=hs i k' (by simpa using hk);exact⟨a,b,c1,c2,by simpa using c3⟩
  ·exact h.elim
def Di (σ:Sg):List Nat→List AO→(List (Nat × AO)→Prop)→Prop
 | [],[],K=>K []
 |k::ks,o::os,K=>match rC σ o with
  |some o1=>Di σ ks os fun r=>K ((k,o1)::r)
  |none=>False
 |_,_,_=>False
theorem HV {σ:Sg}:∀{ks:List Nat} {os:List AO} {K:List (Nat × AO)→Prop},Di σ ks os K→∃sets,K sets∧os.length=ks.length∧keys sets=ks∧
 ∀(i k:Nat),ks[i]? =some k→∃o o1,os[i]? =some o∧rC σ o=some o1∧(k,o1)∈sets:=by
 intro ks;induction ks with
 |nil=>intro os K h;cases os with
  |nil=>exact⟨_,h,rfl,rfl,fun i k hk=>by simp at hk⟩
  |cons=>exact h.elim
 |cons k r ih=>intro os K h;cases os with
  |nil=>exact h.elim
  |cons o os=>
   unfold Di at h;split at h
   ·rename_i o1 h1
    obtain⟨sets,hK,hl,hk,hs⟩:=ih h;refine⟨_,hK,by simp[hl],by simp[keys]at hk⊢;exact hk,fun i k' hk'=>?_⟩
    cases i with
    |zero=>simp at hk';subst hk';exact⟨o,o1,by simp,h1,by simp⟩
    |succ i=>obtain⟨a,b,c1,c3,c4⟩:=hs i k' (by simpa using hk');exact⟨a,b,by simpa using c1,c3,aek _ c4⟩
   ·exact h.elim
theorem ED:∀{sets:List (Nat × AO)} {H:Hp} {k:Nat} {o:AO},(∀(i j k:Nat),(keys sets)[i]? =some k→(keys sets)[j]? =some k→i=j)→(k,o)∈sets→ay (aX H sets) k=some o:=by
 intro sets;induction sets with
 |nil=>intro H k o _ h;simp at h
 |cons x r ih=>
  intro H k o hn h;obtain⟨k0,o0⟩:=x;have h0:k0∉keys r:=fun hm=>by
   obtain⟨j,hj⟩:=afR.1 hm;have:=hn 0 (j+1) k0 (by simp[keys]) (by simpa [keys]using hj)
   omega
  have hr:∀(i j k:Nat),(keys r)[i]? =some k→(keys r)[j]? =some k→i=j:=fun i j k hi hj=>by
   have:=hn (i+1) (j+1) k (by simpa [keys]using hi) (by simpa [keys]using hj)
   omega
  rcases afD.1 h with e|h
  ·cases e
   simp only[aX];rw[jD h0,aY];simp
  ·exact ih hr h
def Dj:Nat→Nat→(List Nat→Prop)→Prop
 |_,0,K=>K []
 |n,d+1,K=>iQ n fun n=>Dj (n+1) d fun r=>K (n::r)
def Dk:Nat→Nat→List Nat
 |_,0=>[]
 |n,d+1=>n::Dk (n+1) d
theorem Q9 (n d:Nat) (K:List Nat→Prop):Dj n d K=K (Dk n d):=by
 induction d generalizing n K with
 |zero=>rfl
 |succ d ih=>simp only[Dj,Dk,jh,ih]
def K9 (σ:Sg) (rs:List PV) (K:PV→Prop):Prop:=match rA σ rs with|some us=>bM us fun us=>K (bF us)|none=>False
theorem HY {σ:Sg} {rs:List PV} {K:PV→Prop} (h:K9 σ rs K):∃v,K v∧∀{ι ι1:Ix},qY σ ι ι1→∀{S:Imm} {w:World} {val:Value},Rep S w ι (bF rs) val→Rep S w ι1 v val:=by
 unfold K9 at h;split at h
 ·rename_i us hu
  rw[bD]at h;refine⟨_,h,fun{ι ι1} R {S w val} hr=>?_⟩;obtain⟨h1,h2⟩:=xq R hu (S:=S) (w:=w)
  match rs,us,h1,h2,hr with
  | [],[],_,_,hr=>cases hr with|tup _ _ vs hl hh=>exact .tup _ _ _ hl (fun i hi=>by simp at hi)
  | [r],[u],_,h2,hr=>exact h2 0 (by simp) hr
  |r::r'::rs,u::u'::us,h1,h2,hr=>cases hr with|tup _ _ vs hl hh=>exact .tup _ _ _ (h1.trans hl) (fun i hi=>h2 i (by omega) (hh i (by omega)))
 ·exact h.elim
abbrev LSp:=List PV→List AO→(List PV→List AO→Prop)→Prop
def LOK (P:Program) (g:FuncId) (L:LSp):Prop:=∀as objs K,L as objs K→∃rs objs',K rs objs'∧gL P g as objs rs objs'
def vS (H:Hp):List Nat→Prop→Prop
 | [],K=>K
 |k::r,K=>d9 H k (vS H r K)
def Y5:PV→PV
 |.isl c t=>match t with
  |.full=>.isl c .none
  |t=>.isl c t
 |p=>p
def rE:List PV→List PV
 | []=>[]
 |x::xs=>Y5 x::rE xs
theorem pO:∀(ps:List PV),(rE ps).length=ps.length∧∀i {S:Imm} {w:World} {ι:Ix} {v:Value},Rep S w ι (aC ps i) v→Rep S w ι (aC (rE ps) i) v:=by
 intro ps;induction ps with
 |nil=>exact⟨rfl,fun i _ _ _ _ h=>h⟩
 |cons p ps ih=>
  refine⟨by simp[rE,ih.1],fun i S w ι v h=>?_⟩
  cases i with
  |zero=>
   simp only[aC,rE]at h⊢;unfold Y5;split
   ·split
    ·exact h.drop
    ·exact h
   ·exact h
  |succ i=>exact ih.2 i h
def dP (ks0:List Nat) (L:LSp):CT:=fun args n H K=>
 oh (ze H 60 (ks0++Dg args) []) fun ks=>gy (lZ ks 0) fun σ=>ifK (oo σ σ) (match rA σ args with
  |some as=>bM (rE as) fun as=>Dh σ H ks fun objs=>L as objs fun rs objs'=>
   Dj n (objs'.length-ks.length) fun ns=>vS H ns (oh (ks++ns) fun kn=>gy (zf (lZ kn 0)) fun σ'=>ifK (oo σ' σ') (Di σ' kn objs' fun sets=>K9 σ' rs fun v=>K v sets ks ns))
  |none=>False)
theorem Cz {H:Hp}:∀{ns:List Nat} {K:Prop},vS H ns K→K:=by
 intro ns;induction ns with
 |nil=>intro K h;exact h
 |cons k r ih=>
  intro K h;unfold vS d9 at h;split at h
  ·exact ih h
  ·exact h.elim
theorem cu {P:Program} {g:FuncId} {L:LSp} (ks0:List Nat) (h:LOK P g L):COK P g (dP ks0 L):=by
 intro args n H K hk;unfold dP at hk;simp only[yX,iL,bD,Q9]at hk;generalize ze H 60 (ks0++Dg args) []=ks at hk
 rw[aL]at hk;obtain⟨hg,hk⟩:=hk;split at hk
 ·rename_i as has
  obtain⟨objs,hk,hol,hos⟩:=Hz hk;obtain⟨rs,objs',hk,hent,hs⟩:=h _ _ _ hk;generalize Dk n (objs'.length-ks.length)=ns at hk
  have hk:=Cz hk;rw[aL]at hk;obtain⟨hg',hk⟩:=hk;obtain⟨sets,hk,hl',hkeys,hbs⟩:=HV hk;obtain⟨v,hk,hv⟩:=HY hk;have hσ:=Oe hg;have hσ':=Oe hg';refine⟨v,sets,ks,ns,hk,hent,fun S w ι H' vs hgb M hr ha hn=>?_⟩;have at':∀{i k},sgB (zf (lZ (ks++ns) 0)) k=some i↔(ks++ns)[i]? =some k:=fun{i k}=>
   ⟨fun e=>by have:=hσ'.bf e;rwa [EC,l5]at this,fun e=>hσ'.fb (by rw[EC,l5];exact e)⟩
  have hget:∀{k},k∈ks→ay H' k=ay H k:=fun hm=>ha _ hm;have hL:∀k1 o1,ay (eH objs) k1=some o1→∃k o,sgB (lZ ks 0) k1=some k∧ay H' k=some o∧rC (lZ ks 0) o=some o1:=by
   intro k1 o1 h1;rw[iM]at h1;have hlt:k1<ks.length:=by rw[←hol];exact(afS.1 h1).1
   obtain⟨o,o1',q1,q2,q3⟩:=hos k1 ks[k1] (aev hlt);rw[h1]at q3;cases q3
   exact⟨ks[k1],o,by rw[l5,aev hlt],by rw[hget (List.getElem_mem hlt)];exact q1,q2⟩
  obtain⟨ML,hown⟩:=M.lend (H1:=eH objs) hσ hL (fun k k1 hb hsome=>by
   rw[l5]at hb;obtain⟨o,o1,_,_,q3⟩:=hos k1 k hb;rw[iM,q3];rfl)
  have hA:bC S w (ι.ren (lZ ks 0)) (rE as) vs:=by
   obtain⟨h1,h2⟩:=xq (pK hσ.b ι) has (S:=S) (w:=w);exact⟨(pO as).1.trans (h1.trans hr.1),fun i hi=>(pO as).2 i (h2 i (by rw[(pO as).1]at hi;omega) (hr.2 i (by rw[(pO as).1]at hi;omega)))⟩
  refine(hs S w _ vs hgb ML hA).mono ?_
  rintro e w' ⟨val,S',ιl',rfl,M',R',T⟩
  have hinj:∀(i j k:Nat),(keys sets)[i]? =some k→(keys sets)[j]? =some k→i=j:=fun i j k hi hj=>by
   rw[hkeys]at hi hj;have a:=at'.2 hi;have b:=at'.2 hj;rw[a]at b;exact Option.some.inj b
  obtain⟨M2,le,T2⟩:=M.back (H'':=aX H' sets) hσ' hσ M' T hown
   (fun i k e=>by
    have e:=at'.1 e;obtain⟨o,o1,p1,p3,p4⟩:=hbs i k e;refine⟨⟨o,by rw[iM];exact p1⟩,?_⟩
    by_cases hi:i<ks.length
    ·rw[List.getElem?_append_left hi]at e
     exact .inl ⟨by omega,by rw[l5];exact e⟩
    ·rw[List.getElem?_append_right (by omega)]at e
     exact .inr (hn k (afT e)))
   (fun k e=>by
    have hno:k∉ks++ns:=fun hm=>by
     obtain⟨i,hi⟩:=afR.1 hm;rw[at'.2 hi]at e;cases e
    refine⟨jD (by rw[hkeys];exact hno),fun i hi=>?_⟩
    rw[l5]at hi;exact hno (List.mem_append_left _ (afT hi)))
   (fun i k e=>by
    obtain⟨o,o1,p1,p3,p4⟩:=hbs i k (at'.1 e);exact⟨o,o1,by rw[iM];exact p1,p3,ED hinj p4⟩)
   (fun b hb=>by
    obtain⟨k1,o1,h1,h2,h3⟩:=hb;obtain⟨k,o,q1,q2,q3⟩:=hL k1 o1 h1;have eo:(ι.ren (lZ ks 0)).o k1=ι.o k:=by simp[Ix.ren,q1]
    have et:(ι.ren (lZ ks 0)).t k1=ι.t k:=by simp[Ix.ren,q1]
    have ex:(ι.ren (lZ ks 0)).x k1=ι.x k:=by funext b;simp[Ix.ren,q1]
    obtain⟨r1,r2,r3,r5⟩:=rD (pK hσ.b ι) q3 eo et ex (M.obj k o q2);refine⟨k1,k,q1,?_,o,q2,?_⟩
    ·rw[iM]at h1;exact(afS.1 h1).1
    ·exact(mW eo et ex r2 r3 r5 b).1 h3)
  exact⟨val,S',_,rfl,M2,le,T.keeps,hv (wK hσ' ι ιl') R',T2⟩
 ·exact hk.elim
variable {P:Program}
def vT (S0:Imm) (w0:World):Imm→World→Prop:=fun S w=>Keeps S0 w0 S w∧gB S w
theorem rF {S0:Imm} {w0:World}:BOK (vT S0 w0):=⟨fun _ _ _ _ h b hb=>⟨Keeps.trans hb.1 h,lK h b hb.2⟩,fun _ _ h=>h.2⟩
theorem VL {S:Imm} {w:World} {ι:Ix} {args:List PV} {vs:Array Value} {i:Nat} {p:PV} (h:bC S w ι args vs) (hp:Rep S w ι p (vs.getD i undef)):bC S w ι (args.set i p) vs:=by
 refine⟨by simpa using h.1,fun j hj=>?_⟩
 rw[lI];split
 ·rename_i e;rw[e.1];exact hp
 ·exact h.2 j (by simpa using hj)
theorem zh {g:FuncId} {args:List PV} {v:PV} (i:Nat) {f:Fn} {fs cs:List PV} (he:Enters P g) (hi:aC args i=.fn f fs cs) (hlt:i<args.length)
 (h:∀S0 w0 us vs,bC S0 w0 noI fs us→bC S0 w0 noI cs vs→tV P (vT S0 w0) g (args.set i (.fv f us vs)) v):aF P g args v:=by
 refine⟨he,fun S w vs hg himm hr=>?_⟩;have hri:=hr.2 i hlt;rw[hi]at hri;generalize hv:vs.getD i undef=val at hri
 cases hri with
 |fn _ _ _ _ us ws hk hl hu hvs=>
  exact h S w us ws ⟨hk,hu⟩ ⟨hl,hvs⟩ S w vs ⟨Keeps.refl _ _,hg⟩ himm (VL hr (by rw[hv];exact .fv _ _ _ _))
def fnY (f:Nat) (us vs:Array Value) (C:PSp):YPT:=fun f' us' vs' args n H K=>VC (f'=.func f∧us'=us∧vs'=vs)∧pI args fun as=>C as fun v=>K v [] [] []
theorem Og {r:Option Nat} {B:Imm→World→Prop} {f:Nat} {us vs:Array Value} {fs cs:List PV} {C:PSp} (hB:∀S w,B S w→bC S w noI fs us∧bC S w noI cs vs)
 (hC:∀as K,C as K→∃v,K v∧aF P f (fs++as++cs) v) (hg:∀S w,B S w→gB S w:=by first|exact fun _ _ h=>h|exact fun _ _ h=>h.2|exact fun _ _ h=>h.2.2):jY P r B (fnY f us vs C):=by
 intro f' us' vs' args n H K h;obtain⟨⟨e1,e2,e3⟩,h⟩:=h;subst e1;subst e2;subst e3;unfold pI at h;split at h
 ·rename_i as ha
  rw[bD]at h;obtain⟨v,hK,hent,hs⟩:=hC _ _ h;refine⟨v,[],[],[],hK,fun S w ι H' o c a next Q vals ho hb M hr _ _ hk=>?_⟩;obtain⟨h1,h2⟩:=iA ha;obtain⟨b1,b2⟩:=hB S w hb;have hA:bC S w noI (dh as) vals:=⟨(bq as).1.trans (h1.trans hr.1),fun i hi=>(bq as).2 i (h2 i (by rw[(bq as).1]at hi;omega) (hr.2 i (by rw[(bq as).1]at hi;omega)))⟩
  have hres:(invoke (.fn (.func f) vs') (us'++vals)).run P w=.ok (.enter f (us'++vals++vs')) w:=by
   simp only[invoke,Sem.run_bind,Sem.run_pure,Result.andThen];exact hent _ _
  rw[hres,Oper.uponIn_enter];refine⟨fun h=>by simp[Fw,Fence.wide]at h,qR ((hs S w (us'++vals++vs') (hg _ _ hb) M.imm (fK (fK b1 hA) b2)).mono ?_)⟩
  rintro e w' ⟨val,S',rfl,ou⟩
  have hno:∀k ob b,ay H' k=some ob→ob.has ι k b→b<w.heap.size:=fun k ob b ho hb=>(M.obj k ob ho).lt hb;exact hk val S' w' ι ⟨fun k ob ho=>(M.obj k ob ho).mono ou.keeps (.refl _) ou.below (fun b hb=>ou.same b (hno k ob b ho hb)) (fun _=>rfl) rfl (fun b j hb hs=>ou.immN b j (hno k ob b ho hb) hs),M.liveO,M.liveT,M.dist,ou.imm⟩
   (.refl _) ou.keeps (ou.rep.up ι) (fun p=>⟨ou.below,fun b hb _=>ou.same b hb,ou.keeps,fun b j hb hs=>.inl (ou.immN b j hb hs),fun b h=>.inl h,fun _ _ _ h=>h,fun _ _ b n h=>⟨b,n,h,.inl ⟨rfl,aea _⟩⟩⟩)
 ·exact h.elim
def acw (P:Program) (B:Imm→World→Prop) (g:FuncId) (C:CT):Prop:=∀args n H K,C args n H K→∃v sets accs news,K v sets accs news∧nU P B g args H v sets accs news
theorem COK.up {g:FuncId} {C:CT} (h:COK P g C) (B:Imm→World→Prop) (hg:∀S w,B S w→gB S w:=by first|exact fun _ _ h=>h|exact fun _ _ h=>h.2|exact fun _ _ h=>h.2.2):acw P B g C:=fun args n H K hk=>by
 obtain⟨v,sets,accs,news,h1,h2⟩:=h args n H K hk;exact⟨v,sets,accs,news,h1,iK.up h2 B hg⟩
def rG:List PV→PV
 | [x]=>x
 |xs=>.tup xs
def La (m:Nat) (x:PV):List PV:=match m with
 |1=>[x]
 |_=>match x with
  |.tup xs=>xs
  |_=>[]
theorem Oh (xs:List PV):La xs.length (rG xs)=xs:=by
 match xs with
 | []=>rfl
 | [x]=>rfl
 |x::y::r=>rfl
def iC (go:List PV→Bool):List PV→List PV→List PV
 |pre,[]=>pre
 |pre,x::l=>match go (pre++[x])with|true=>iC go (pre++[x]) l|false=>pre++[x]
def GoTo (go:List PV→Bool) (L:List PV) (i:Nat):Prop:=∀j,j<i→go (L.take (j+1))=true
def Nxt (go:List PV→Bool) (L pre:List PV) (x:PV):Prop:=∃i,i<L.length∧pre=L.take i∧L[i]? =some x∧GoTo go L i
theorem GoTo.zero {go:List PV→Bool} {L:List PV}:GoTo go L 0:=fun j h=>by omega
theorem GoTo.succ {go:List PV→Bool} {L:List PV} {i:Nat} (h:GoTo go L i) (g:go (L.take (i+1))=true):GoTo go L (i+1):=fun j hj=>by
 by_cases e:j=i
 ·rw[e];exact g
 ·exact h j (by omega)
theorem dV {L:List PV} {i:Nat} {x:PV} (h:L[i]? =some x):L.take i++[x]=L.take (i+1):=by
 rw[List.take_add_one,h];rfl
theorem uh {go:List PV→Bool} {L:List PV}:∀{i:Nat},i≤L.length→GoTo go L i→iC go [] L=iC go (L.take i) (L.drop i):=by
 intro i;induction i with
 |zero=>intro _ _;simp
 |succ i ih=>
  intro hi h;rw[ih (by omega) (fun j hj=>h j (by omega)),afU (by omega),iC]
  have e:L.take i++[L[i]]=L.take (i+1):=dV (aev (by omega))
  rw[e,h i (by omega)]
theorem uj {go:List PV→Bool} {L:List PV} {i:Nat} (hi:i<L.length) (h:GoTo go L i) (g:go (L.take (i+1))=false):iC go [] L=L.take (i+1):=by
 rw[uh (by omega) h,afU hi,iC]
 have e:L.take i++[L[i]]=L.take (i+1):=dV (aev hi);rw[e,g]
theorem xu {go:List PV→Bool} {L:List PV} {i:Nat} (hi:L.length≤i) (h:GoTo go L i):iC go [] L=L:=by
 rw[uh (aea L.length) (fun j hj=>h j (by omega))];simp[iC]
theorem HZ {go:List PV→Bool}:∀(l pre:List PV),pre.length≤(iC go pre l).length:=by
 intro l;induction l with
 |nil=>intro pre;exact aea _
 |cons x l ih=>
  intro pre;rw[iC];split
  ·have:=ih (pre++[x]);simp at this;omega
  ·simp
theorem Oi {go:List PV→Bool} {L:List PV} {i:Nat} (hi:i≤L.length) (h:GoTo go L i) (e:iC go [] L=L.take i):i=L.length:=by
 rcases aeb i L.length with hlt|hge
 ·rw[uh hi h,afU hlt,iC]at e
  have hlen:=congrArg afV e;split at hlen
  ·have:=HZ (go:=go) (L.drop (i+1)) (L.take i++[L[i]])
   simp at this hlen;omega
  ·simp at hlen;omega
 ·omega
abbrev GT:=List PV→(Nat→Prop)→Imm→World→Prop
def rH (b m:Nat) (G:GT) (go:List PV→Bool) (L:List PV):YPT:=fun f us vs args n H K=>VC (f=.yield b∧us= #[]∧vs= #[])∧pI args fun as=>ifK (aew as.length m) (bW H 0 fun o=>match o with
 |.ext G' pre=>bI (rG as) fun x=>VC (G'=G∧Nxt go L pre x)∧K (.bp (go (pre++[x]))) [(0,.ext G (pre++[x]))] [0] []
 |_=>False)
def Yields (P:Program) (b m:Nat) (G:GT) (go:List PV→Bool) (L:List PV):Prop:=∀r B,jY P r B (rH b m G go L)
def mM (P:Program) (g:FuncId) (fs cs:List PV) (m:Nat) (L:List PV):Prop:=
 Enters P g∧∀(G:GT) (go:List PV→Bool) (b:Nat),Yields P b m G go L→y9 P jX g (fs++[.fv (.yield b) #[] #[]]++cs) [.ext G []] [] [.ext G (iC go [] L)]
structure TrX (X:Nat→Prop) (p:Nat) (S:Imm) (w:World) (ι:Ix) (H:Hp) (S':Imm) (w':World) (ι':Ix) (H':Hp):Prop where
 below:Bel w w'
 same:∀b,b<w.heap.size→¬owned ι H b→¬X b→w'.heap[b]? =w.heap[b]?
 keeps:Keeps S w S' w'
 immN:∀b j,b<w.heap.size→S' b j→S b j∨owned ι H b
 own:∀b,owned ι' H' b→owned ι H b∨w.heap.size≤b
 protO:∀k,k<p→∀b,ι.o k=some b→ι'.o k=some b
 protT:∀k,k<p→∀b n,ι.t k=some (b,n)→∃b' n',ι'.t k=some (b',n')∧((b'=b∧n≤n')∨n<n')
theorem Tr.toX {X:Nat→Prop} {p:Nat} {S S':Imm} {w w':World} {ι ι':Ix} {H H':Hp} (h:Tr p S w ι H S' w' ι' H'):TrX X p S w ι H S' w' ι' H':=
 ⟨h.below,fun b hb ho _=>h.same b hb ho,h.keeps,h.immN,h.own,h.protO,h.protT⟩
theorem H6 {ι ι' ι'':Ix} {k:Nat} (h:∀b n,ι.t k=some (b,n)→∃b' n',ι'.t k=some (b',n')∧((b'=b∧n≤n')∨n<n')) (g:∀b n,ι'.t k=some (b,n)→∃b' n',ι''.t k=some (b',n')∧((b'=b∧n≤n')∨n<n')):
 ∀b n,ι.t k=some (b,n)→∃b' n',ι''.t k=some (b',n')∧((b'=b∧n≤n')∨n<n'):=by
 intro b n hi;obtain⟨x1,n1,h1,h2⟩:=h b n hi;obtain⟨x2,n2,g1,g2⟩:=g x1 n1 h1;refine⟨x2,n2,g1,?_⟩;rcases h2 with⟨rfl,h2⟩|h2
 ·rcases g2 with⟨rfl,g2⟩|g2
  ·exact .inl ⟨rfl,by omega⟩
  ·exact .inr (by omega)
 ·rcases g2 with⟨rfl,g2⟩|g2
  ·exact .inr (by omega)
  ·exact .inr (by omega)
theorem TrX.trans {X:Nat→Prop} {p:Nat} {S S' S'':Imm} {w w' w'':World} {ι ι' ι'':Ix} {H H' H'':Hp}
 (h:TrX X p S w ι H S' w' ι' H') (g:TrX X p S' w' ι' H' S'' w'' ι'' H''):TrX X p S w ι H S'' w'' ι'' H'':=by
 have hsz:=h.below.size;refine⟨h.below.trans g.below,fun b hb ho hx=>?_,h.keeps.trans g.keeps,fun b j hb hs=>?_,fun b ho=>?_,fun k hk b hi=>g.protO k hk b (h.protO k hk b hi),fun k hk=>H6 (h.protT k hk) (g.protT k hk)⟩
 ·rw[g.same b (by omega) (fun ho'=>?_) hx]
  ·exact h.same b hb ho hx
  ·rcases h.own b ho' with h1|h1
   ·exact ho h1
   ·omega
 ·rcases g.immN b j (by omega) hs with h1|h1
  ·exact h.immN b j hb h1
  ·rcases h.own b h1 with h2|h2
   ·exact .inr h2
   ·omega
 ·rcases g.own b ho with h1|h1
  ·exact h.own b h1
  ·exact .inr (by omega)
theorem Mem.aside {S:Imm} {w:World} {ι:Ix} {H:Hp} (M:Mem S w ι H) {b:Nat} {o o':Obj} (hw:w.heap[b]? =some o) (hp:Obj.plain o=true) (hp':Obj.plain o'=true) (hno:¬owned ι H b) (p:Nat):
 Mem S (w.putObj b o') ι H∧TrX (·=b) p S w ι H S (w.putObj b o') ι H∧(w.putObj b o').heap[b]? =some o'∧∀b',b'≠b→(w.putObj b o').heap[b']? =w.heap[b']? :=by
 have hlt:=lt_of_heap hw;have here:(w.putObj b o').heap[b]? =some o':=World.putObj_heap_same hlt;have other:∀b',b'≠b→(w.putObj b o').heap[b']? =w.heap[b']? :=fun b' h=>World.putObj_heap_other h;have hnS:∀j,¬S b j:=fun j hs=>by have:=M.imm b j hs;rw[gT hw hp]at this;simp at this
 have hk:Keeps S w S (w.putObj b o'):=by
  refine⟨fun b' j hs=>⟨hs,?_⟩,fun b' j hs=>?_⟩
  ·by_cases e:b'=b
   ·subst e;exact absurd hs (hnS j)
   ·exact cB (other b' e) j
  ·by_cases e:b'=b
   ·subst e;rw[gT hw hp]at hs;simp at hs
   ·rw[cB (other b' e) j];exact hs
 have hbel:Bel w (w.putObj b o'):=.block b rfl rfl rfl (by simp) other (by rw[hw];exact fJ hp) (by rw[here];exact fJ hp') (fun _=>by unfold bsz;rw[hw,here];cases o<;>cases o'<;>first|rfl|(simp[Obj.plain]at hp;done)|(simp[Obj.plain]at hp';done))
 refine⟨⟨fun k o ho=>(M.obj k o ho).mono hk (.refl _) hbel (fun b' hb'=>other b' (fun e=>hno (by subst e;exact⟨k,o,ho,oM hb',hb'⟩))) (fun _=>rfl) rfl (fun _ _ _ h=>h),M.liveO,M.liveT,M.dist,fun b' j hs=>by rw[(hk.imm b' j hs).2];exact M.imm b' j hs⟩,
  ⟨hbel,fun b' _ _ hx=>other b' hx,hk,fun _ _ _ h=>.inl h,fun _ h=>.inl h,fun _ _ _ h=>h,fun _ _ b n h=>⟨b,n,h,.inl ⟨rfl,aea _⟩⟩⟩,here,other⟩
theorem Mem.extStep {S:Imm} {w:World} {ι:Ix} {H:Hp} (M:Mem S w ι H) {k:Nat} {G:GT} {pre:List PV} (h0:ay H k=some (.ext G pre)) {S':Imm} {w':World} {D':Nat→Prop} {pre':List PV} (hst:sS G) (hG:G pre' D' S' w')
 (below:Bel w w') (keeps:Keeps S w S' w') (same:∀b,b<w.heap.size→¬ι.x k b→w'.heap[b]? =w.heap[b]?) (immN:∀b j,b<w.heap.size→S' b j→S b j∨ι.x k b)
 (hD:∀b,D' b→ι.x k b∨w.heap.size≤b) (hlt:∀b,D' b→b<w'.heap.size) (himm:∀b j,S' b j→(rd w' b j).isSome):
 Mem S' w' ⟨ι.o,ι.t,fun k'=>if k'=k then D' else ι.x k'⟩ (aR H k (.ext G pre'))∧ι.le ⟨ι.o,ι.t,fun k'=>if k'=k then D' else ι.x k'⟩∧
  ∀p,Tr p S w ι H S' w' ⟨ι.o,ι.t,fun k'=>if k'=k then D' else ι.x k'⟩ (aR H k (.ext G pre')):=by
 have hle:ι.le ⟨ι.o,ι.t,fun k'=>if k'=k then D' else ι.x k'⟩:=⟨fun _ _ h=>h,fun _ b n h=>⟨b,n,h,.inl ⟨rfl,aea _⟩⟩⟩;have hx:∀k',k'≠k→(if k'=k then D' else ι.x k')=ι.x k':=fun k' h=>if_neg h;have hhas:∀{k' o b},k'≠k→(AO.has ⟨ι.o,ι.t,fun k'=>if k'=k then D' else ι.x k'⟩ k' o b↔AO.has ι k' o b):=fun{k' o b} h=>mW (ι:=ι) (ι1:=⟨ι.o,ι.t,fun k'=>if k'=k then D' else ι.x k'⟩) (k:=k') (k1:=k') (o:=o) (o1:=o) rfl rfl (hx _ h) rfl rfl rfl b;have hself:∀{b},AO.has ⟨ι.o,ι.t,fun k'=>if k'=k then D' else ι.x k'⟩ k (.ext G pre') b↔D' b:=fun{b}=>by simp[AO.has]
 have hother:∀k' o b,k'≠k→ay H k'=some o→o.has ι k' b→b<w.heap.size∧¬ι.x k b:=fun k' o b hne ho hb=>
  ⟨(M.obj k' o ho).lt hb,fun h=>hne (M.dist k' k o (.ext G pre) b ho h0 hb h)⟩
 refine⟨⟨fun k' o ho=>?_,fun k' b hb=>?_,fun k' b hb=>?_,fun k1 k2 o1 o2 b h1 h2 b1 b2=>?_,himm⟩,hle,fun p=>⟨below,fun b hb ho=>?_,keeps,fun b j hb hs=>?_,?_,fun _ _ _ h=>h,fun _ _ b n h=>⟨b,n,h,.inl ⟨rfl,aea _⟩⟩⟩⟩
 ·rw[aY]at ho
  by_cases e:k'=k
  ·subst e;simp at ho;subst ho
   exact⟨fun b hb=>hlt b (by simpa using hb),hst,by simpa using hG⟩
  ·rw[if_neg e]at ho
   exact(M.obj k' o ho).mono keeps hle below (fun b hb=>same b (hother k' o b e ho hb).1 (hother k' o b e ho hb).2) (fun _=>rfl) (hx k' e)
    (fun b j hb hs=>(immN b j (hother k' o b e ho hb).1 hs).resolve_right (hother k' o b e ho hb).2)
 ·obtain⟨o,g1,g2⟩:=M.liveO k' b hb
  rw[aY];by_cases e:k'=k
  ·subst e;exact⟨.ext G pre',by simp,rfl⟩
  ·rw[if_neg e];exact⟨o,g1,g2⟩
 ·obtain⟨o,g1,g2⟩:=M.liveT k' b hb
  rw[aY];by_cases e:k'=k
  ·subst e;rw[h0]at g1;cases g1;simp[AO.isTok]at g2
  ·rw[if_neg e];exact⟨o,g1,g2⟩
 ·rw[aY]at h1 h2
  by_cases e1:k1=k
  ·by_cases e2:k2=k
   ·rw[e1,e2]
   ·subst e1;simp at h1;subst h1;rw[if_neg e2]at h2;rw[hhas e2]at b2;rw[hself]at b1
    obtain⟨q1,q2⟩:=hother k2 o2 b e2 h2 b2;rcases hD b b1 with h|h
    ·exact absurd h q2
    ·omega
  ·rw[if_neg e1]at h1;rw[hhas e1]at b1
   by_cases e2:k2=k
   ·subst e2;simp at h2;subst h2;rw[hself]at b2
    obtain⟨q1,q2⟩:=hother k1 o1 b e1 h1 b1;rcases hD b b2 with h|h
    ·exact absurd h q2
    ·omega
   ·rw[if_neg e2]at h2;rw[hhas e2]at b2
    exact M.dist k1 k2 o1 o2 b h1 h2 b1 b2
 ·exact same b hb (fun h=>ho ⟨k,_,h0,rfl,h⟩)
 ·rcases immN b j hb hs with h|h
  ·exact .inl h
  ·exact .inr ⟨k,_,h0,rfl,h⟩
 ·rintro b ⟨k',o,h1,h2,h3⟩
  rw[aY]at h1;by_cases e:k'=k
  ·subst e;simp at h1;subst h1;rw[hself]at h3
   rcases hD b h3 with h|h
   ·exact .inl ⟨k',_,h0,rfl,h⟩
   ·exact .inr h
  ·rw[if_neg e]at h1;rw[hhas e]at h3
   exact .inl ⟨k',o,h1,h2,h3⟩
def pQ:Env→List Nat→List PV→Env
 |env,t::ts,x::xs=>pQ (env.set t x) ts xs
 |env,_,_=>env
theorem Oj {S:Imm} {w:World} {ι:Ix}:∀(ts:List Nat) (xs:List PV) {env:Env} {tmps:Array Value} {vs:List Value},bC S w ι env tmps→ts.length=vs.length→xs.length=vs.length→(∀i,i<xs.length→Rep S w ι (aC xs i) (vs.getD i undef))→
 bC S w ι (pQ env ts xs) ((ts.zip vs).foldl (fun t (p:Nat × Value)=>t.setIfInBounds p.1 p.2) tmps):=by
 intro ts;induction ts with
 |nil=>intro xs env tmps vs h h1 h2 h3;cases xs<;>simpa [pQ]using h
 |cons t ts ih=>
  intro xs env tmps vs h h1 h2 h3;cases vs with
  |nil=>simp at h1
  |cons v vs=>
   cases xs with
   |nil=>simp at h2
   |cons x xs=>
    simp only[pQ,List.zip_cons_cons,List.foldl_cons];refine ih xs ?_ (by simpa using h1) (by simpa using h2) (fun i hi=>by have:=h3 (i+1) (by simpa using hi);simpa [aC]using this)
    have h30:Rep S w ι x v:=by have:=h3 0 (by simp);simpa [aC]using this
    have:=w9 (a:={tmps:=tmps,defers:=[]}) h (some t) h30;simpa [eU,Act.put]using this
def zi:Env→Env
 | []=>[]
 |_::r=>.any::zi r
def nW (B:Imm→World→Prop) (S0:Imm) (w0:World) (ι0:Ix) (H0:Hp) (D0 L0:Nat) (rec:LoopState→Option Code→Loop) (L:List PV) (st:Nat→Hp) (gi:Nat→Bool) (Q:Exit→Hp→Prop):GT:=fun pre D S w=>
 ∃ι H sta pend,D=(fun b=>owned ι0 H0 b∨owned ι H b∨b=D0∨b=L0)∧(∀k o,ay H k=some o→gu S w ι k o)∧(∀k b,ι.o k=some b→∃o,ay H k=some o∧o.isTok=false)∧
  (∀k x,ι.t k=some x→∃o,ay H k=some o∧o.isTok=true)∧(∀k k' o o' b,ay H k=some o→ay H k'=some o'→o.has ι k b→o'.has ι k' b→k=k')∧
  B S w∧ι0.le ι∧Keeps S0 w0 S w∧(∀b,owned ι H b→b≠D0∧b≠L0)∧(∀b,owned ι H b→owned ι0 H0 b∨w0.heap.size≤b)∧(∀b,owned ι0 H0 b→b<w.heap.size)∧w0.heap.size≤w.heap.size∧
  w.heap[L0]? =some (.loop (rec sta pend))∧w.heap[D0]? =some (.deferred (some []))∧
  ((sta=.ready∧pend=none∧∃i,i≤L.length∧pre=L.take i∧(∀j,j<i→gi j=true)∧H=st i)∨
   (sta=.done∧∃i e c,i<L.length∧pre=L.take (i+1)∧gi i=false∧pend=some c∧((e=.ret∧c=.ret)∨∃id,e=.exit id∧c=.exit id)∧Q e H))
theorem EF {B:Imm→World→Prop} {S0:Imm} {w0:World} {ι0:Ix} {H0:Hp} {D0 L0:Nat} {rec:LoopState→Option Code→Loop} {L:List PV} {st:Nat→Hp} {gi:Nat→Bool} {Q:Exit→Hp→Prop} (hB:BOK B):
 sS (nW B S0 w0 ι0 H0 D0 L0 rec L st gi Q):=by
 rintro pre D S w S' w' hk hbel hsame hS ⟨ι,H,sta,pend,hD,hobj,hlo,hlt,hdi,hb,hle,hkeep,hne,hown,hsz,hszge,hL,hDk,hst⟩
 subst hD;refine⟨ι,H,sta,pend,rfl,fun k o ho=>(hobj k o ho).mono hk (.refl _) hbel (fun b hb'=>hsame b (.inr (.inl ⟨k,o,ho,oM hb',hb'⟩))) (fun _=>rfl) rfl (fun b j hb' hs=>hS b j (.inr (.inl ⟨k,o,ho,oM hb',hb'⟩)) hs),hlo,hlt,hdi,
  hB _ _ _ _ hk hbel hb,hle,hkeep.trans hk,hne,hown,fun b hb'=>aed (hsz b hb') hbel.size,afW hszge hbel.size,(hsame _ (.inr (.inr (.inr rfl)))).trans hL,(hsame _ (.inr (.inr (.inl rfl)))).trans hDk,hst⟩
def uo (gi:Nat→Bool):List PV→Bool:=fun pre=>gi (pre.length-1)
theorem mX {gi:Nat→Bool} {L:List PV} {i:Nat} (h:i<L.length):uo gi (L.take (i+1))=gi i:=by
 unfold uo;rw[ae0,Nat.min_eq_left (by omega)];simp
section
variable {P:Program} {τ:TypeId→Option TE} {B:Imm→World→Prop} {p:Nat}
theorem EG (hB:BOK B) (hm:P.follows .mixedOrders=true) (hτ:aV P τ) {md rf CP YP} (hC:jy P B CP) (hY:∀r,jY P r B YP)
 {S0:Imm} {w0:World} {ι0:Ix} {H0:Hp} {D0 L0:Nat} {fn:FuncId} {tmps:Array Value} {ps:Array Tmp} {assign body:Code} {db:Nat} {env:Env} {n:Nat} {L:List PV} {st:Nat→Hp} {gi:Nat→Bool} {Q:Exit→Hp→Prop}
 (hR0:bC S0 w0 ι0 env tmps) (hn:∀k b,ι0.o k=some b→k<n) (hn':∀k b,ι0.t k=some b→k<n) (hDL:D0≠L0) (hnL:¬owned ι0 H0 L0) (hnD:¬owned ι0 H0 D0) (hok1:dI assign=true) (hok2:dI body=true)
 {KN:Nat→Env→Hp→Prop} {KR:Nat→Hp→Prop} {KX:Nat→Nat→Hp→Prop} (hKN:∀i env' H',KN i env' H'→gi i=true∧Sub B n env' H' (zi env) (st (i+1))) (hKR:∀i H',KR i H'→gi i=false∧Q .ret H') (hKX:∀i id H',KX i id H'→gi i=false∧Q (.exit id) H')
 (hb:∀i x,L[i]? =some x→(∀j,j<i→gi j=true)→∀l,ev P (some l) B n τ md rf CP YP assign n (pQ env ps.toList (La ps.size x)) (st i) fun e env2 H2 n2=>match e with
  |.normal=>ev P (some l) B n τ md rf CP YP body n2 env2 H2 fun e env' H' _=>match e with
   |.normal=>KN i env' H'
   |.ret=>KR i H'
   |.exit id=>KX i id H'
   |_=>False
  |_=>False):
 Yields P L0 ps.size (nW B S0 w0 ι0 H0 D0 L0 (fun sta pe=>{state:=sta,pending:=pe,fn:=fn,tmps:=tmps,params:=ps,assign:=assign,body:=body,defers:=db}) L st gi Q) (uo gi) L:=by
 intro r B' f us vs args nn HH K h;obtain⟨rec,hrec⟩:∃rec:LoopState→Option Code→Loop,(fun sta pe=>{state:=sta,pending:=pe,fn:=fn,tmps:=tmps,params:=ps,assign:=assign,body:=body,defers:=db})=rec:=⟨_,rfl⟩;rw[hrec]at h;obtain⟨⟨e1,e2,e3⟩,h⟩:=h;subst e1;subst e2;subst e3;unfold pI at h;split at h
 rotate_left
 ·exact h.elim
 rename_i as ha;rw[bD,aL,bg]at h;obtain⟨hlen,ob,hob,h⟩:=h;have hlen:=aeB hlen;split at h
 rotate_left
 ·exact h.elim
 rename_i G' pre;rw[bE]at h;obtain⟨⟨hG',i,hi,hpre,hx,hgo⟩,hK⟩:=h;subst hG';refine⟨_,_,_,_,hK,fun S w ι H o c a next QQ vals ho hbw M hr hacc hnew hk=>?_⟩;have h0:ay H 0=some _:=(hacc 0 (by simp)).trans hob
 obtain⟨hlt0,hst0,hG⟩:=M.obj 0 _ h0;have hGs:=hG;obtain⟨ιc,Hc,sta,pend,hD,hobj,hlo,hlt,hdi,hBc,hle,hkeep,hne,hown,hsz,hszge,hL,hDk,hstat⟩:=hG;have hready:sta=.ready∧pend=none∧(∀j,j<i→gi j=true)∧Hc=st i:=by
  rcases hstat with⟨s1,s2,i',hi',hp,hall,hH⟩|⟨s1,i',e,c',hi',hp,hgf,_⟩
  ·have:i'=i:=by
    have:=congrArg afV (hp.symm.trans hpre);simp[ae0]at this;omega
   subst this;exact⟨s1,s2,hall,hH⟩
  ·have:i=i'+1:=by
    have:=congrArg afV (hpre.symm.trans hp);simp[ae0]at this;omega
   have h2:=hgo i' (by omega)
   rw[mX (by omega)]at h2
   rw[h2]at hgf;cases hgf
 obtain⟨hs1,hs2,hall,hH⟩:=hready;subst hs1;subst hs2;have Mc:Mem S w ιc Hc:=⟨hobj,hlo,hlt,hdi,M.imm⟩;obtain⟨a1,a2⟩:=iA ha;have hA:bC S w noI (dh as) vals:=⟨(bq as).1.trans (a1.trans hr.1),fun i hi=>(bq as).2 i (a2 i (by rw[(bq as).1]at hi;omega) (hr.2 i (by rw[(bq as).1]at hi;omega)))⟩
 have hxe:La ps.size (rG (dh as))=dh as:=by rw[←hlen];exact Oh _
 have hbi:=hb i _ hx hall L0;rw[hxe,←hH]at hbi;have hyl:(invoke (.fn (.yield L0) #[]) (#[]++vals)).run P w=.ok (.round L0 fn ((ps.zip vals).foldl (fun tmps (t,a)=>tmps.setIfInBounds t a) tmps) assign body) w:=by
  have:=run_yield (P:=P) (args:=vals) hL (by rw[←hrec];show vals.size=ps.size;rw[←hA.1,hlen])
  rw[←hrec]at this;simpa [invoke]using this
 rw[hyl,Oper.uponIn_round];refine⟨fun h=>by simp[Fw,Fence.wide]at h,roundIn_of_wpIn (F:=Fw r) trivial ?_⟩
 have hle0:bC S w ιc env tmps:=hR0.mono hkeep hle;have hR1:bC S w ιc (pQ env ps.toList (dh as)) ((ps.zip vals).foldl (fun tmps (t,a)=>tmps.setIfInBounds t a) tmps):=by
  have:=Oj ps.toList (dh as) (vs:=vals.toList) hle0 (by simp;rw[←hlen];exact hA.1) (by simpa using hA.1) (fun i hi=>by have:=(hA.2 i hi).up ιc;simpa [aej]using this)
  rw[←Array.foldl_toList,Array.toList_zip];exact this
 have hA1:At B n S w ιc Hc (pQ env ps.toList (dh as)) Hc {tmps:=(ps.zip vals).foldl (fun tmps (t,a)=>tmps.setIfInBounds t a) tmps,defers:=[]} w:=
  ⟨S,ιc,hBc,Mc,hR1,.nil _ _ _,fun d hd=>by simp at hd,.refl _ _ _ _ _⟩
 refine wpIn_mono (iU (r:=some L0) hB hm hτ hC (hY _) assign hok1 _ _ _ _ hbi _ _ _ _ _ _ hA1) ?_
 rintro e aa w1 ⟨env2,H2,⟨n2,hk2⟩,hA2⟩
 cases e with
 |normal=>
  obtain⟨S2,ι2,hb2,M2,R2,D2,D2',T2⟩:=hA2.ex;have hnoL:∀{b},(b=L0∨b=D0)→¬owned ιc Hc b:=fun hb' ho=>by rcases hb' with rfl|rfl;exact(hne _ ho).2 rfl;exact(hne _ ho).1 rfl
  have hltL:=lt_of_heap hL;have hltD:=lt_of_heap hDk;have hL2:w1.heap[L0]? =some (.loop (rec .ready none)):=(T2.same _ hltL (hnoL (.inl rfl))).trans hL;have hD2:w1.heap[D0]? =some (.deferred (some [])):=(T2.same _ hltD (hnoL (.inr rfl))).trans hDk;have hno2:∀{b},(b=L0∨b=D0)→¬owned ι2 H2 b:=fun{b} hb' ho=>by
   rcases T2.own b ho with h|h
   ·exact hnoL hb' h
   ·rcases hb' with rfl|rfl<;>omega
  refine⟨_,run_beginRound hL2 (by rw[←hrec]),?_⟩
  obtain⟨M3,TX3,hL3,hO3⟩:=M2.aside (o':=.loop {rec .ready none with state:=.busy}) hL2 rfl rfl (hno2 (.inl rfl)) n;obtain⟨Mw,TXw,hLw,hOw⟩:=Mc.aside (o':=.loop {rec .ready none with state:=.busy}) hL rfl rfl (hnoL (.inl rfl)) n;have hD3:=(hO3 D0 hDL).trans hD2;have hszw:(w.putObj L0 (.loop {rec .ready none with state:=.busy})).heap.size=w.heap.size:=by simp
  have hrdw:∀b j,rd (w.putObj L0 (.loop {rec .ready none with state:=.busy})) b j=rd w b j:=fun b j=>by
   by_cases e:b=L0
   ·subst e;rw[gT hLw rfl,gT hL rfl]
   ·exact cB (hOw b e) j
  have hrd3:∀b j,rd (w1.putObj L0 (.loop {rec .ready none with state:=.busy})) b j=rd w1 b j:=fun b j=>by
   by_cases e:b=L0
   ·subst e;rw[gT hL3 rfl,gT hL2 rfl]
   ·exact cB (hO3 b e) j
  have TB:Tr n S (w.putObj L0 (.loop {rec .ready none with state:=.busy})) ιc Hc S2 (w1.putObj L0 (.loop {rec .ready none with state:=.busy})) ι2 H2:=by
   refine⟨⟨T2.below.os,T2.below.tape,T2.below.output,by simpa using T2.below.size,fun b hb'=>?_⟩,fun b hb' ho=>?_,⟨fun b j hs=>⟨(T2.keeps.imm b j hs).1,?_⟩,fun b j hs=>?_⟩,fun b j hb' hs=>T2.immN b j (by omega) hs,fun b ho=>by rw[hszw];exact T2.own b ho,T2.protO,T2.protT⟩
   ·by_cases e:b=L0
    ·subst e;unfold bsz;rw[hL3,hLw]
    ·exact(eu (hO3 b e)).trans ((T2.below.len b (by omega)).trans (eu (hOw b e)).symm)
   ·by_cases e:b=L0
    ·subst e;exact hL3.trans hLw.symm
    ·exact(hO3 b e).trans ((T2.same b (by omega) ho).trans (hOw b e).symm)
   ·rw[hrdw,hrd3];exact(T2.keeps.imm b j hs).2
   ·rw[hrdw]at hs;rw[hrd3];exact T2.keeps.cells b j hs
  have hA3:At B n S (w.putObj L0 (.loop {rec .ready none with state:=.busy})) ιc Hc env2 H2 aa (w1.putObj L0 (.loop {rec .ready none with state:=.busy})):=
   ⟨S2,ι2,hB _ _ _ _ TX3.keeps TX3.below hb2,M3,R2.mono TX3.keeps (.refl _),⟨fun d hd=>by
    obtain⟨b,h1,h2,h3⟩:=D2.all d hd;refine⟨b,h1,?_,h3⟩;rw[hO3 b (fun e=>by rw[e,hL2]at h2;cases h2)];exact h2,D2.nodup⟩,fun d hd b hb=>by rw[hszw];exact D2' d hd b hb,TB⟩
  refine wpIn_mono (iU (r:=some L0) hB hm hτ hC (hY _) body hok2 _ _ _ _ hk2 _ _ _ _ _ _ hA3) ?_
  rintro e a3 w3 ⟨env',H',⟨n3,hk3⟩,hA4⟩
  have fin:∀(jump:Option Code) (env4:Env) (H4:Hp),At B n S (w.putObj L0 (.loop {rec .ready none with state:=.busy})) ιc Hc env4 H4 a3 w3→uo gi (pre++[rG (dh as)])=jump.isNone→
   ((jump=none∧gi i=true∧H4=st (i+1))∨(∃e c,gi i=false∧jump=some c∧((e=.ret∧c=.ret)∨∃id,e=.exit id∧c=.exit id)∧Q e H4))→
   ∃v w',(Instr.endRound L0 jump).run P w3=.ok v w'∧next (a.put o.dst v) w':=by
   intro jump env4 H4 hA5 hgo5 hst5;obtain⟨S5,ι5,hb5,M5,R5,D5,D5',T5⟩:=hA5.ex;have hL5:w3.heap[L0]? =some (.loop {rec .ready none with state:=.busy}):=(T5.same _ (by omega) (hnoL (.inl rfl))).trans hLw
   have hD5:w3.heap[D0]? =some (.deferred (some [])):=(T5.same _ (by omega) (hnoL (.inr rfl))).trans ((hOw D0 hDL).trans hDk)
   have hno5:∀{b},(b=L0∨b=D0)→¬owned ι5 H4 b:=fun{b} hb' ho=>by
    rcases T5.own b ho with h|h
    ·exact hnoL hb' h
    ·rcases hb' with rfl|rfl<;>omega
   obtain⟨M6,TX6,hL6,hO6⟩:=M5.aside (o':=.loop (rec (if jump.isNone then .ready else .done) jump)) hL5 rfl rfl (hno5 (.inl rfl)) n;have TT:=(TXw.trans T5.toX).trans TX6;have hpre':pre++[rG (dh as)]=L.take (i+1):=by rw[hpre];exact dV hx
   have hlt':∀b,(owned ι0 H0 b∨owned ι5 H4 b∨b=D0∨b=L0)→b<(w3.putObj L0 (.loop (rec (if jump.isNone then .ready else .done) jump))).heap.size:=by
    rintro b (h|⟨k,o,h1,h2,h3⟩|rfl|rfl)
    ·exact aed (hsz b h) TT.below.size
    ·exact(M6.obj k o h1).lt h3
    ·exact aed hltD TT.below.size
    ·exact aed hltL TT.below.size
   have hG6:nW B S0 w0 ι0 H0 D0 L0 rec L st gi Q (pre++[rG (dh as)]) (fun b=>owned ι0 H0 b∨owned ι5 H4 b∨b=D0∨b=L0) S5 (w3.putObj L0 (.loop (rec (if jump.isNone then .ready else .done) jump))):=by
    refine⟨ι5,H4,_,_,rfl,M6.obj,M6.liveO,M6.liveT,M6.dist,hB _ _ _ _ TX6.keeps TX6.below hb5,⟨fun k b hkb=>TT.protO k (hn k b hkb) b (hle.o k b hkb),fun k b m hkb=>?_⟩,hkeep.trans TT.keeps,
     fun b ho=>⟨fun e=>hno5 (.inr e) ho,fun e=>hno5 (.inl e) ho⟩,fun b ho=>?_,fun b ho=>hlt' b (.inl ho),afW hszge TT.below.size,hL6,(hO6 D0 hDL).trans hD5,?_⟩
    ·obtain⟨b',m',q1,q2⟩:=hle.t k b m hkb
     obtain⟨b2,m2,q3,q4⟩:=TT.protT k (hn' k _ hkb) b' m' q1;refine⟨b2,m2,q3,?_⟩;rcases q2 with⟨rfl,q2⟩|q2
     ·rcases q4 with⟨rfl,q4⟩|q4
      ·exact .inl ⟨rfl,by omega⟩
      ·exact .inr (by omega)
     ·rcases q4 with⟨rfl,q4⟩|q4
      ·exact .inr (by omega)
      ·exact .inr (by omega)
    ·rcases TT.own b ho with h|h
     ·exact hown b h
     ·exact .inr (afW hszge h)
    ·rcases hst5 with⟨rfl,g1,g2⟩|⟨e,c,g1,rfl,g2,g3⟩
     ·refine .inl ⟨rfl,rfl,i+1,by omega,hpre',fun j hj=>?_,g2⟩
      by_cases e:j=i
      ·rw[e];exact g1
      ·exact hall j (by omega)
     ·exact .inr ⟨rfl,i,e,c,hi,hpre',g1,rfl,g2,g3⟩
   have hxD:ι.x 0=fun b=>owned ι0 H0 b∨owned ιc Hc b∨b=D0∨b=L0:=hD;obtain⟨M7,L7,T7⟩:=M.extStep (k:=0) h0 hst0 hG6 TT.below TT.keeps
    (fun b hb' hno=>TT.same b hb' (fun ho=>hno (by rw[hxD];exact .inr (.inl ho))) (fun e=>hno (by rw[hxD];exact .inr (.inr (.inr e)))))
    (fun b j hb' hs=>(TT.immN b j hb' hs).imp id (fun ho=>by rw[hxD];exact .inr (.inl ho)))
    (fun b hb'=>by
     rw[hxD];rcases hb' with h|h|h|h
     ·exact .inl (.inl h)
     ·rcases TT.own b h with h|h
      ·exact .inl (.inr (.inl h))
      ·exact .inr h
     ·exact .inl (.inr (.inr (.inl h)))
     ·exact .inl (.inr (.inr (.inr h)))) hlt' M6.imm
   have hend:(Instr.endRound L0 jump).run P w3=.ok (.bool jump.isNone) (w3.putObj L0 (.loop (rec (if jump.isNone then .ready else .done) jump))):=by
    have:=run_endRound (P:=P) jump hL5;rw[←hrec]at this⊢;exact this
   refine⟨_,_,hend,?_⟩;refine hk _ S5 _ _ M7 L7 TT.keeps ?_ T7;rw[hgo5];exact .bp _ _
  cases e with
  |normal=>
   obtain⟨g1,g2⟩:=hKN _ _ _ hk3;have hgo6:uo gi (pre++[rG (dh as)])=true:=by rw[hpre,dV hx,mX hi];exact g1
   exact fin none _ _ (g2 _ _ _ _ _ _ hA4) hgo6 (.inl ⟨rfl,g1,rfl⟩)
  |ret=>
   obtain⟨g1,g2⟩:=hKR _ _ hk3;have hgo6:uo gi (pre++[rG (dh as)])=false:=by rw[hpre,dV hx,mX hi];exact g1
   exact fin (some .ret) _ _ hA4 hgo6 (.inr ⟨.ret,.ret,g1,rfl,.inl ⟨rfl,rfl⟩,g2⟩)
  |exit id=>
   obtain⟨g1,g2⟩:=hKX _ _ _ hk3;have hgo6:uo gi (pre++[rG (dh as)])=false:=by rw[hpre,dV hx,mX hi];exact g1
   exact fin (some (.exit id)) _ _ hA4 hgo6 (.inr ⟨.exit id,.exit id,g1,rfl,.inr ⟨id,rfl,rfl⟩,g2⟩)
  |_=>exact hk3.elim
 |_=>exact hk2.elim
theorem I6:∀{H:Hp} {k:Nat} {o:AO},ay H k=some o→k<H.length:=by
 intro H;induction H with
 |nil=>intro k o h;simp[ay]at h
 |cons x H ih=>
  intro k o h;cases k with
  |zero=>simp
  |succ k=>have:=ih (k:=k) (o:=o) (by simpa [ay]using h);simp;omega
theorem Mem.push {S:Imm} {w:World} {ι:Ix} {H:Hp} (M:Mem S w ι H) (o:Obj) (hp:Obj.plain o=true):
 Mem S (w.alloc o) ι H∧Keeps S w S (w.alloc o)∧Bel w (w.alloc o)∧(w.alloc o).heap[w.heap.size]? =some o∧(w.alloc o).heap.size=w.heap.size+1∧∀b,b<w.heap.size→(w.alloc o).heap[b]? =w.heap[b]? :=by
 have hk:Keeps S w S (w.alloc o):=jN M.imm (w:=w) o;have hbel:Bel w (w.alloc o):=jM _ _ (fJ hp);have old:∀b,b<w.heap.size→(w.alloc o).heap[b]? =w.heap[b]? :=fun b hb=>gI hb;exact⟨⟨fun k ob ho=>(M.obj k ob ho).mono hk (.refl _) hbel (fun b hb=>old b ((M.obj k ob ho).lt hb)) (fun _=>rfl) rfl (fun _ _ _ h=>h),M.liveO,M.liveT,M.dist,fun b j hs=>by rw[(hk.imm b j hs).2];exact M.imm b j hs⟩,
  hk,hbel,fC _ _,by simp,old⟩
theorem gU (hB:BOK B) (hm:P.follows .mixedOrders=true) (hτ:aV P τ) {md rf CP YP} (hC:jy P B CP) (hY:∀r,jY P r B YP)
 {g:Operand} {ps:Array Tmp} {assign body:Code} {n:Nat} {Q:Exit→Env→Hp→Prop} {env:Env} {H:Hp} {gf:Nat} {fs0 cs0 fs cs:List PV} (L:List PV) (gi:Nat→Bool) (hs:Nat→List (Nat × AO))
 (hg:eo env g=.fn (.func gf) fs0 cs0) (hfs:jf fs0=some fs) (hcs:jf cs0=some cs) (hI:mM P gf (dh fs) (dh cs) ps.size L)
 (hok1:dI assign=true) (hok2:dI body=true) (hlen:aex H.length n=true) (hp:aex p n=true)
 (h0:gq (hs 0) H fun H1=>gy (kI [] H 0 H1) fun σ=>nH σ n env H (zi env) H1 Ok)
 (hend:(∀j,j<L.length→gi j=true)→gq (hs L.length) H fun H1=>Q .normal env H1)
 (hb:∀i x,L[i]? =some x→(∀j,j<i→gi j=true)→∀l,gq (hs i) H fun H1=>bM (pQ env ps.toList (La ps.size x)) fun env1=>ev P (some l) B n τ md rf CP YP assign n env1 H1 fun e env2 H2 n2=>match e with
  |.normal=>ev P (some l) B n τ md rf CP YP body n2 env2 H2 fun e env' H' _=>match e with
   |.normal=>Nx (∃extra:Sg,gi i=true∧gq (hs (i+1)) H fun H1=>gy (kI extra H' 0 H1) fun σ=>nH σ n env' H' (zi env) H1 Ok)
   |.ret=>VC (gi i=false)∧Q .ret env H'
   |.exit id=>VC (gi i=false)∧Q (.exit id) env H'
   |_=>False
  |_=>False):Lp md rf CP YP n (AW P none B p (.rangeFunc g ps assign body) Q env H):=by
 refine⟨fun S0 w0 ι0 H0 a w hA=>?_⟩;have hlen:=aeK hlen;have hp:=aeK hp;obtain⟨S,ι,hbw,M,R,D,D',T⟩:=hA.ex;have hn:∀k b,ι.o k=some b→k<n:=fun k b h=>by obtain⟨o,h1,_⟩:=M.liveO k b h;have:=I6 h1;omega
 have hn':∀k b,ι.t k=some b→k<n:=fun k b h=>by obtain⟨o,h1,_⟩:=M.liveT k b h;have:=I6 h1;omega
 simp only[gK,iL]at h0;have hAs:At B n S w ι H env H {tmps:=a.tmps,defers:=[]} w:=⟨S,ι,hbw,M,R,.nil _ _ _,fun d hd=>by simp at hd,.refl _ _ _ _ _⟩
 obtain⟨S1,ι1,hb1,M1,R1,_,_,T1⟩:=((iV (B:=B) h0).2 _ _ _ _ _ _ hAs).ex;refine wpIn_rangeFunc fun fn hfn=>?_;obtain⟨rec,hrec⟩:∃rec:LoopState→Option Code→Loop,(fun sta pe=>{state:=sta,pending:=pe,fn:=fn,tmps:=a.tmps,params:=ps,assign:=assign,body:=body,defers:=w.heap.size})=rec:=⟨_,rfl⟩;obtain⟨Ma,Ka,Ba,ha1,ha2,ha3⟩:=M1.push (.deferred (some [])) rfl;obtain⟨Mb,Kb,Bb,hb1',hb2',hb3'⟩:=Ma.push (.loop (rec .ready none)) rfl;obtain⟨W1,hW1⟩:∃W1,(w.alloc (.deferred (some []))).alloc (.loop (rec .ready none))=W1:=⟨_,rfl⟩;rw[hW1]at Mb Kb Bb hb1' hb2' hb3';rw[ha2]at hb1' hb2' hb3';have hD1:W1.heap[w.heap.size]? =some (.deferred (some [])):=(hb3' _ (by omega)).trans ha1
 have hold:∀b,b<w.heap.size→W1.heap[b]? =w.heap[b]? :=fun b hb=>(hb3' b (by omega)).trans (ha3 b hb)
 have hK1:Keeps S w S1 W1:=T1.keeps.trans (Ka.trans Kb);have hBel1:Bel w W1:=Ba.trans Bb;have hnoH:∀b,owned ι H b→b<w.heap.size:=by rintro b ⟨k,o,h1,_,h3⟩;exact(M.obj k o h1).lt h3
 have hno1:∀b,owned ι1 (aX H (hs 0)) b→b<w.heap.size:=by rintro b ⟨k,o,h1,_,h3⟩;exact(M1.obj k o h1).lt h3
 have hgv:=og R g (fun x e=>by subst e;simp only[eo]at hg;cases hh:vI x<;>rw[hh]at hg<;>cases hg)
 rw[hg]at hgv;generalize hev:a.eval g=gv at hgv
 cases hgv with
 |fn _ _ _ _ us vs hk hl hu hvs=>
  have hle1:ι.le ι1:=⟨fun k b h=>T1.protO k (hn k b h) b h,fun k b m h=>T1.protT k (hn' k _ h) b m h⟩;have hGs:=EF (S0:=S) (w0:=w) (ι0:=ι) (H0:=H) (D0:=w.heap.size) (L0:=w.heap.size+1) (rec:=rec) (L:=L) (st:=fun i=>aX H (hs i)) (gi:=gi) (Q:=fun e H'=>Q e env H') hB;have hYi:Yields P (w.heap.size+1) ps.size (nW B S w ι H w.heap.size (w.heap.size+1) rec L (fun i=>aX H (hs i)) gi (fun e H'=>Q e env H')) (uo gi) L:=by
   rw[←hrec];refine EG hB hm hτ hC hY (md:=md) (rf:=rf) R hn (fun k b h=>hn' k b h) (by omega) (fun h=>by have:=hnoH _ h;omega) (fun h=>by have:=hnoH _ h;omega) hok1 hok2
    (KN:=fun i env' H'=>Nx (∃extra:Sg,gi i=true∧gq (hs (i+1)) H fun H1=>gy (kI extra H' 0 H1) fun σ=>nH σ n env' H' (zi env) H1 Ok)) (KR:=fun i H'=>VC (gi i=false)∧Q .ret env H') (KX:=fun i id H'=>VC (gi i=false)∧Q (.exit id) env H')
    (fun i env' H' h=>?_) (fun i H' h=>⟨h.1.get,h.2⟩) (fun i id H' h=>⟨h.1.get,h.2⟩) fun i x hx hall l=>?_
   ·obtain⟨extra,h1,h2⟩:=h.get
    simp only[gK,iL]at h2;exact⟨h1,(iV h2).2⟩
   ·have:=hb i x hx hall l
    rw[gK,bD]at this;exact this
  have hG0:nW B S w ι H w.heap.size (w.heap.size+1) rec L (fun i=>aX H (hs i)) gi (fun e H'=>Q e env H') [] (fun b=>owned ι H b∨owned ι1 (aX H (hs 0)) b∨b=w.heap.size∨b=w.heap.size+1) S1 W1:=
   ⟨ι1,aX H (hs 0),.ready,none,rfl,Mb.obj,Mb.liveO,Mb.liveT,Mb.dist,hB _ _ _ _ (Ka.trans Kb) hBel1 hb1,hle1,hK1,fun b h=>by have:=hno1 b h;omega,T1.own,fun b h=>by have:=hnoH b h;omega,by omega,hb1',hD1,
    .inl ⟨rfl,rfl,0,aeY _,by simp,fun j hj=>by omega,rfl⟩⟩
  let ιi:Ix:=⟨fun _=>none,fun _=>none,fun k b=>k=0∧(owned ι H b∨owned ι1 (aX H (hs 0)) b∨b=w.heap.size∨b=w.heap.size+1)⟩
  have hxi:ιi.x 0=fun b=>owned ι H b∨owned ι1 (aX H (hs 0)) b∨b=w.heap.size∨b=w.heap.size+1:=by funext b;simp[ιi]
  have Mi:Mem S1 W1 ιi (eH [.ext (nW B S w ι H w.heap.size (w.heap.size+1) rec L (fun i=>aX H (hs i)) gi (fun e H'=>Q e env H')) []]):=by
   have only:∀{k o},ay (eH [.ext (nW B S w ι H w.heap.size (w.heap.size+1) rec L (fun i=>aX H (hs i)) gi (fun e H'=>Q e env H')) []]) k=some o→k=0∧o=.ext (nW B S w ι H w.heap.size (w.heap.size+1) rec L (fun i=>aX H (hs i)) gi (fun e H'=>Q e env H')) []:=by
    intro k o h;rw[iM]at h;cases k with
    |zero=>simp at h;exact⟨rfl,h.symm⟩
    |succ k=>simp at h
   refine⟨fun k o h=>?_,fun k b h=>by simp[ιi]at h,fun k b h=>by simp[ιi]at h,fun k k' o o' b h h' _ _=>by rw[(only h).1,(only h').1],Mb.imm⟩
   obtain⟨rfl,rfl⟩:=only h;refine⟨fun b hb=>?_,hGs,by rw[hxi];exact hG0⟩
   rw[hxi]at hb;rcases hb with h|h|h|h
   ·have:=hnoH b h;omega
   ·have:=hno1 b h;omega
   ·omega
   ·omega
  obtain⟨f1,f2⟩:=iA hfs;obtain⟨c1,c2⟩:=iA hcs;have hAi:bC S1 W1 ιi (dh fs++[.fv (.yield (w.heap.size+1)) #[] #[]]++dh cs) (us++ #[.func (.yield (w.heap.size+1)) #[] #[]]++vs):=by
   refine fK (fK ⟨(bq fs).1.trans (f1.trans hk),fun i hi=>?_⟩ ⟨rfl,fun i hi=>?_⟩) ⟨(bq cs).1.trans (c1.trans hl),fun i hi=>?_⟩
   ·rw[(bq fs).1]at hi
    exact Rep.up (((bq fs).2 i (f2 i (by omega) (hu i (by omega)))).mono hK1 _ (.refl _)) _
   ·have:i=0:=by simp at hi;omega
    subst this;exact .fv _ _ _ _
   ·rw[(bq cs).1]at hi
    exact Rep.up (((bq cs).2 i (c2 i (by omega) (hvs i (by omega)))).mono hK1 _ (.refl _)) _
  refine⟨w.heap.size+1,[{target:=.collected w.heap.size,args:= #[]}],W1,{target:=.fn (.func gf) vs,args:=us++ #[.func (.yield (w.heap.size+1)) #[] #[]]},W1,gf,us++ #[.func (.yield (w.heap.size+1)) #[] #[]]++vs,W1,?_,?_,?_,?_,fun h=>by simp[Fw,Fence.wide]at h,?_⟩
  ·rw[←hW1,←hrec];exact run_enterLoop_outer _ _ _ _ _
  ·simp only[resolve,hev,Deferred.ofValue,Sem.run_bind,Sem.run_pure,Result.andThen]
   simp[go_sem]
  ·intro f' _;trivial
  ·simp only[invoke,Sem.run_bind,Sem.run_pure,Result.andThen]
   exact hI.1 _ _
  ·refine CallsIn.mono (hI.2 _ _ _ hYi S1 W1 ιi _ (lK hK1 hBel1 (hB.glob _ _ hbw)) Mi hAi) ?_
   rintro e w5 ⟨val,S5,ι5,rfl,M5,R5,T5⟩
   obtain⟨_,_,hG5⟩:=M5.obj 0 _ (by rw[iM];rfl)
   obtain⟨ιc,Hc,sta,pend,hD5,hobj,hlo,hlt,hdi,hBc,hle,hkeep,hne,hown,hsz,hszge,hL,hDk,hstat⟩:=hG5;have Mc:Mem S5 w5 ιc Hc:=⟨hobj,hlo,hlt,hdi,M5.imm⟩;have hst':sta≠ .busy:=by rcases hstat with⟨h,_⟩|⟨h,_⟩<;>rw[h]<;>simp
   have hend':(Instr.endLoop (w.heap.size+1)).run P w5=.ok pend (w5.putObj (w.heap.size+1) (.loop {rec sta pend with state:=.exhausted})):=by
    have:=run_endLoop (P:=P) hL (by rw[←hrec];exact hst')
    rw[←hrec]at this⊢;exact this
   obtain⟨M6,TX6,hL6,hO6⟩:=Mc.aside (o':=.loop {rec sta pend with state:=.exhausted}) hL rfl rfl (fun h=>(hne _ h).2 rfl) p;have hDi:∀b,b<w.heap.size→owned ιi (eH [.ext (nW B S w ι H w.heap.size (w.heap.size+1) rec L (fun i=>aX H (hs i)) gi (fun e H'=>Q e env H')) []]) b→owned ι H b:=by
    rintro b hbl ⟨k,o,h1,_,h3⟩
    rw[iM]at h1;cases k with
    |succ k=>simp at h1
    |zero=>
     simp at h1;subst h1;have h3:ιi.x 0 b:=h3;rw[hxi]at h3;rcases h3 with h|h|h|h
     ·exact h
     ·rcases T1.own b h with h|h
      ·exact h
      ·omega
     ·omega
     ·omega
   have TF:Tr p S w ι H S5 (w5.putObj (w.heap.size+1) (.loop {rec sta pend with state:=.exhausted})) ιc Hc:=by
    refine⟨hBel1.trans (T5.below.trans TX6.below),fun b hbl ho=>?_,hkeep.trans TX6.keeps,fun b j hbl hs=>?_,hown,fun k hk b hkb=>hle.o k b hkb,fun k hk b m hkb=>hle.t k b m hkb⟩
    ·rw[hO6 b (by omega),T5.same b (by omega) (fun h=>ho (hDi b hbl h)),hold b hbl]
    ·rcases T5.immN b j (by omega) hs with h|h
     ·exact T1.immN b j hbl h
     ·exact .inr (hDi b hbl h)
   have hAt:At B p S0 w0 ι0 H0 env Hc {a with defers:=[{target:=.collected w.heap.size,args:= #[]}]++a.defers} (w5.putObj (w.heap.size+1) (.loop {rec sta pend with state:=.exhausted})):=by
    refine⟨S5,ιc,hB _ _ _ _ TX6.keeps TX6.below hBc,M6,R.mono (hkeep.trans TX6.keeps) hle,⟨fun d hd=>?_,?_⟩,fun d hd b hb=>?_,T.trans TF⟩
    ·rcases afD.1 hd with rfl|hd
     ·exact⟨w.heap.size,rfl,(hO6 _ (by omega)).trans hDk,fun h=>(hne _ h).1 rfl⟩
     ·exact(D.tr TF).all d hd
    ·refine afE.2 ⟨fun d hd b b' h1 h2 e=>?_,D.nodup⟩
     obtain⟨b2,q1,q2,q3⟩:=D.all d hd;rw[q1]at h2;cases h2;cases h1
     have:=lt_of_heap q2;omega
    ·rcases afD.1 hd with rfl|hd
     ·cases hb;exact T.below.size
     ·exact D' d hd b hb
   refine⟨pend,_,hend',?_⟩;rcases hstat with⟨s1,rfl,i,hi,hpre,hall,hH⟩|⟨s1,i,e,c,hi,hpre,hgf,rfl,hec,hQ⟩
   ·have:i=L.length:=Oi hi (fun j hj=>by rw[mX (by omega)];exact hall j hj) hpre
    subst this;have:=hend hall;rw[gK]at this;exact⟨env,Hc,by rw[hH];exact this,hAt⟩
   ·rcases hec with⟨rfl,rfl⟩|⟨id,rfl,rfl⟩
    ·exact wpIn_ret ⟨env,Hc,hQ,hAt⟩
    ·exact wpIn_exit ⟨env,Hc,hQ,hAt⟩
end
variable {P:Program} {τ:TypeId→Option TE}
theorem Ol {B:Imm→World→Prop} (hB:BOK B) (hm:P.follows .mixedOrders=true) (hτ:aV P τ) {md rf CP YP} (hC:jy P B CP) (hY:jY P none B YP) {g:FuncId} {fn:Func} {args rs:List PV} {objs objs':List AO} (n0:Nat) (extra:Sg)
 (hf:P.funcs[g]? =some fn) (hb:fn.body.isSome=true) (hok:dI (fn.body.getD .skip)=true)
 (h:ug P B τ md rf CP YP fn args objs n0 extra rs objs'):y9 P B g args objs rs objs':=by
 obtain⟨c,hc⟩:=aem.1 hb;unfold ug at h;rw[hc]at h hok;exact wL hB hτ hf hc ((iU hB hm hτ hC hY c hok _ _ _ _ h).mono fun e env H ⟨n,h⟩=>h)
theorem enters' {g:FuncId} {fn:Func} (hf:P.funcs[g]? =some fn) (hn:(fn.name== "runtime.NumGoroutine")=false) (hb:fn.body.isSome=true):Enters P g:=enters hf hn (by cases h:fn.body<;>simp_all)
theorem kJ (hm:P.follows .mixedOrders=true) (hτ:aV P τ) {g:FuncId} {fn:Func} {fs cs L:List PV} {m:Nat} {md:Nat} {rf:List Nat}
 (hf:P.funcs[g]? =some fn) (hn:(fn.name== "runtime.NumGoroutine")=false) (hb:fn.body.isSome=true) (hok:dI (fn.body.getD .skip)=true)
 (h:∀(G:GT) (go:List PV→Bool) (b:Nat),Yields P b m G go L→∃CP,aW P CP∧ug P jX τ md rf CP (rH b m G go L) fn (fs++[.fv (.yield b) #[] #[]]++cs) [.ext G []] 1 [] [] [.ext G (iC go [] L)]):mM P g fs cs m L:=
 ⟨enters' hf hn hb,fun G go b hY=>by
  obtain⟨CP,hC,h⟩:=h G go b hY;exact Ol aK hm hτ hC (hY _ _) 1 [] hf hb hok h⟩
def Dl (c:CL) (K:CL→Prop):Prop:=
 match c with
 |.pv cs=>match qw .i64 cs with
  |some l=>K (.ints .i64 l)
  |none=>match lQ cs with
   |some l=>K (.bools l)
   |none=>False
 |.ints k xs=>K (.ints k xs)
 |.bools xs=>K (.bools xs)
 |.strs xs=>K (.strs xs)
 |.rows k xs=>K (.rows k xs)
 |_=>False
theorem wM {c:CL} {K:CL→Prop} (h:Dl c K):∃d,K d∧d.esz=1∧d.ncell=c.ncell∧d.cnt=d.ncell∧∀j,j<c.ncell→∀{S:Imm} {w:World} {ι:Ix} {v:Value},Rep S w ι (c.get j) v→Rep S w noI (d.get j) v:=by
 unfold Dl at h;split at h
 ·split at h
  ·rename_i l hl
   obtain⟨h1,h2⟩:=tC hl;exact⟨_,h,rfl,h1,rfl,fun j hj S w ι v hr=>h2 j hj hr⟩
  ·split at h
   ·rename_i l hl
    obtain⟨h1,h2⟩:=sM hl;exact⟨_,h,rfl,h1,rfl,fun j hj S w ι v hr=>h2 j hj hr⟩
   ·exact h.elim
 ·exact⟨_,h,rfl,rfl,rfl,fun j hj S w ι v hr=>by cases hr;exact .int _ _ _⟩
 ·exact⟨_,h,rfl,rfl,rfl,fun j hj S w ι v hr=>by cases hr;exact .bp _ _⟩
 ·exact⟨_,h,rfl,rfl,rfl,fun j hj S w ι v hr=>by cases hr;exact .str _ _⟩
 ·exact⟨_,h,rfl,rfl,rfl,fun j hj S w ι v hr=>hr.toNoI⟩
 ·exact h.elim
def oQ:List PV→List PV
 | []=>[]
 |x::xs=>(match eF x with|some y=>y|none=>.any)::oQ xs
theorem EH:∀{ds:List PV},(oQ ds).length=ds.length∧∀i {S:Imm} {w:World} {ι:Ix} {v:Value},Rep S w ι (aC ds i) v→Rep S w noI (aC (oQ ds) i) v:=by
 intro ds;induction ds with
 |nil=>exact⟨rfl,fun i S w ι v h=>.any _ _⟩
 |cons x xs ih=>
  refine⟨by simp[oQ,ih.1],fun i S w ι v h=>?_⟩
  cases i with
  |succ i=>exact ih.2 i h
  |zero=>
   simp only[oQ,aC]at h⊢;split
   ·rename_i y hy;exact fE hy h
   ·exact .any _ _
def vU (H:Hp) (p:PV) (K:PV→List Nat→Prop):Prop:=
 match p with
 |.rsl k off n=>bW H k fun o=>match o with
  |.cells c fz=>Dl c fun d=>iw d fun dn=>off+n≤dn∧K (.isl (d.sub off (off+n)) .none) [k]
  |_=>False
 |.rp k off=>bW H k fun o=>match o with
  |.cells c fz=>match c with
   |.pv ds=>bM (oQ ds) fun us=>K (.ip (.pv us) off) [k]
   |_=>False
  |_=>False
 |p=>match qV p with
  |some q=>K q []
  |none=>False
def EI (H:Hp):List PV→(List PV→List Nat→Prop)→Prop
 | [],K=>K [] []
 |p::r,K=>vU H p fun q a=>EI H r fun qs as=>K (q::qs) (a++as)
def jE (S:Imm) (ι:Ix) (H:Hp):Imm:=fun b j=>S b j∨∃k c fz,ay H k=some (.cells c fz)∧ι.o k=some b∧j<c.ncell
theorem jS {S:Imm} {w:World} {ι:Ix} {H:Hp}:Keeps S w (jE S ι H) w:=⟨fun b j h=>⟨.inl h,rfl⟩,fun b j h=>h⟩
theorem EJ {S:Imm} {w:World} {ι:Ix} {H:Hp} (M:Mem S w ι H) (b j:Nat) (h:jE S ι H b j):(rd w b j).isSome:=by
 rcases h with h|⟨k,c,fz,h1,h2,h3⟩
 ·exact M.imm b j h
 ·have:=(M.lies h1 h2 j h3).1;simpa using this
theorem wN {H:Hp} {p:PV} {K:PV→List Nat→Prop} (h:vU H p K):∃q a,K q a∧∀{S:Imm} {w:World} {ι:Ix} {H':Hp} {v:Value},Mem S w ι H'→(∀k∈a,ay H' k=ay H k)→Rep S w ι p v→Rep (jE S ι H') w noI q v:=by
 unfold vU at h;split at h
 ·rename_i k off n
  rw[bg]at h;obtain⟨ob,hob,h⟩:=h;split at h
  ·rename_i c fz
   obtain⟨d,h,d1,d2,d3,d4⟩:=wM h;rw[dS]at h;obtain⟨hn,h⟩:=h;refine⟨_,_,h,fun{S w ι H' v} M ha hr=>?_⟩;have hob':ay H' k=some (.cells c fz):=(ha k (by simp)).trans hob
   have conv:∀b,ι.o k=some b→∀j,j<d.ncell→jE S ι H' b (0+j)∧Rep (jE S ι H') w noI (d.get j) (rdv w b (0+j)):=fun b hb j hj=>
    ⟨.inr ⟨k,c,fz,hob',hb,by omega⟩,(d4 j (by omega) (M.lies hob' hb j (by omega)).2).mono jS _ (.refl _)⟩
   cases hr with
   |rsl _ _ _ _ b cap hk hc _=>
    have:=lW (S:=jE S ι H') (w:=w) (c:=d) (b:=b) (off:=0) (fun j hj=>(conv b hk j hj).1) (fun j hj=>(conv b hk j hj).2) (x:=off) (y:=off+n) (by omega) hn (cap:=cap) (by omega) noI
    rw[d1]at this;simpa using this
   |rslz _ _ _ b o hk=>exact iJ _ (by rw[iy _ hn];omega) (.inr ⟨b,o,rfl⟩) noI
  ·exact h.elim
 ·rename_i k off
  rw[bg]at h;obtain⟨ob,hob,h⟩:=h;split at h
  ·rename_i c fz
   split at h
   ·rename_i ds
    rw[bD]at h;refine⟨_,_,h,fun{S w ι H' v} M ha hr=>?_⟩;have hob':ay H' k=some (.cells (.pv ds) fz):=(ha k (by simp)).trans hob
    obtain⟨e1,e2⟩:=EH (ds:=ds);cases hr with
    |rp _ _ _ b hk=>
     have:=Rep.ip (S:=jE S ι H') (w:=w) noI (.pv (oQ ds)) off b 0
      (fun j hj=>.inr ⟨k,.pv ds,fz,hob',hk,by simp only[CL.ncell]at hj⊢;omega⟩)
      (fun j hj=>by
       have hj':j<ds.length:=by simp only[CL.ncell]at hj;omega
       exact(e2 j (M.lies hob' hk j (by simpa [CL.ncell]using hj')).2).mono jS _ (.refl _))
     simpa using this
   ·exact h.elim
  ·exact h.elim
 ·split at h
  ·rename_i q hq
   exact⟨_,_,h,fun{S w ι H' v} M ha hr=>(qc hq hr).mono jS _ (.refl _)⟩
  ·exact h.elim
theorem EK {H:Hp}:∀{ps:List PV} {K:List PV→List Nat→Prop},EI H ps K→∃qs a,K qs a∧qs.length=ps.length∧∀{S:Imm} {w:World} {ι:Ix} {H':Hp},Mem S w ι H'→(∀k∈a,ay H' k=ay H k)→∀i,i<ps.length→∀v,Rep S w ι (aC ps i) v→Rep (jE S ι H') w noI (aC qs i) v:=by
 intro ps;induction ps with
 |nil=>intro K h;exact⟨_,_,h,rfl,fun M _ i hi=>by simp at hi⟩
 |cons p r ih=>
  intro K h;obtain⟨q,a,h,hq⟩:=wN h;obtain⟨qs,as,h,hl,hs⟩:=ih h;refine⟨_,_,h,by simp[hl],fun{S w ι H'} M ha i hi v hr=>?_⟩
  cases i with
  |zero=>exact hq M (fun k hk=>ha k (by simp[hk])) hr
  |succ i=>exact hs M (fun k hk=>ha k (by simp[hk])) i (by simpa using hi) v hr
def uq:PV→Bool
 |.int _ _=>true
 |.bool _=>true
 |.bp _=>true
 |.str _=>true
 |_=>false
def vV:List PV→Bool
 | []=>true
 |x::xs=>match uq x with|true=>vV xs|false=>false
def EL:PV→Bool
 |.tup vs=>vV vs
 |v=>uq v
theorem uw {p:PV} (h:uq p=true) {S S':Imm} {w w':World} {ι ι':Ix} {v:Value} (hr:Rep S w ι p v):Rep S' w' ι' p v:=by
 cases p<;>simp[uq]at h<;>cases hr<;>constructor
theorem CB:∀{ps:List PV},vV ps=true→∀i,i<ps.length→uq (aC ps i)=true:=by
 intro ps;induction ps with
 |nil=>intro _ i hi;simp at hi
 |cons p ps ih=>
  intro h i hi;unfold vV at h;split at h
  ·rename_i hp
   cases i with
   |zero=>exact hp
   |succ i=>exact ih h i (by simpa using hi)
  ·cases h
theorem EM {p:PV} (h:EL p=true) {S S':Imm} {w w':World} {ι ι':Ix} {v:Value} (hr:Rep S w ι p v):Rep S' w' ι' p v:=by
 unfold EL at h;split at h
 ·cases hr with|tup _ _ vs hl hh=>exact .tup _ _ _ hl (fun i hi=>uw (CB h i hi) (hh i hi))
 ·exact uw h hr
def uy (C:PSp):CT:=fun args n H K=>EI H args fun xs a=>bM (dh xs) fun xs=>C xs fun v=>ifK (EL v) (K v [] a [])
theorem uz {P:Program} {g:FuncId} {C:PSp} (h:POK P g C):COK P g (uy C):=by
 intro args n H K hk;unfold uy at hk;obtain⟨xs,a,hk,hl,hs⟩:=EK hk;rw[bD]at hk;obtain⟨v,hk,hent,hv⟩:=h _ _ hk;rw[aL]at hk;obtain⟨hp,hk⟩:=hk;refine⟨v,[],a,[],hk,hent,fun S w ι H' vs hgb M hr ha _=>?_⟩;have hA:bC (jE S ι H') w noI (dh xs) vs:=⟨(bq xs).1.trans (hl.trans hr.1),fun i hi=>(bq xs).2 i (hs M ha i (by rw[(bq xs).1]at hi;omega) _ (hr.2 i (by rw[(bq xs).1]at hi;omega)))⟩
 refine(hv (jE S ι H') w vs (lK jS (.refl _) hgb) (EJ M) hA).mono ?_
 rintro e w' ⟨val,S',rfl,o⟩
 have hno:∀k ob b,ay H' k=some ob→ob.has ι k b→b<w.heap.size:=fun k ob b ho hb=>(M.obj k ob ho).lt hb;have hk0:Keeps S w S w':=⟨fun b j hs=>⟨hs,(o.keeps.imm b j (.inl hs)).2⟩,o.keeps.cells⟩;refine⟨val,S,ι,rfl,⟨fun k ob ho=>(M.obj k ob ho).mono hk0 (.refl _) o.below (fun b hb=>o.same b (hno k ob b ho hb)) (fun _=>rfl) rfl (fun b j hb hs=>hs),M.liveO,M.liveT,M.dist,fun b j hs=>by rw[(hk0.imm b j hs).2];exact M.imm b j hs⟩,
  .refl _,hk0,EM hp o.rep,fun p=>⟨o.below,fun b hb _=>o.same b hb,hk0,fun b j hb hs=>.inl hs,fun b h=>.inl h,fun _ _ _ h=>h,fun _ _ b n h=>⟨b,n,h,.inl ⟨rfl,aea _⟩⟩⟩⟩
def I7 (args:List PV) (objs:List AO) (args1:List PV) (H1:Hp):Prop:=
 ∀(S:Imm) (w:World) (ι:Ix) (vs:Array Value),Mem S w ι (eH objs)→bC S w ι args vs→∃ι',Mem S w ι' H1∧bC S w ι' args1 vs∧∀p,Tr p S w ι (eH objs) S w ι' H1
theorem I7.refl (args:List PV) (objs:List AO):I7 args objs args (eH objs):=fun S w ι vs M R=>⟨ι,M,R,fun p=>.refl _ _ _ _ _⟩
section
variable {P:Program} {τ:TypeId→Option TE} {B:Imm→World→Prop}
end
def uD (H:Hp):List PV→(List PV→List (Nat × AO)→Prop)→Prop
 | [],K=>K [] []
 |p::r,K=>match p with
  |.rsl j off n=>bW H j fun o=>match o with
   |.cells c fz=>match fz with
    |true=>False
    |false=>oI c fun d=>lS d fun ce=>iw d fun cn=>ifK (aew off 0) (n≤cn∧uD H r fun us sets=>ifK (match iq j (keys sets)with|true=>false|false=>true) (K (.isl (d.sub 0 n) .none::us) ((j,.cells d true)::sets)))
   |_=>False
  |p=>match eF p with
   |some q=>bI q fun q=>uD H r fun us sets=>K (q::us) sets
   |none=>False
theorem Lb {H:Hp}:∀{ds:List PV} {K:List PV→List (Nat × AO)→Prop},uD H ds K→∃us sets,K us sets∧us.length=ds.length∧
 ∀{S:Imm} {w:World} {ι:Ix} {H':Hp} (vals:Nat→Value),Mem S w ι H'→(∀j∈keys sets,ay H' j=ay H j)→(∀i,i<ds.length→Rep S w ι (aC ds i) (vals i))→
  ∃S',Mem S' w ι (aX H' sets)∧Keeps S w S' w∧(∀p,Tr p S w ι H' S' w ι (aX H' sets))∧∀i,i<us.length→Rep S' w noI (aC us i) (vals i):=by
 intro ds;induction ds with
 |nil=>intro K h;exact⟨_,_,h,rfl,fun vals M _ _=>⟨_,M,.refl _ _,fun p=>.refl _ _ _ _ _,fun i hi=>by simp at hi⟩⟩
 |cons p r ih=>
  intro K h;unfold uD at h;split at h
  ·rename_i j off n
   rw[bg]at h;obtain⟨ob,hob,h⟩:=h;split at h
   ·rename_i c fz
    split at h
    ·exact h.elim
    ·obtain⟨d,hA,d1,d2,d3⟩:=jC h
     clear h;simp only[fU,dS,aL]at hA;obtain⟨hoff,hn,hB⟩:=hA;have hoff:=aeB hoff;subst hoff;obtain⟨us,sets,hC,hl,hs⟩:=ih hB;obtain⟨hj,hK⟩:=hC;have hj:j∉keys sets:=fun hm=>by rw[←oN]at hm;rw[hm]at hj;cases hj
     refine⟨_,_,hK,by simp[hl],fun{S w ι H'} vals M ha hr=>?_⟩
     have hob':=(ha j (by simp[keys])).trans hob
     obtain⟨S1,M1,K1,T1,F1⟩:=M.freeze (c':=d) hob' d2 (fun j hj=>by intro S w ι v hr;exact d3 j hj hr)
     obtain⟨S2,M2,K2,T2,R2⟩:=hs (fun i=>vals (i+1)) M1 (fun j' hj'=>by
      rw[aY,if_neg (fun(e:j'=j)=>hj (by subst e;exact hj'))]
      exact ha j' (by simp only[keys,List.map_cons,afD];exact .inr hj')) (fun i hi=>by have:=(hr (i+1) (by simpa using hi)).mono K1 _ (.refl _);simpa [aC]using this)
     refine⟨S2,M2,K1.trans K2,fun p=>(T1 p).trans (T2 p),fun i hi=>?_⟩;cases i with
     |succ i=>simpa [aC]using R2 i (by simpa using hi)
     |zero=>
      simp only[aC];have h0:=(hr 0 (by simp)).mono K1 _ (.refl _)
      simp only[aC]at h0;refine Rep.mono K2 (ι:=noI) ?_ _ (.refl _);generalize vals 0=v0 at h0
      cases h0 with
      |rsl _ _ _ _ b cap hk hc _=>
       have:=lW (S:=S1) (w:=w) (c:=d) (b:=b) (off:=0) (fun j hj=>by rw[aeC];exact(F1 b hk j hj).1) (fun j hj=>by rw[aeC];exact(F1 b hk j hj).2) (x:=0) (y:=n) (by omega) hn (cap:=cap) (by omega) noI
       simpa using this
      |rslz _ _ _ b o hk=>
       exact iJ _ (by rw[iy _ (by omega)]) (.inr ⟨b,o,rfl⟩) noI
   ·exact h.elim
  ·split at h
   ·rename_i q hq
    rw[bE]at h;obtain⟨us,sets,hK,hl,hs⟩:=ih h;refine⟨_,_,hK,by simp[hl],fun{S w ι H'} vals M ha hr=>?_⟩
    obtain⟨S2,M2,K2,T2,R2⟩:=hs (fun i=>vals (i+1)) M ha (fun i hi=>by have:=hr (i+1) (by simpa using hi);simpa [aC]using this)
    refine⟨S2,M2,K2,T2,fun i hi=>?_⟩;cases i with
    |succ i=>simpa [aC]using R2 i (by simpa using hi)
    |zero=>simpa [aC]using(fE hq (hr 0 (by simp))).mono K2 _ (.refl _)
   ·exact h.elim
theorem uE (H:Hp):∀(a b:List (Nat × AO)),aX H (a++b)=aX (aX H a) b:=by
 intro a;induction a generalizing H with
 |nil=>intro b;rfl
 |cons x a ih=>intro b;obtain⟨k,o⟩:=x;simp only[List.cons_append,aX,ih]
section
variable {P:Program} {r:Option Nat} {τ:TypeId→Option TE} {B:Imm→World→Prop} {p:Nat}
theorem xw {X:Type} (I:X→Prop) (us:X→List (Nat × PV)) (hs:X→List (Nat × AO)) (μ:X→Nat) (b:Nat) {md rf CP YP} (W:Walk P r B τ CP YP)
 {c:Code} {n:Nat} {Q:Exit→Env→Hp→Prop} {env:Env} {H:Hp} (hok:dI c=true)
 (h0:ev P r B p τ md rf CP YP c n env H fun e env' H' _=>match e with
  |.normal=>Nx (∃(x':X) (extra:Sg),(I x'∧μ x'<b)∧gq (hs x') H fun H1=>bM (stE c env (us x')) fun env1=>gy (kI extra H' 0 H1) fun σ=>nH σ p env' H' env1 H1 Ok)
  |e=>Q e env' H')
 (hb:∀x,I x→gq (hs x) H fun H1=>bM (stE c env (us x)) fun env1=>ev P r B p τ md rf CP YP c n env1 H1 fun e env' H' _=>match e with
  |.normal=>Nx (∃(x':X) (extra:Sg),(I x'∧μ x'<μ x)∧gq (hs x') H fun H1=>bM (stE c env (us x')) fun env1=>gy (kI extra H' 0 H1) fun σ=>nH σ p env' H' env1 H1 Ok)
  |e=>Q e env' H'):Lp md rf CP YP n (AW P r B p (.loop c) Q env H):=by
 refine⟨I4 (X:=Option {x:X // I x}) (fun x=>match x with|none=>(env,H)|some x=>(stE c env (us x.1),aX H (hs x.1))) (fun x=>match x with|none=>b|some x=>μ x.1) none (fun _ _ _ _ _ _ h=>h) fun x=>?_⟩
 cases x with
 |none=>
  refine(iU W.hB W.hm W.hτ W.hC W.hY c hok _ _ _ _ h0).mono ?_
  rintro e env' H' ⟨_,h⟩
  cases e with
  |normal=>
   obtain⟨x',extra,⟨h0,h1⟩,h2⟩:=h.get;simp only[gK,bD,iL]at h2;exact⟨some ⟨x',h0⟩,h1,(iV h2).2⟩
  |_=>exact h
 |some x=>
  have h:=hb x.1 x.2;simp only[gK,bD,iL]at h;refine(iU W.hB W.hm W.hτ W.hC W.hY c hok _ _ _ _ h).mono ?_
  rintro e env' H' ⟨_,h⟩
  cases e with
  |normal=>
   obtain⟨x',extra,⟨h0,h1⟩,h2⟩:=h.get;exact⟨some ⟨x',h0⟩,h1,(iV h2).2⟩
  |_=>exact h
end
end Go.Eng
namespace Go.Eng
open Go.RowKit Go.Sort
set_option linter.unusedSimpArgs false
set_option linter.unusedVariables false
theorem Mem.write' {S:Imm} {w w':World} {ι:Ix} {H:Hp} (M:Mem S w ι H) {k b:Nat} {c c':CL} {arr arr':Array Value} {e:TypeId}
 (ho:ay H k=some (.cells c false)) (hk:ι.o k=some b) (h:w.heap[b]? =some (.cells arr e (0,0))) (below:Bel w w') (other:∀b',b'<w.heap.size→b'≠b→w'.heap[b']? =w.heap[b']?) (here:w'.heap[b]? =some (.cells arr' e (0,0))) (hsz:arr.size≤arr'.size)
 (hn:c'.ncell≤arr'.size) (hc:∀j,j<c'.ncell→Rep S w ι (c'.get j) (arr'.getD j undef)):
 Mem S w' ι (aR H k (.cells c' false))∧Keeps S w S w'∧∀p,Tr p S w ι H S w' ι (aR H k (.cells c' false)):=by
 obtain⟨b0,arr0,e0,h1,h2,h3,h4,h5⟩:=M.obj k _ ho;rw[hk]at h1;cases h1
 have hlt:∀b' j,(rd w b' j).isSome→b'<w.heap.size:=fun b' j hs=>by
  rcases aeb b' w.heap.size with h6|h6
  ·exact h6
  ·unfold rd at hs;rw[aec h6]at hs;simp at hs
 have hkeep:Keeps S w S w':=⟨fun b' j hs=>⟨hs,cB (other b' (hlt b' j (M.imm b' j hs)) (fun e=>by subst e;exact h5 j hs)) j⟩,fun b' j hs=>by
  by_cases eb:b'=b
  ·subst eb
   rw[aN h]at hs;rw[aN here];have:j<arr.size:=by
    rcases aeb j arr.size with h1|h1
    ·exact h1
    ·rw[aec h1]at hs;simp at hs
   rw[aeg (by omega)];rfl
  ·rw[cB (other b' (hlt b' j hs) eb) j];exact hs⟩
 have ht:ι.t k=none:=by
  cases et:ι.t k with
  |none=>rfl
  |some x=>obtain⟨o,g1,g2⟩:=M.liveT k x et;rw[ho]at g1;cases g1;simp[AO.isTok]at g2
 have:=M.step (S':=S) (w':=w') (ι':=ι) (k:=k) (o':=.cells c' false) (b:=b) below other hkeep (fun b' j h=>.inl h) (fun j hs=>absurd hs (h5 j)) (.refl _) (fun _ _=>rfl) (fun _ _=>rfl)
  rfl (.inr ⟨_,ho,rfl,hk⟩) (fun b'=>by simp[AO.has,hk,eq_comm]) (by simp[AO.isTok]) (fun _=>ht) ⟨b,arr',e,hk,here,hn,fun j hj=>(hc j hj).mono hkeep _ (.refl _),h5⟩
 exact⟨this.1,hkeep,this.2⟩
def fG (l:List Int):List Int:=l.mergeSort fun x y=>decide (x≤y)
theorem mY (l:List Int):(fG l).length=l.length:=List.length_mergeSort l
def zk:CT:=fun args n H K=>match args with
 | [p]=>match p with
  |.rsl k off m=>bW H k fun o=>match o with
   |.cells c fz=>match fz with
    |true=>False
    |false=>match c with
     |.ints q xs=>ifK (decide (q=.i64)&&aew off 0) ((m=xs.length∧xs.length<4611686018427387904)∧K (.tup []) [(k,.cells (.ints .i64 (fG xs)) false)] [k] [])
     |_=>False
   |_=>False
  |_=>False
 |_=>False
theorem Om {P:Program} {g:FuncId} (hent:∀vs w,(callFunc g vs).run P w=.ok (.enter g vs) w)
 (hS:∀(blk off cap:Nat) (zs:List Int) (w:World),Holds (Value.int .i64) w blk off zs.toArray→blk<w.heap.size→zs.length<4611686018427387904→
  Calls P g #[.slice (some ⟨blk,off,none⟩) zs.length cap] w fun e w'=>e=.returned (.tuple #[])∧∃n os,w'=grow (Sort.putRow (Value.int .i64) (Sort.ahead w n) blk off (zs.mergeSort fun x y=>decide (x≤y)).toArray) os):COK P g zk:=by
 intro args n H K hk;unfold zk at hk;split at hk
 ·split at hk
  ·rename_i k off m
   rw[bg]at hk;obtain⟨ob,hob,hk⟩:=hk;split at hk
   ·rename_i c fz
    split at hk
    ·exact hk.elim
    ·split at hk
     ·rename_i q xs
      simp only[aL,aeA,decide_eq_true_eq]at hk;obtain⟨⟨rfl,hoff⟩,⟨rfl,hlen⟩,hk⟩:=hk;have hoff:=aeB hoff;subst hoff;refine⟨_,_,_,[],hk,hent,fun S w ι H' vs _ M hr ha _=>?_⟩;have hob':=(ha k (by simp)).trans hob
      obtain⟨b,arr,e,g1,g2,g3,g4,g5⟩:=M.obj k _ hob';have hv0:∃o cap,vs= #[.slice (some ⟨b,o,none⟩) xs.length cap]∧(o=0∨xs.length=0):=by
       have h0:=hr.2 0 (by simp)
       have hsz:vs.size=1:=hr.1.symm;simp only[aC]at h0;have hvs:vs= #[vs.getD 0 undef]:=by
        apply afr (by simp[hsz])
        intro i h1 h2;have:i=0:=by omega
        subst this;simp[aej,h1]
       rw[hvs];generalize vs.getD 0 undef=v0 at h0
       generalize hml:xs.length=ml at h0
       cases h0 with
       |rsl _ _ _ _ b' cap hk' hc _=>rw[g1]at hk';cases hk';exact⟨0,cap,rfl,.inl rfl⟩
       |rslz _ _ _ b' o hk'=>rw[g1]at hk';cases hk';exact⟨o,0,rfl,.inr rfl⟩
      obtain⟨off,cap,rfl,ho⟩:=hv0;have hbw:b<w.heap.size:=by
       rcases aeb b w.heap.size with h6|h6
       ·exact h6
       ·rw[aec h6]at g2;cases g2
      have hg4:∀j,j<xs.length→arr[j]? =some (.int .i64 (xs.getD j 0)):=fun j hj=>by
       have h7:=g4 j hj;have h8:j<arr.size:=aed hj g3;rw[aej,aeg h8]at h7;rw[aeg h8];simp only[CL.get,Option.getD_some]at h7;generalize arr[j]=y at h7
       cases h7;rfl
      have hH:Holds (Value.int .i64) w b off xs.toArray:=fun j hj=>by
       have hj':j<xs.length:=by simpa using hj
       have h9:off=0:=by rcases ho with h|h;exact h;omega
       subst h9;rw[aeC];refine⟨?_,by simp[World.frozen?,g2]⟩
       rw[fD,aN g2,hg4 j hj'];simp[aeo,aev hj']
      refine(callsIn_wide.2 (hS b off cap xs w hH hbw hlen)).mono ?_
      rintro ex w' ⟨rfl,n',os,hw'⟩
      have hsl:(fG xs).length=xs.length:=mY xs;obtain⟨arr',harr,hsz',hget⟩:∃arr',w'.heap[b]? =some (.cells arr' e (0,0))∧arr'.size=arr.size∧∀j,j<xs.length→arr'[j]? =some (.int .i64 ((fG xs).getD j 0)):=by
       refine⟨putCells (Value.int .i64) off (fG xs).toArray arr,?_,by simp[putCells],fun j hj=>?_⟩
       ·rw[hw',heap_grow_old _ _ (by simpa [Sort.ahead]using hbw)]
        show(mapBlock (Sort.ahead w n') b _).heap[b]? =_;simp only[mapBlock,Sort.ahead,aeh,if_true,g2,aei,onCells];rfl
       ·have h9:off=0:=by rcases ho with h|h;exact h;omega
        subst h9;have h8:j<arr.size:=aed hj g3;simp only[putCells,Array.getElem?_mapIdx,aeg h8,aei,aeY,aeC,true_and,afX,hsl,if_pos hj,Nat.sub_zero];simp[aeo,aev (by omega:j<(fG xs).length),hsl,hj]
      have hoth:∀b',b'<w.heap.size→b'≠b→w'.heap[b']? =w.heap[b']? :=fun b' h1 h2=>by
       rw[hw',heap_grow_old _ _ (by simpa [Sort.ahead]using h1)]
       show(mapBlock (Sort.ahead w n') b _).heap[b']? =_;simp only[mapBlock,Sort.ahead,aeh,if_neg (Ne.symm h2)]
      have hbel:Bel w w':=by
       have hlen0:∀b0,b0<w.heap.size→bsz w' b0=bsz w b0:=fun b0 hb0=>by
        by_cases e0:b0=b
        ·subst e0;unfold bsz;rw[harr,g2];simp[hsz']
        ·exact eu (hoth b0 hb0 e0)
       rw[hw']at hlen0⊢;exact⟨rfl,rfl,rfl,by simp[Sort.ahead],hlen0⟩
      obtain⟨M',K',T'⟩:=M.write' (c':=.ints .i64 (fG xs)) hob' g1 g2 hbel hoth harr (by omega) (by simp only[CL.ncell,hsl];simp only[CL.ncell]at g3;omega) (fun j hj=>by
       simp only[CL.ncell,hsl]at hj;rw[aej,hget j hj];exact .int _ _ _)
      exact⟨_,S,ι,rfl,M',.refl _,K',.tup _ _ _ rfl (fun i hi=>by simp at hi),T'⟩
     ·exact hk.elim
   ·exact hk.elim
  ·exact hk.elim
 ·exact hk.elim
end Go.Eng
namespace Go.Eng
open Go.RowKit
set_option linter.unusedSimpArgs false
set_option linter.unusedVariables false
section
variable {P:Program} {r:Option Nat} {B:Imm→World→Prop} {p:Nat}
theorem At.freeze {S0:Imm} {w0:World} {ι0:Ix} {H0 H:Hp} {env:Env} {a:Act} {w:World} (h:At B p S0 w0 ι0 H0 env H a w) (hB:BOK B) {k:Nat} {x d:CL} (hx:ay H k=some (.cells x false)) (hn:d.ncell=x.ncell)
 (hc:∀j,j<x.ncell→∀{S:Imm} {w:World} {ι:Ix} {v:Value},Rep S w ι (x.get j) v→Rep S w noI (d.get j) v):At B p S0 w0 ι0 H0 env (aR H k (.cells d true)) a w:=by
 obtain⟨S,ι,hb,M,R,D,D',T⟩:=h.ex;obtain⟨S',M',K',T',_⟩:=M.freeze hx hn hc;exact⟨S',ι,hB _ _ _ _ K' (.refl _) hb,M',R.mono K' (.refl _),D.tr (T' p),D',T.trans (T' p)⟩
end
theorem EN {w:World} {b j:Nat} (hs:(rd w b j).isSome):b<w.heap.size:=by
 rcases aeb b w.heap.size with h|h
 ·exact h
 ·unfold rd at hs;rw[aec h]at hs;simp at hs
theorem Lc {S:Imm} {w w':World} {v:PV} {val:Value} (himm:∀b j,S b j→(rd w b j).isSome) (hB:Below w.heap.size w w') (hr:Rep S w noI v val):KT S w v val S w':=by
 have hk:Keeps S w S w':=⟨fun b j hs=>⟨hs,cB (hB.block b (EN (himm b j hs))) j⟩,fun b j hs=>by rw[cB (hB.block b (EN hs)) j];exact hs⟩
 refine⟨fun b j hs=>by rw[(hk.imm b j hs).2];exact himm b j hs,hk,hr.mono hk _ (.refl _),⟨hB.os,hB.tape,hB.output,hB.size,fun b hb=>eu (hB.block b hb)⟩,hB.block,fun b j _ hs=>hs⟩
theorem pR {P:Program} {g:FuncId} {xs:List PV} {u:PV} (hent:Enters P g)
 (h:∀(S:Imm) (w:World) (vs:Array Value),gB S w→(∀b j,S b j→(rd w b j).isSome)→bC S w noI xs vs→∃val,Rep S w noI u val∧Calls P g vs w fun e w'=>e=.returned val∧Below w.heap.size w w'):aF P g xs u:=by
 refine⟨hent,fun S w vs hg himm hA=>?_⟩;obtain⟨val,hr,hc⟩:=h S w vs hg himm hA;refine(callsIn_wide.2 hc).mono ?_
 rintro e w' ⟨rfl,hB⟩
 exact⟨val,S,rfl,Lc himm hB hr⟩
theorem iD {P:Program} {g:FuncId} {xs:List PV} {u:PV} (hent:Enters P g)
 (h:∀(S:Imm) (w:World) (vs:Array Value),(∀b j,S b j→(rd w b j).isSome)→bC S w noI xs vs→∃val,Rep S w noI u val∧Calls P g vs w fun e w'=>e=.returned val∧Below w.heap.size w w'):aF P g xs u:=
 pR hent fun S w vs _=>h S w vs
theorem Oo {S:Imm} {w:World} {ι:Ix} {xs:List ByteArray} {t:Tok} {v:Value} (himm:∀b j,S b j→(rd w b j).isSome) (h:Rep S w ι (.isl (.strs xs) t) v):
 (∃a,v=.slice a 0 0∧xs=[])∨∃b off cap,v=.slice (some ⟨b,off,none⟩) xs.length cap∧xs.length≤cap∧(∀(j:Nat) x,xs[j]? =some x→w.cell? ⟨b,off+j,none⟩=some (.string x))∧(0<xs.length→b<w.heap.size):=by
 cases h with
 |islnil _ _ _ h=>exact .inl ⟨_,rfl,List.eq_nil_of_length_eq_zero h⟩
 |isl _ _ _ b off cap hc hs h hf ho=>
  refine .inr ⟨b,off,cap,rfl,hc,fun j x hx=>?_,fun h0=>EN (himm b (off+0) (hs 0 h0))⟩;have hj:j<xs.length:=(afS.1 hx).1;have h1:=h j hj;have h2:=himm b (off+j) (hs j hj);rw[fD];obtain⟨y,hy⟩:=aem.1 h2;have h3:rdv w b (off+j)=y:=by unfold rdv;rw[hy];rfl
  rw[h3]at h1;rw[hy];have h4:(CL.strs xs).get j=.str x:=by simp only[CL.get];rw[aeo,hx];rfl
  rw[h4]at h1;cases h1;rfl
theorem CF {P:Program} {g:FuncId} {args as:List PV} {H:Hp} {v:PV} (ha:jf args=some as) (h:aF P g as v):iK P g args H v [] [] []:=by
 obtain⟨hent,h⟩:=h;refine⟨hent,fun S w ι H' vs hgb M hr _ _=>?_⟩;obtain⟨h1,h2⟩:=iA ha;refine(h S w vs hgb M.imm ⟨h1.trans hr.1,fun i hi=>h2 i (by omega) (hr.2 i (by omega))⟩).mono ?_
 rintro e w' ⟨val,S',rfl,o⟩
 have hno:∀k ob b,ay H' k=some ob→ob.has ι k b→b<w.heap.size:=fun k ob b ho hb=>(M.obj k ob ho).lt hb;refine⟨val,S',ι,rfl,⟨fun k ob ho=>(M.obj k ob ho).mono o.keeps (.refl _) o.below (fun b hb=>o.same b (hno k ob b ho hb)) (fun _=>rfl) rfl (fun b j hb hs=>o.immN b j (hno k ob b ho hb) hs),M.liveO,M.liveT,M.dist,o.imm⟩,
  .refl _,o.keeps,o.rep.up ι,fun p=>⟨o.below,fun b hb _=>o.same b hb,o.keeps,fun b j hb hs=>.inl (o.immN b j hb hs),fun b h=>.inl h,fun _ _ _ h=>h,fun _ _ b n h=>⟨b,n,h,.inl ⟨rfl,aea _⟩⟩⟩⟩
def Dm (C:PSp):CT:=fun args n H K=>match jf args with|some xs=>bM xs fun as=>C as fun v=>K v [] [] []|none=>False
theorem EO {P:Program} {g:FuncId} {C:PSp} (h:POK P g C):COK P g (Dm C):=by
 intro args n H K hk;unfold Dm at hk;split at hk
 ·rename_i as ha
  rw[bD]at hk;obtain⟨v,hK,hs⟩:=h _ _ hk;exact⟨v,[],[],[],hK,CF ha hs⟩
 ·exact hk.elim
def rJ (H:Hp) (p:PV) (K:PV→List Nat→Prop):Prop:=
 match p with
 |.rsl k off n=>bW H k fun o=>match o with
  |.cells c fz=>Dl c fun d=>iw d fun dn=>off+n≤dn∧K (.isl (d.sub off (off+n)) .none) [k]
  |_=>False
 |p=>match eF p with
  |some q=>bI q fun q=>K q []
  |none=>K .any []
theorem wO {H:Hp} {p:PV} {K:PV→List Nat→Prop} (h:rJ H p K):∃q a,K q a∧∀{S:Imm} {w:World} {ι:Ix} {H':Hp} {v:Value},Mem S w ι H'→(∀k∈a,ay H' k=ay H k)→Rep S w ι p v→Rep (jE S ι H') w noI q v:=by
 unfold rJ at h;split at h
 ·rename_i k off n
  have h':vU H (.rsl k off n) K:=h;exact wN h'
 ·split at h
  ·rename_i q hq
   rw[bE]at h;exact⟨_,_,h,fun{S w ι H' v} M ha hr=>(fE hq hr).mono jS _ (.refl _)⟩
  ·exact⟨_,_,h,fun{S w ι H' v} M ha hr=>.any _ _⟩
def qx (H:Hp):List PV→(List PV→List Nat→Prop)→Prop
 | [],K=>K [] []
 |p::r,K=>rJ H p fun q a=>qx H r fun qs as=>K (q::qs) (a++as)
theorem uF {H:Hp}:∀{ps:List PV} {K:List PV→List Nat→Prop},qx H ps K→∃qs a,K qs a∧qs.length=ps.length∧∀{S:Imm} {w:World} {ι:Ix} {H':Hp},Mem S w ι H'→(∀k∈a,ay H' k=ay H k)→∀i,i<ps.length→∀v,Rep S w ι (aC ps i) v→Rep (jE S ι H') w noI (aC qs i) v:=by
 intro ps;induction ps with
 |nil=>intro K h;exact⟨_,_,h,rfl,fun M _ i hi=>by simp at hi⟩
 |cons p r ih=>
  intro K h;obtain⟨q,a,h,hq⟩:=wO h;obtain⟨qs,as,h,hl,hs⟩:=ih h;refine⟨_,_,h,by simp[hl],fun{S w ι H'} M ha i hi v hr=>?_⟩
  cases i with
  |zero=>exact hq M (fun k hk=>ha k (by simp[hk])) hr
  |succ i=>exact hs M (fun k hk=>ha k (by simp[hk])) i (by simpa using hi) v hr
def Ld (H:Hp) (p:PV) (K:PV→List Nat→Prop):Prop:=
 match p with
 |.rp k off=>bW H k fun o=>match o with
  |.cells c fz=>match c with
   |.pv ds=>qx H ds fun us a=>K (.ip (.pv us) off) (k::a)
   |_=>False
  |_=>False
 |.agg cs=>qx H cs fun us a=>K (.agg us) a
 |p=>rJ H p K
theorem H7 {H:Hp} {p:PV} {K:PV→List Nat→Prop} (h:Ld H p K):∃q a,K q a∧∀{S:Imm} {w:World} {ι:Ix} {H':Hp} {v:Value},Mem S w ι H'→(∀k∈a,ay H' k=ay H k)→Rep S w ι p v→Rep (jE S ι H') w noI q v:=by
 unfold Ld at h;split at h
 ·rename_i k off
  rw[bg]at h;obtain⟨ob,hob,h⟩:=h;split at h
  ·rename_i c fz
   split at h
   ·rename_i ds
    obtain⟨us,a,h,hl,hs⟩:=uF h;refine⟨_,_,h,fun{S w ι H' v} M ha hr=>?_⟩;have hob':ay H' k=some (.cells (.pv ds) fz):=(ha k (by simp)).trans hob
    cases hr with
    |rp _ _ _ b hk=>
     have:=Rep.ip (S:=jE S ι H') (w:=w) noI (.pv us) off b 0
      (fun j hj=>.inr ⟨k,.pv ds,fz,hob',hk,by simp only[CL.ncell]at hj⊢;omega⟩)
      (fun j hj=>by
       have hj':j<ds.length:=by simp only[CL.ncell]at hj;omega
       have hL:=(M.lies hob' hk j (by simpa [CL.ncell]using hj')).2
       exact hs M (fun k hk=>ha k (by simp[hk])) j hj' _ hL)
     simpa using this
   ·exact h.elim
  ·exact h.elim
 ·rename_i cs
  obtain⟨us,a,h,hl,hs⟩:=uF h;refine⟨_,_,h,fun{S w ι H' v} M ha hr=>?_⟩;cases hr with
  |agg _ _ vs hl' hh=>exact .agg _ _ _ (hl.trans hl') fun i hi=>hs M ha i (by omega) _ (hh i (by omega))
 ·exact wO h
def EP (H:Hp):List PV→(List PV→List Nat→Prop)→Prop
 | [],K=>K [] []
 |p::r,K=>Ld H p fun q a=>EP H r fun qs as=>K (q::qs) (a++as)
theorem ER {H:Hp}:∀{ps:List PV} {K:List PV→List Nat→Prop},EP H ps K→∃qs a,K qs a∧qs.length=ps.length∧∀{S:Imm} {w:World} {ι:Ix} {H':Hp},Mem S w ι H'→(∀k∈a,ay H' k=ay H k)→∀i,i<ps.length→∀v,Rep S w ι (aC ps i) v→Rep (jE S ι H') w noI (aC qs i) v:=by
 intro ps;induction ps with
 |nil=>intro K h;exact⟨_,_,h,rfl,fun M _ i hi=>by simp at hi⟩
 |cons p r ih=>
  intro K h;obtain⟨q,a,h,hq⟩:=H7 h;obtain⟨qs,as,h,hl,hs⟩:=ih h;refine⟨_,_,h,by simp[hl],fun{S w ι H'} M ha i hi v hr=>?_⟩
  cases i with
  |zero=>exact hq M (fun k hk=>ha k (by simp[hk])) hr
  |succ i=>exact hs M (fun k hk=>ha k (by simp[hk])) i (by simpa using hi) v hr
def wkE:PV→PV
 |.int k n=>.int k n
 |.bool b=>.bool b
 |.bp b=>.bp b
 |.str s=>.str s
 |_=>.any
def xA:List PV→List PV
 | []=>[]
 |x::xs=>wkE x::xA xs
def wk1:PV→PV
 |.agg cs=>.agg (xA cs)
 |p=>wkE p
def Ae:List PV→List PV
 | []=>[]
 |x::xs=>wk1 x::Ae xs
def wkK (v:PV) (K:PV→Prop):Prop:=
 match v with
 |.tup vs=>bM (Ae vs) fun us=>K (.tup us)
 |.agg cs=>bM (xA cs) fun us=>K (.agg us)
 |p=>bI (wkE p) K
theorem uG {p:PV} {S S':Imm} {w w':World} {ι ι':Ix} {v:Value} (hr:Rep S w ι p v):Rep S' w' ι' (wkE p) v:=by
 cases p<;>simp only[wkE]<;>first|exact .any _ _|(cases hr;constructor)
theorem xB (l:List PV):(xA l).length=l.length∧∀i,aC (xA l) i=wkE (aC l i):=by
 induction l with
 |nil=>exact⟨rfl,fun i=>rfl⟩
 |cons x xs ih=>exact⟨by simp[xA,ih.1],fun i=>by cases i<;>simp[xA,aC,ih.2]⟩
theorem BX {p:PV} {S S':Imm} {w w':World} {ι ι':Ix} {v:Value} (hr:Rep S w ι p v):Rep S' w' ι' (wk1 p) v:=by
 unfold wk1;split
 ·rename_i cs
  cases hr with|agg _ _ vs hl hh=>exact .agg _ _ _ ((xB cs).1.trans hl) fun i hi=>by rw[(xB cs).2];exact uG (hh i (by rw[(xB cs).1]at hi;exact hi))
 ·exact uG hr
theorem xC (l:List PV):(Ae l).length=l.length∧∀i,aC (Ae l) i=wk1 (aC l i):=by
 induction l with
 |nil=>exact⟨rfl,fun i=>rfl⟩
 |cons x xs ih=>exact⟨by simp[Ae,ih.1],fun i=>by cases i<;>simp[Ae,aC,ih.2]⟩
theorem Oq {v:PV} {K:PV→Prop} (h:wkK v K):∃u,K u∧∀{S S':Imm} {w w':World} {ι ι':Ix} {val:Value},Rep S w ι v val→Rep S' w' ι' u val:=by
 unfold wkK at h;split at h
 ·rename_i vs
  rw[bD]at h;refine⟨_,h,fun hr=>?_⟩;cases hr with|tup _ _ us hl hh=>exact .tup _ _ _ ((xC vs).1.trans hl) fun i hi=>by rw[(xC vs).2];exact BX (hh i (by rw[(xC vs).1]at hi;exact hi))
 ·rename_i cs
  rw[bD]at h;exact⟨_,h,fun hr=>BX (p:=.agg cs) hr⟩
 ·rw[bE]at h
  exact⟨_,h,fun hr=>uG hr⟩
def gM (C:PSp):CT:=fun args n H K=>EP H args fun xs a=>bM (dh xs) fun xs=>C xs fun v=>wkK v fun u=>K u [] a []
theorem eB {P:Program} {g:FuncId} {C:PSp} (h:POK P g C):COK P g (gM C):=by
 intro args n H K hk;unfold gM at hk;obtain⟨xs,a,hk,hl,hs⟩:=ER hk;rw[bD]at hk;obtain⟨v,hk,hent,hv⟩:=h _ _ hk;obtain⟨u,hk,hp⟩:=Oq hk;refine⟨u,[],a,[],hk,hent,fun S w ι H' vs hgb M hr ha _=>?_⟩;have hA:bC (jE S ι H') w noI (dh xs) vs:=⟨(bq xs).1.trans (hl.trans hr.1),fun i hi=>(bq xs).2 i (hs M ha i (by rw[(bq xs).1]at hi;omega) _ (hr.2 i (by rw[(bq xs).1]at hi;omega)))⟩
 refine(hv (jE S ι H') w vs (lK jS (.refl _) hgb) (EJ M) hA).mono ?_
 rintro e w' ⟨val,S',rfl,o⟩
 have hno:∀k ob b,ay H' k=some ob→ob.has ι k b→b<w.heap.size:=fun k ob b ho hb=>(M.obj k ob ho).lt hb;have hk0:Keeps S w S w':=⟨fun b j hs=>⟨hs,(o.keeps.imm b j (.inl hs)).2⟩,o.keeps.cells⟩;refine⟨val,S,ι,rfl,⟨fun k ob ho=>(M.obj k ob ho).mono hk0 (.refl _) o.below (fun b hb=>o.same b (hno k ob b ho hb)) (fun _=>rfl) rfl (fun b j hb hs=>hs),M.liveO,M.liveT,M.dist,fun b j hs=>by rw[(hk0.imm b j hs).2];exact M.imm b j hs⟩,
  .refl _,hk0,hp o.rep,fun p=>⟨o.below,fun b hb _=>o.same b hb,hk0,fun b j hb hs=>.inl hs,fun b h=>.inl h,fun _ _ _ h=>h,fun _ _ b n h=>⟨b,n,h,.inl ⟨rfl,aea _⟩⟩⟩⟩
def vW:List Nat→List Nat→Bool
 | [],_=>true
 |k::r,l=>match iq k l with|true=>false|false=>vW r l
theorem uH {a b:List Nat} (h:vW a b=true):∀k∈a,k∉b:=by
 induction a with
 |nil=>intro k hk;simp at hk
 |cons x a ih=>
  unfold vW at h;split at h
  ·cases h
  ·rename_i hx
   intro k hk;rcases afD.1 hk with rfl|hk
   ·intro hm;rw[←oN]at hm;rw[hm]at hx;cases hx
   ·exact ih h k hk
def rM (H:Hp):List PV→(List PV→List (Nat × AO)→Prop)→Prop
 | [],K=>K [] []
 |p::r,K=>match p with
  |.rp k off=>bW H k fun o=>match o with
   |.cells c fz=>match fz with
    |true=>False
    |false=>match c with
     |.pv ds=>uD H ds fun us s1=>rM H r fun ws s2=>ifK ((match iq k (keys s1)with|true=>false|false=>true)&&vW (keys s1++[k]) (keys s2)) (K (.ip (.pv us) off::ws) (s1++(k,.cells (.pv us) true)::s2))
     |_=>False
   |_=>False
  |.agg ds=>uD H ds fun us s1=>rM H r fun ws s2=>ifK (vW (keys s1) (keys s2)) (K (.agg us::ws) (s1++s2))
  |p=>uD H [p] fun us s1=>rM H r fun ws s2=>ifK (vW (keys s1) (keys s2)) (K (us++ws) (s1++s2))
theorem l6:∀(a b:List (Nat × AO)),keys (a++b)=keys a++keys b
 | [],_=>rfl
 |x::a,b=>congrArg (x.1:: ·) (l6 a b)
def mO (H:Hp) (ps us:List PV) (sets:List (Nat × AO)):Prop:=
 us.length=ps.length∧∀{S:Imm} {w:World} {ι:Ix} {H':Hp} (vals:Nat→Value),Mem S w ι H'→(∀j∈keys sets,ay H' j=ay H j)→(∀i,i<ps.length→Rep S w ι (aC ps i) (vals i))→
  ∃S',Mem S' w ι (aX H' sets)∧Keeps S w S' w∧(∀p,Tr p S w ι H' S' w ι (aX H' sets))∧∀i,i<us.length→Rep S' w noI (aC us i) (vals i)
theorem mO.app {H:Hp} {ps us qs ws:List PV} {s1 s2:List (Nat × AO)} (h1:mO H ps us s1) (h2:mO H qs ws s2) (hd:∀k∈keys s1,k∉keys s2):mO H (ps++qs) (us++ws) (s1++s2):=by
 refine⟨by simp[h1.1,h2.1],fun{S w ι H'} vals M ha hr=>?_⟩
 have gl:∀(a b:List PV) i,aC (a++b) i=if i<a.length then aC a i else aC b (i-a.length):=by
  intro a;induction a with
  |nil=>intro b i;simp
  |cons x a ih=>intro b i;cases i with
   |zero=>simp[aC]
   |succ i=>simp[aC,ih]
 obtain⟨S1,M1,K1,T1,R1⟩:=h1.2 vals M (fun j hj=>ha j (by rw[l6];simp[hj])) (fun i hi=>by have:=hr i (by simp;omega);rw[gl,if_pos hi]at this;exact this)
 obtain⟨S2,M2,K2,T2,R2⟩:=h2.2 (fun i=>vals (i+ps.length)) M1 (fun j hj=>by
  rw[jD (fun hm=>hd j hm hj)];exact ha j (by rw[l6];simp[hj])) (fun i hi=>by
  have:=(hr (i+ps.length) (by simp;omega)).mono K1 _ (.refl _)
  rw[gl,if_neg (by omega),Nat.add_sub_cancel]at this;exact this)
 refine⟨S2,by rw[uE];exact M2,K1.trans K2,fun p=>by rw[uE];exact(T1 p).trans (T2 p),fun i hi=>?_⟩
 rw[gl];split
 ·rename_i hi';exact(R1 i hi').mono K2 _ (.refl _)
 ·have:=R2 (i-us.length) (by simp at hi;omega)
  rw[h1.1]at this⊢;rw[Nat.sub_add_cancel (by have:=h1.1;omega)]at this
  exact this
theorem Af {H:Hp} {ds:List PV} {K:List PV→List (Nat × AO)→Prop} (h:uD H ds K):∃us sets,K us sets∧mO H ds us sets:=by
 obtain⟨us,sets,hk,hl,hs⟩:=Lb h;exact⟨us,sets,hk,hl,hs⟩
theorem VN {H:Hp} {k off:Nat} {ds us:List PV} {s1:List (Nat × AO)} (hob:ay H k=some (.cells (.pv ds) false)) (h:mO H ds us s1) (hkm:k∉keys s1):mO H [.rp k off] [.ip (.pv us) off] (s1++[(k,.cells (.pv us) true)]):=by
 obtain⟨hl,hs⟩:=h;refine⟨rfl,fun{S w ι H'} vals M ha hr=>?_⟩;have hob':=(ha k (by rw[l6];simp[keys])).trans hob
 obtain⟨b,arr,e,g1,g2,g3,g4,g5⟩:=M.obj k _ hob';obtain⟨S1,M1,K1,T1,R1⟩:=hs (fun i=>arr.getD i undef) M (fun j hj=>ha j (by rw[l6];simp[hj])) (fun i hi=>g4 i hi)
 have hk1:ay (aX H' s1) k=some (.cells (.pv ds) false):=by rw[jD hkm];exact hob'
 obtain⟨b',arr',e',q1,q2,q3,q4,q5⟩:=M1.obj k _ hk1;rw[g1]at q1;cases q1
 rw[g2]at q2;cases q2
 let S2:Imm:=fun b' j=>S1 b' j∨(b'=b∧j<us.length)
 have hk2:Keeps S1 w S2 w:=⟨fun b' j hs=>⟨.inl hs,rfl⟩,fun b' j hs=>hs⟩;have hus:us.length≤arr.size:=by rw[hl];exact g3
 have rdb:∀j,rdv w b j=arr.getD j undef:=fun j=>by rw[rdv,aN g2,aej]
 have hlie:∀j,j<(CL.pv us).ncell→S2 b j∧Rep S2 w noI ((CL.pv us).get j) (rdv w b j):=fun j hj=>⟨.inr ⟨rfl,hj⟩,by rw[rdb];exact(R1 j hj).mono hk2 _ (.refl _)⟩
 obtain⟨M2,T2⟩:=M1.step1 (S':=S2) (w':=w) (ι':=ι) (k:=k) (o':=.cells (.pv us) true) (b:=b) (Bel.refl _) (fun _ _ _=>rfl) hk2 (fun b' j hs=>by rcases hs with h|⟨h,_⟩;exact .inl h;exact .inr h)
  (fun j hs=>by
   rcases hs with h|⟨_,h⟩
   ·exact absurd h (q5 j)
   ·rw[aN g2,aeg (by omega)];rfl) (.refl _) (fun _ _=>rfl) (fun _ _=>rfl) rfl (.inr ⟨_,hk1,rfl,g1⟩) (fun b' h=>h.elim) (by simp[AO.isTok]) (fun _=>M1.cells_t hk1 rfl)
  ⟨b,g1,hlie⟩
 have hput:aX H' (s1++[(k,.cells (.pv us) true)])=aR (aX H' s1) k (.cells (.pv us) true):=by rw[uE];rfl
 rw[hput];refine⟨S2,M2,K1.trans hk2,fun p=>(T1 p).trans (T2 p),fun i hi=>?_⟩;have hi0:i=0:=by simp at hi;exact hi
 subst hi0;have h0:=hr 0 (by simp)
 simp only[aC]at h0⊢;generalize vals 0=v0 at h0
 cases h0 with
 |rp _ _ _ b2 hb2=>
  rw[g1]at hb2;cases hb2
  have:=Rep.ip (S:=S2) (w:=w) noI (.pv us) off b 0 (fun j hj=>by rw[aeC];exact(hlie j hj).1) (fun j hj=>by rw[aeC];exact(hlie j hj).2)
  rwa [aeC]at this
theorem VO {H:Hp} {ds us:List PV} {s1:List (Nat × AO)} (h:mO H ds us s1):mO H [.agg ds] [.agg us] s1:=by
 obtain⟨hl,hs⟩:=h;refine⟨rfl,fun{S w ι H'} vals M ha hr=>?_⟩;have h0:=hr 0 (by simp)
 simp only[aC]at h0;generalize hv:vals 0=v0 at h0
 cases h0 with
 |agg _ _ vs hl' hh=>
  obtain⟨S1,M1,K1,T1,R1⟩:=hs (fun i=>vs.getD i undef) M ha (fun i hi=>hh i hi);refine⟨S1,M1,K1,T1,fun i hi=>?_⟩;have hi0:i=0:=by simp at hi;exact hi
  subst hi0;rw[hv];exact .agg _ _ _ (hl.trans hl') R1
theorem I8 {H:Hp}:∀{ps:List PV} {K:List PV→List (Nat × AO)→Prop},rM H ps K→∃us sets,K us sets∧mO H ps us sets:=by
 intro ps;induction ps with
 |nil=>intro K h;exact⟨_,_,h,rfl,fun vals M _ _=>⟨_,M,.refl _ _,fun p=>.refl _ _ _ _ _,fun i hi=>by simp at hi⟩⟩
 |cons p r ih=>
  intro K h;unfold rM at h;split at h
  ·rename_i k off
   rw[bg]at h;obtain⟨ob,hob,h⟩:=h;split at h
   ·split at h
    ·exact h.elim
    ·split at h
     ·rename_i ds
      obtain⟨us,s1,h,h1⟩:=Af h;obtain⟨ws,s2,h,h2⟩:=ih h;rw[aL,aeA]at h;obtain⟨⟨hm,hd⟩,h⟩:=h;have hkm:k∉keys s1:=fun hm'=>by rw[←oN]at hm';rw[hm']at hm;cases hm
      have hA:=(VN (off:=off) hob h1 hkm).app h2 (fun j hj=>uH hd j (by rw[l6]at hj;exact hj))
      refine⟨_,_,h,?_⟩;rw[List.append_assoc]at hA;exact hA
     ·exact h.elim
   ·exact h.elim
  ·rename_i ds
   obtain⟨us,s1,h,h1⟩:=Af h;obtain⟨ws,s2,h,h2⟩:=ih h;rw[aL]at h;exact⟨_,_,h.2,(VO h1).app h2 (uH h.1)⟩
  ·obtain⟨us,s1,h,h1⟩:=Af h
   obtain⟨ws,s2,h,h2⟩:=ih h;rw[aL]at h;exact⟨_,_,h.2,h1.app h2 (uH h.1)⟩
def vX (C:PSp):CT:=fun args n H K=>rM H args fun us sets=>bM (dh us) fun us=>C us fun v=>K v sets (keys sets) []
theorem rO {P:Program} {g:FuncId} {C:PSp} (h:POK P g C):COK P g (vX C):=by
 intro args n H K hk;unfold vX at hk;obtain⟨us,sets,hk,hl,hs⟩:=I8 hk;rw[bD]at hk;obtain⟨v,hk,hent,hv⟩:=h _ _ hk;refine⟨v,_,_,[],hk,hent,fun S w ι H' vs hgb M hr ha _=>?_⟩;obtain⟨S1,M1,K1,T1,R1⟩:=hs (fun i=>vs.getD i undef) M (fun j hj=>ha j hj) (fun i hi=>hr.2 i hi);have hA:bC S1 w noI (dh us) vs:=⟨(bq us).1.trans (hl.trans hr.1),fun i hi=>(bq us).2 i (R1 i (by rw[(bq us).1]at hi;omega))⟩
 refine(hv S1 w vs (lK K1 (.refl _) hgb) M1.imm hA).mono ?_
 rintro ex w' ⟨val,S',rfl,o⟩
 have hno:∀k' ob b,ay (aX H' sets) k'=some ob→ob.has ι k' b→b<w.heap.size:=fun k' ob b ho hb=>(M1.obj k' ob ho).lt hb;have T3:∀p,Tr p S1 w ι (aX H' sets) S' w' ι (aX H' sets):=fun p=>
  ⟨o.below,fun b hb _=>o.same b hb,o.keeps,fun b j hb hs=>.inl (o.immN b j hb hs),fun b h=>.inl h,fun _ _ _ h=>h,fun _ _ b n h=>⟨b,n,h,.inl ⟨rfl,aea _⟩⟩⟩
 exact⟨val,S',ι,rfl,⟨fun k' ob ho=>(M1.obj k' ob ho).mono o.keeps (.refl _) o.below (fun b hb=>o.same b (hno k' ob b ho hb)) (fun _=>rfl) rfl (fun b j hb hs=>o.immN b j (hno k' ob b ho hb) hs),M1.liveO,M1.liveT,M1.dist,o.imm⟩,
  .refl _,K1.trans o.keeps,o.rep.up ι,fun p=>(T1 p).trans (T3 p)⟩
def TV (τ:TypeId→Option TE) (fn:Func) (v:PV) (e:Exit) (env:Env) (H:Hp):Prop:=
 match e with
 |.normal=>kH τ fn.results.toList env H fun vs=>rM H vs fun us _=>Fin (Sup (bF us) v)
 |.ret=>kH τ fn.results.toList env H fun vs=>rM H vs fun us _=>Fin (Sup (bF us) v)
 |_=>False
section
variable {P:Program} {τ:TypeId→Option TE} {B:Imm→World→Prop}
theorem ES (hB:BOK B) (hτ:aV P τ) {g:FuncId} {fn:Func} {c:Code} {args:List PV} {v:PV} (hf:P.funcs[g]? =some fn) (hb:fn.body=some c)
 (h:AW P none B 0 c (TV τ fn v) (args++kD (fn.ntmps-args.length)) []):tV P B g args v:=by
 intro S w vs hBw himm hr;have M:Mem S w noI []:=⟨fun k o h=>by simp[ay]at h,fun k b h=>by simp[noI]at h,fun k x h=>by simp[noI]at h,fun k k' o o' b h=>by simp[ay]at h,himm⟩
 have hA:At B 0 S w noI [] (args++kD (fn.ntmps-args.length)) [] {tmps:=vs++afN (fn.ntmps-vs.size) undef,defers:=[]} w:=
  ⟨S,noI,hBw,M,by rw[hr.1];exact xg hr _,.nil _ _ _,fun d hd=>by simp at hd,.refl _ _ _ _ _⟩
 refine callsIn_of_wp_marks hf hb trivial (wpIn_mono (h S w noI [] _ w hA) ?_)
 rintro e ⟨tmps,ds⟩ w1 ⟨env',H',q,hA1⟩
 have fin:(kH τ fn.results.toList env' H' fun vs=>rM H' vs fun us _=>Fin (Sup (bF us) v))→LeavesInM (Fw none) 0 P fn tmps (fun e w'=>∃val S',e=.returned val∧KT S w v val S' w') ds .returning w1:=by
  intro q;refine At.leave hB ds w1 hA1 fun w2 hA2=>?_;obtain⟨S2,ι2,hb2,M2,R2,_,_,T2⟩:=hA2.ex;obtain⟨vs1,q,hs⟩:=qW (P:=P) hτ _ q;obtain⟨us,sets,q,hl,hz⟩:=I8 q;obtain⟨vals,r1,r2,r3⟩:=hs M2 R2;obtain⟨S3,M3,K3,T3,R3⟩:=hz (fun i=>vals.getD i undef) M2 (fun _ _=>rfl) (fun i hi=>r3 i hi);have hT:=T2.trans (T3 0);have hno:∀b,¬owned noI [] b:=by rintro b ⟨k,o,h1,_⟩;simp[ay]at h1
  have hrun:(results fn tmps).run P w2=.ok (if h:vals.toArray.size=1 then vals.toArray[0]else .tuple vals.toArray) w2:=by
   unfold results;rw[Sem.run_bind,afO,←bind_pure_comp,Sem.run_bind];have:(afP (fun(x:ResultVar)=>(match x with|.tmp t=>pure (tmps.getD t undef)|.cell a t=>do loadVar t (←asAddr (tmps.getD a undef)):Sem Value)) fn.results.toList).run P w2=.ok vals w2:=r1
   erw [this]
   simp only[Result.andThen,Function.comp,Sem.run_pure]
  refine⟨_,hrun,_,S3,rfl,M3.imm,hT.keeps,?_,hT.below,fun b hb=>hT.same b hb (hno b),fun b j hb hs=>(hT.immN b j hb hs).resolve_right (hno b)⟩;exact q.get.get (BU (by omega) R3)
 cases e with
 |normal=>exact fin q
 |ret=>exact fin q
 |_=>exact q.elim
def Ot (P:Program) (B:Imm→World→Prop) (τ:TypeId→Option TE) (md:Nat) (rf:List Nat) (CP:CPT) (YP:YPT) (fn:Func) (args:List PV) (v:PV):Prop:=
 ev P none B 0 τ md rf CP YP (fn.body.getD .skip) 0 (args++kD (fn.ntmps-args.length)) [] fun e env H _=>TV τ fn v e env H
theorem eD {P:Program} {τ:TypeId→Option TE} (hm:P.follows .mixedOrders=true) (hτ:aV P τ) {md rf CP} (hC:aW P CP) {g:FuncId} {fn:Func} {args:List PV} {v:PV}
 (hf:P.funcs[g]? =some fn) (hn:(fn.name== "runtime.NumGoroutine")=false) (hb:fn.body.isSome=true) (hok:dI (fn.body.getD .skip)=true) (h:Ot P jX τ md rf CP noY fn args v):aF P g args v:=by
 refine⟨enters hf hn (by cases h:fn.body<;>simp_all),?_⟩
 obtain⟨c,hc⟩:=aem.1 hb;unfold Ot at h;rw[hc]at h hok;exact ES aK hτ hf hc ((iU aK hm hτ hC aQ c hok _ _ _ _ h).mono fun e env H ⟨n,h⟩=>h)
end
def Ix.setx (ι:Ix) (k:Nat) (X:Nat→Prop):Ix:=⟨ι.o,ι.t,fun k'=>if k'=k then X else ι.x k'⟩
theorem I9 (ι:Ix) (k:Nat) (X:Nat→Prop):ι.le (ι.setx k X):=⟨fun _ _ h=>h,fun _ b n h=>⟨b,n,h,.inl ⟨rfl,aea _⟩⟩⟩
theorem Mem.bldStep {S:Imm} {w w':World} {ι:Ix} {H:Hp} (M:Mem S w ι H) {k t e b:Nat} {s s':ByteArray} {p p' v v':Value} (hk:ay H k=some (.bld t e s)) (hb:ι.o k=some b)
 (h0:w.heap[b]? =some (.cells #[p,v] t (0,0))) (below:Bel w w') (here:w'.heap[b]? =some (.cells #[p',v'] t (0,0))) (hp:p'=.pointer none∨p'=.pointer (some ⟨b,0,none⟩)) (hne:v'.ownBlock≠some b)
 (own:w'.ownsRowF 0 e 1 v' s'.size (Lib.strCells s')) (hv:∀g,v'.ownBlock=some g→v.ownBlock=some g∨w.heap.size≤g)
 (other:∀b',b'<w.heap.size→b'≠b→v.ownBlock≠some b'→w'.heap[b']? =w.heap[b']?) (cells:∀b' j,(rd w b' j).isSome→(rd w' b' j).isSome):
 Mem S w' (ι.setx k fun b'=>b'=b∨v'.ownBlock=some b') (aR H k (.bld t e s'))∧Keeps S w S w'∧∀pp,Tr pp S w ι H S w' (ι.setx k fun b'=>b'=b∨v'.ownBlock=some b') (aR H k (.bld t e s')):=by
 obtain⟨b1,p1,v1,h1,h2,h3,h4,h5,h6,h7⟩:=M.obj k _ hk;rw[hb]at h1;cases h1
 obtain⟨rfl,rfl⟩:p=p1∧v=v1:=by
  rw[h0]at h2;simp at h2;exact h2
 have hnS:∀b' j,(b'=b∨v.ownBlock=some b')→¬S b' j:=fun b' j h=>h4 b' j ((h7 b').2 h);have keeps:Keeps S w S w':=⟨fun b' j hs=>⟨hs,cB (other b' (dZ (M.imm b' j hs)) (fun e=>hnS b' j (.inl e) hs) (fun e=>hnS b' j (.inr e) hs)) j⟩,cells⟩;have hg:ay (aR H k (.bld t e s')) k=some (.bld t e s'):=by rw[aY];simp
 have hx:(ι.setx k fun b'=>b'=b∨v'.ownBlock=some b').x k=fun b'=>b'=b∨v'.ownBlock=some b':=by simp[Ix.setx]
 have:=M.multi (w':=w') (ι':=ι.setx k fun b'=>b'=b∨v'.ownBlock=some b') (H':=aR H k (.bld t e s')) (fun k'=>k'=k) below keeps (I9 _ _ _)
  (fun k' h=>by rw[aY,if_neg h]) (fun _ _=>rfl) (fun _ _=>rfl) (fun k' h=>by simp[Ix.setx,h])
  (fun b' hb' hno=>other b' hb' (fun e=>hno k _ rfl hk rfl ((h7 b').2 (.inl e))) (fun e=>hno k _ rfl hk rfl ((h7 b').2 (.inr e))))
  (fun k' o2 ek h=>by
   subst ek;rw[hg]at h;cases h
   refine⟨b,p',v',hb,here,hp,fun b' j hb'=>?_,hne,own,fun b'=>by rw[hx]⟩
   rw[hx]at hb';rcases hb' with h|h
   ·exact hnS b' j (.inl h)
   ·rcases hv b' h with h|h
    ·exact hnS b' j (.inr h)
    ·exact fun hs=>by have:=dZ (M.imm b' j hs);omega)
  (fun k' o2 b' ek h hb'=>by
   subst ek;rw[hg]at h;cases h
   have hb':b'=b∨v'.ownBlock=some b':=by
    have:(ι.setx k' fun b'=>b'=b∨v'.ownBlock=some b').x k' b':=hb';rw[hx]at this;exact this
   rcases hb' with h|h
   ·exact .inr ⟨k',_,rfl,hk,rfl,(h7 b').2 (.inl h)⟩
   ·rcases hv b' h with h|h
    ·exact .inr ⟨k',_,rfl,hk,rfl,(h7 b').2 (.inr h)⟩
    ·exact .inl h)
  (fun k' b' ek _=>by subst ek;exact⟨_,hg,rfl⟩)
  (fun k' x ek h=>by
   subst ek;obtain⟨o3,g1,g2⟩:=M.liveT k' x h;rw[hk]at g1;cases g1;cases g2)
  (fun k1 k2 _ _ _ e1 e2 _ _ _ _=>e1.trans e2.symm)
 exact⟨this.1,keeps,this.2⟩
theorem Le {w:World} {g:Nat} {old cs:Array Value} {t:TypeId} {fr:Nat × Nat} (hg:w.heap[g]? =some (.cells old t fr)) (hs:cs.size=old.size) (b:Nat):bsz (w.setRow g cs) b=bsz w b:=by
 by_cases e:b=g
 ·subst e;unfold bsz;rw[setRow_heap w b old cs t fr hg,hg];simp[hs]
 ·exact eu (setRow_other w g b cs e)
theorem Lh {P:Program} (w:World) (t u ty e:TypeId) (i:TypeInfo) (ht:P.underlying t=some (.slice e)) (hu:P.underlying u=some .string) (hi:P.info? e=some i) (hz:i.zero=some (.int .u8 0))
 (hsize:i.size=1) (hby:i.bytes=1) (v:Value) (n:Nat) (xs:List Value) (hown:w.ownsRowF 0 e 1 v n xs) (s:ByteArray) (h63:n+s.size≤maxLen) (hbytes:n+s.size≤140737488355328):
 ∃v' w',(Builtin.append_ #[t,u] ty #[v,.string s]).run P w=.ok v' w'∧w'.ownsRowF 0 e 1 v' (n+s.size) (xs++Lib.strCells s)∧w.grownBy w' v.ownBlock∧
  (∀b,b<w.heap.size→bsz w' b=bsz w b)∧∀g,v'.ownBlock=some g→v.ownBlock=some g∨w.heap.size≤g:=by
 obtain⟨v',w',hr,h2,h3,h4⟩:=Lib.run_append_own_stringF (P:=P) w 0 t u ty e i ht hu hi hz hsize hby v n xs hown s h63 hbytes (aeY _);refine⟨v',w',hr,h2,h3,?_⟩;rcases hown.2 with⟨rfl,rfl⟩|⟨g,cap,cur,fz,rfl,hbg,hg,hfz,hnc,hcm,hcs,htake⟩
 ·refine⟨fun b hb=>eu (h3.block b hb (by simp[Value.ownBlock])),fun g hg=>.inr ?_⟩
  obtain⟨v2,w2,r2,k2,_⟩:=Lib.run_append_own_stringF (P:=P) w w.heap.size t u ty e i ht hu hi hz hsize hby (.slice none 0 0) 0 xs ⟨hown.1,.inl ⟨rfl,rfl⟩⟩ s h63 hbytes (aea _);rw[hr]at r2;cases r2
  exact(k2.lt g hg).1
 ·have hxl:xs.length=n:=by simpa using hown.1
  by_cases hroom:n+s.size≤cap
  ·have r2:=Lib.run_append_room_stringF (P:=P) w t u ty e i ht hu hi hsize g n cap cur fz hg (by simpa using hfz) s hroom (by omega)
   rw[hr]at r2;cases r2
   refine⟨fun b hb=>Le hg ?_ b,fun g' hg'=>.inl hg'⟩;simp only[afX,List.length_append,ae0,List.length_drop,Array.length_toList,Lib.strCells_length];omega
  ·have r2:=Lib.run_append_grow_string (P:=P) w t u ty e i (.int .u8 0) ht hu hi hz ⟨g,0,none⟩ n cap xs (by rw[hsize];simpa using hxl) (hown.cells (g:=g) rfl) s (by omega) (by simp only[maxLen]at h63;omega) (by rw[hby];exact growslice_fits (by omega) (by omega))
   rw[hr]at r2;cases r2
   refine⟨fun b hb=>eu (Lib.alloc_old w.drew _ b hb),fun g' hg'=>.inr ?_⟩;simp[Value.ownBlock]at hg';exact Nat.le_of_eq hg'
theorem Y6 {w:World} {b j:Nat}:(rd w b j).isSome↔∃n,bsz w b=some n∧j<n:=by
 unfold rd bsz;split
 ·rename_i c t f h
  constructor
  ·intro hs
   refine⟨_,rfl,?_⟩;rcases aeb j c.size with h1|h1
   ·exact h1
   ·rw[aec h1]at hs;cases hs
  ·rintro⟨n,h1,h2⟩
   cases h1
   rw[aeg h2];rfl
 ·simp
structure uI (t e:TypeId) (b:Nat) (v:Value) (w w':World) (s':ByteArray) (v':Value):Prop where
 here:∃p',w'.heap[b]? =some (.cells #[p',v'] t (0,0))∧(p'=.pointer none∨p'=.pointer (some ⟨b,0,none⟩))
 ne:v'.ownBlock≠some b
 own:w'.ownsRowF 0 e 1 v' s'.size (Lib.strCells s')
 new:∀g,v'.ownBlock=some g→v.ownBlock=some g∨w.heap.size≤g
 os:w'.os=w.os
 tape:w'.tape=w.tape
 output:w'.output=w.output
 size:w.heap.size≤w'.heap.size
 other:∀b',b'<w.heap.size→b'≠b→v.ownBlock≠some b'→w'.heap[b']? =w.heap[b']?
 len:∀b',b'<w.heap.size→bsz w' b'=bsz w b'
theorem uI.bel {t e:TypeId} {b:Nat} {v v':Value} {w w':World} {s':ByteArray} (h:uI t e b v w w' s' v'):Bel w w':=⟨h.os,h.tape,h.output,h.size,h.len⟩
theorem uI.cells {t e:TypeId} {b:Nat} {v v':Value} {w w':World} {s':ByteArray} (h:uI t e b v w w' s' v') (b' j:Nat) (hs:(rd w b' j).isSome):(rd w' b' j).isSome:=by
 have hl:=dZ hs;rw[Y6]at hs⊢;rw[h.len b' hl];exact hs
theorem xD {P:Program} {g:FuncId} (hent:∀vs w,(callFunc g vs).run P w=.ok (.enter g vs) w) {k t e:Nat} {s s':ByteArray} {args:List PV} {u:PV} {H:Hp} (hob:ay H k=some (.bld t e s))
 (hc:∀(S:Imm) (w:World) (ι:Ix) (vs:Array Value) (b:Nat) (p v:Value),bC S w ι args vs→ι.o k=some b→w.heap[b]? =some (.cells #[p,v] t (0,0))→(p=.pointer none∨p=.pointer (some ⟨b,0,none⟩))→v.ownBlock≠some b→w.ownsRowF 0 e 1 v s.size (Lib.strCells s)→
  Calls P g vs w fun ex w'=>∃val v',ex=.returned val∧uI t e b v w w' s' v'∧∀S' ι',Rep S' w' ι' u val):
 iK P g args H u [(k,.bld t e s')] [k] []:=by
 refine⟨hent,fun S w ι H' vs hgb M hr ha _=>?_⟩;have hob':=(ha k (by simp)).trans hob
 obtain⟨b,p,v,h1,h2,h3,h4,h5,h6,h7⟩:=M.obj k _ hob';refine(callsIn_wide.2 (hc S w ι vs b p v hr h1 h2 h3 h5 h6)).mono ?_
 rintro ex w' ⟨val,v',rfl,B,hrep⟩
 obtain⟨p',g1,g2⟩:=B.here;obtain⟨M',K',T'⟩:=M.bldStep hob' h1 h2 B.bel g1 g2 B.ne B.own B.new B.other B.cells;exact⟨val,S,_,rfl,M',I9 _ _ _,K',hrep _ _,T'⟩
theorem xE {S:Imm} {w:World} {ι:Ix} {p:PV} {vs:Array Value} (h:bC S w ι [p] vs):∃v,vs= #[v]∧Rep S w ι p v:=by
 have h0:=h.2 0 (by simp)
 have hsz:vs.size=1:=h.1.symm;refine⟨vs.getD 0 undef,?_,h0⟩;apply afr (by simp[hsz])
 intro i h1 h2;have:i=0:=by omega
 subst this;simp[aej,h1]
theorem ET {S:Imm} {w:World} {ι:Ix} {p q:PV} {vs:Array Value} (h:bC S w ι [p,q] vs):∃v u,vs= #[v,u]∧Rep S w ι p v∧Rep S w ι q u:=by
 have h0:=h.2 0 (by simp)
 have h1:=h.2 1 (by simp)
 have hsz:vs.size=2:=h.1.symm;refine⟨vs.getD 0 undef,vs.getD 1 undef,?_,h0,h1⟩;apply afr (by simp[hsz])
 intro i h1 h2;have:i=0∨i=1:=by omega
 rcases this with rfl|rfl<;>simp[aej,h1]
theorem EU {P:Program} {g:FuncId} {xs:List PV} (hent:Enters P g) (c:CL)
 (h:∀(S:Imm) (w:World) (vs:Array Value),(∀b j,S b j→(rd w b j).isSome)→bC S w noI xs vs→∃arr e cap,c.cnt≤cap∧c.ncell≤arr.size∧(∀j,j<c.ncell→∀S' w',Rep S' w' noI (c.get j) (arr.getD j undef))∧
  Calls P g vs w fun ex w'=>ex=.returned (.slice (some ⟨w.heap.size,0,none⟩) c.cnt cap)∧w'=w.alloc (.cells arr e)):aF P g xs (.isl c .none):=by
 refine⟨hent,fun S w vs hg himm hA=>?_⟩;obtain⟨arr,e,cap,hc,hn,hr,hcall⟩:=h S w vs himm hA;refine(callsIn_wide.2 hcall).mono ?_
 rintro ex w' ⟨rfl,rfl⟩
 let S':Imm:=fun b j=>S b j∨(b=w.heap.size∧j<c.ncell)
 have hold:∀b,b<w.heap.size→(w.alloc (.cells arr e)).heap[b]? =w.heap[b]? :=fun b hb=>Lib.alloc_old w _ b hb;have hnw:(w.alloc (.cells arr e)).heap[w.heap.size]? =some (.cells arr e (0,0)):=heap_alloc_new w _;have hnew:∀j,rd (w.alloc (.cells arr e)) w.heap.size j=arr[j]? :=fun j=>aN hnw j;have hrd:∀b j,(rd w b j).isSome→rd (w.alloc (.cells arr e)) b j=rd w b j:=fun b j h=>cB (hold b (dZ h)) j;have hkeep:Keeps S w S' (w.alloc (.cells arr e)):=⟨fun b j h=>⟨.inl h,hrd b j (himm b j h)⟩,fun b j h=>by rw[hrd b j h];exact h⟩
 refine⟨_,S',rfl,⟨fun b j hs=>?_,hkeep,?_,⟨rfl,rfl,rfl,by simp,fun b hb=>eu (hold b hb)⟩,hold,fun b j hb hs=>?_⟩⟩
 ·rcases hs with h|⟨rfl,h⟩
  ·rw[hrd b j (himm b j h)];exact himm b j h
  ·rw[hnew,aeg (by omega)];rfl
 ·refine .isl _ _ _ _ _ _ hc (fun j hj=>.inr ⟨rfl,by rw[aeC];exact hj⟩) (fun j hj=>?_) (fun e=>by cases e) (fun k e=>by cases e)
  have:=hr j hj S' (w.alloc (.cells arr e));rw[aej]at this;rw[aeC,rdv,hnew];exact this
 ·rcases hs with h|⟨h,_⟩
  ·exact h
  ·omega
theorem EW {H:Hp} {k off n:Nat} {K:PV→List Nat→Prop} (h:vU H (.rsl k off n) K):∃q a,K q a∧∀{S N:Imm} {w:World} {ι:Ix} {H':Hp} {v:Value},Keeps S w N w→(∀k∈a,∀c fz b,ay H' k=some (.cells c fz)→ι.o k=some b→∀j,j<c.ncell→N b j)→Mem S w ι H'→(∀k∈a,ay H' k=ay H k)→Rep S w ι (.rsl k off n) v→Rep N w noI q v:=by
 unfold vU at h;simp only at h;rw[bg]at h;obtain⟨ob,hob,h⟩:=h;split at h
 ·rename_i c fz
  obtain⟨d,h,d1,d2,d3,d4⟩:=wM h;rw[dS]at h;obtain⟨hn,h⟩:=h;refine⟨_,_,h,fun{S N w ι H' v} hK hN M ha hr=>?_⟩;have hob':ay H' k=some (.cells c fz):=(ha k (by simp)).trans hob
  have conv:∀b,ι.o k=some b→∀j,j<d.ncell→N b (0+j)∧Rep N w noI (d.get j) (rdv w b (0+j)):=fun b hb j hj=>
   ⟨hN k (by simp) c fz b hob' hb (0+j) (by omega),(d4 j (by omega) (M.lies hob' hb j (by omega)).2).mono hK _ (.refl _)⟩
  cases hr with
  |rsl _ _ _ _ b cap hk hc _=>
   have:=lW (S:=N) (w:=w) (c:=d) (b:=b) (off:=0) (fun j hj=>(conv b hk j hj).1) (fun j hj=>(conv b hk j hj).2) (x:=off) (y:=off+n) (by omega) hn (cap:=cap) (by omega) noI
   rw[d1]at this;simpa using this
  |rslz _ _ _ b o hk=>exact iJ _ (by rw[iy _ hn];omega) (.inr ⟨b,o,rfl⟩) noI
 ·exact h.elim
theorem uJ {H:Hp} {p:PV} {K:PV→List Nat→Prop} (h:rJ H p K):∃q a,K q a∧∀{S N:Imm} {w:World} {ι:Ix} {H':Hp} {v:Value},Keeps S w N w→(∀k∈a,∀c fz b,ay H' k=some (.cells c fz)→ι.o k=some b→∀j,j<c.ncell→N b j)→Mem S w ι H'→(∀k∈a,ay H' k=ay H k)→Rep S w ι p v→Rep N w noI q v:=by
 unfold rJ at h;split at h
 ·rename_i k off n
  exact EW h
 ·split at h
  ·rename_i q hq
   rw[bE]at h;exact⟨_,_,h,fun{S N w ι H' v} hK hN M ha hr=>(fE hq hr).mono hK _ (.refl _)⟩
  ·exact⟨_,_,h,fun{S N w ι H' v} hK hN M ha hr=>.any _ _⟩
theorem CG {H:Hp}:∀{ps:List PV} {K:List PV→List Nat→Prop},qx H ps K→∃qs a,K qs a∧qs.length=ps.length∧∀{S N:Imm} {w:World} {ι:Ix} {H':Hp},Keeps S w N w→(∀k∈a,∀c fz b,ay H' k=some (.cells c fz)→ι.o k=some b→∀j,j<c.ncell→N b j)→Mem S w ι H'→(∀k∈a,ay H' k=ay H k)→∀i,i<ps.length→∀v,Rep S w ι (aC ps i) v→Rep N w noI (aC qs i) v:=by
 intro ps;induction ps with
 |nil=>intro K h;exact⟨_,_,h,rfl,fun _ _ M _ i hi=>by simp at hi⟩
 |cons p r ih=>
  intro K h;obtain⟨q,a,h,hq⟩:=uJ h;obtain⟨qs,as,h,hl,hs⟩:=ih h;refine⟨_,_,h,by simp[hl],fun{S N w ι H'} hK hN M ha i hi v hr=>?_⟩
  cases i with
  |zero=>exact hq hK (fun k hk=>hN k (by simp[hk])) M (fun k hk=>ha k (by simp[hk])) hr
  |succ i=>exact hs hK (fun k hk=>hN k (by simp[hk])) M (fun k hk=>ha k (by simp[hk])) i (by simpa using hi) v hr
def Li (H:Hp) (p:PV) (K:PV→List Nat→Prop):Prop:=
 match p with
 |.agg cs=>qx H cs fun us a=>K (.agg us) a
 |p=>rJ H p K
theorem H8 {H:Hp} {p:PV} {K:PV→List Nat→Prop} (h:Li H p K):∃q a,K q a∧∀{S N:Imm} {w:World} {ι:Ix} {H':Hp} {v:Value},Keeps S w N w→(∀k∈a,∀c fz b,ay H' k=some (.cells c fz)→ι.o k=some b→∀j,j<c.ncell→N b j)→Mem S w ι H'→(∀k∈a,ay H' k=ay H k)→Rep S w ι p v→Rep N w noI q v:=by
 unfold Li at h;split at h
 ·rename_i cs
  obtain⟨us,a,h,hl,hs⟩:=CG h;refine⟨_,_,h,fun{S N w ι H' v} hK hN M ha hr=>?_⟩;cases hr with
  |agg _ _ vs hl' hh=>exact .agg _ _ _ (hl.trans hl') fun i hi=>hs hK hN M ha i (by omega) _ (hh i (by omega))
 ·exact uJ h
def EX (H:Hp):List PV→(List PV→List Nat→Prop)→Prop
 | [],K=>K [] []
 |p::r,K=>Li H p fun q a=>EX H r fun qs as=>K (q::qs) (a++as)
theorem EY {H:Hp}:∀{ps:List PV} {K:List PV→List Nat→Prop},EX H ps K→∃qs a,K qs a∧qs.length=ps.length∧∀{S N:Imm} {w:World} {ι:Ix} {H':Hp},Keeps S w N w→(∀k∈a,∀c fz b,ay H' k=some (.cells c fz)→ι.o k=some b→∀j,j<c.ncell→N b j)→Mem S w ι H'→(∀k∈a,ay H' k=ay H k)→∀i,i<ps.length→∀v,Rep S w ι (aC ps i) v→Rep N w noI (aC qs i) v:=by
 intro ps;induction ps with
 |nil=>intro K h;exact⟨_,_,h,rfl,fun _ _ M _ i hi=>by simp at hi⟩
 |cons p r ih=>
  intro K h;obtain⟨q,a,h,hq⟩:=H8 h;obtain⟨qs,as,h,hl,hs⟩:=ih h;refine⟨_,_,h,by simp[hl],fun{S N w ι H'} hK hN M ha i hi v hr=>?_⟩
  cases i with
  |zero=>exact hq hK (fun k hk=>hN k (by simp[hk])) M (fun k hk=>ha k (by simp[hk])) hr
  |succ i=>exact hs hK (fun k hk=>hN k (by simp[hk])) M (fun k hk=>ha k (by simp[hk])) i (by simpa using hi) v hr
def Dn (p q:PV):Bool:=
 match p with
 |.int _ a=>match q with
  |.int _ b=>match decide (a=b)with|true=>false|false=>true
  |.isl _ _=>true
  |.rsl _ _ _=>true
  |.nils=>true
  |.str _=>true
  |.bp _=>true
  |.bool _=>true
  |_=>false
 |.isl _ _=>match q with
  |.int _ _=>true
  |.str _=>true
  |.bp _=>true
  |.bool _=>true
  |_=>false
 |.str _=>match q with
  |.int _ _=>true
  |.isl _ _=>true
  |.rsl _ _ _=>true
  |.nils=>true
  |.bp _=>true
  |.bool _=>true
  |_=>false
 |.bp _=>match q with
  |.int _ _=>true
  |.isl _ _=>true
  |.rsl _ _ _=>true
  |.nils=>true
  |.str _=>true
  |_=>false
 |_=>false
theorem H9 {p q:PV} (h:Dn p q=true) {S S':Imm} {w w':World} {ι ι':Ix} {v:Value} (h1:Rep S w ι p v) (h2:Rep S' w' ι' q v):False:=by
 cases p<;>simp only[Dn]at h<;>try(cases h;done)
 all_goals(cases q<;>simp only at h<;>try(cases h;done))
 all_goals first|(cases h1<;>cases h2<;>done)|skip
 cases h1;cases h2
 simp at h
def zl (c d:CL):Bool:=match c.ncell with
 |0=>true
 |_=>(ael (d.ncell+1-c.ncell)).all fun off=>(ael c.ncell).any fun j=>Dn (c.get j) (d.get (off+j))
theorem Ou {c d:CL} (h:zl c d=true) (h0:0<c.ncell) {off:Nat} (ho:off+c.ncell≤d.ncell):∃j,j<c.ncell∧Dn (c.get j) (d.get (off+j))=true:=by
 unfold zl at h;split at h
 ·omega
 rw[List.all_eq_true]at h;have:=h off (afY.2 (by omega))
 rw[List.any_eq_true]at this;obtain⟨j,hj,hd⟩:=this;exact⟨j,afY.1 hj,hd⟩
def okA (H:Hp):List Nat→CL→Bool
 | [],_=>true
 |k::r,c=>match ay H k with
  |some (.cells d _)=>(match zl c d with|true=>okA H r c|false=>false)
  |_=>okA H r c
theorem Y7 {H:Hp} {c:CL}:∀{a:List Nat},okA H a c=true→∀k∈a,∀d fz,ay H k=some (.cells d fz)→zl c d=true:=by
 intro a;induction a with
 |nil=>intro _ k hk;simp at hk
 |cons x a ih=>
  intro h k hk d fz hd;unfold okA at h;rcases afD.1 hk with rfl|hk
  ·rw[hd]at h
   simp only at h;split at h
   ·assumption
   ·cases h
  ·split at h
   ·split at h
    ·exact ih h k hk d fz hd
    ·cases h
   ·exact ih h k hk d fz hd
theorem Ov {H H':Hp} {c:CL}:∀{a:List Nat},(∀k∈a,ay H' k=ay H k)→okA H a c=true→okA H' a c=true:=by
 intro a;induction a with
 |nil=>intro _ _;rfl
 |cons x a ih=>
  intro hh h;unfold okA at h⊢;rw[hh x (List.mem_cons_self ..)];split at h
  ·split at h
   ·exact ih (fun k hk=>hh k (aek _ hk)) h
   ·cases h
  ·exact ih (fun k hk=>hh k (aek _ hk)) h
def xG (S:Imm) (ι:Ix) (H:Hp) (a:List Nat):Imm:=fun b j=>S b j∨∃k c fz,k∈a∧ay H k=some (.cells c fz)∧ι.o k=some b∧j<c.ncell
theorem zm {S:Imm} {w:World} {ι:Ix} {H:Hp} {a:List Nat}:Keeps S w (xG S ι H a) w:=⟨fun b j h=>⟨.inl h,rfl⟩,fun b j h=>h⟩
theorem Ra {S:Imm} {w:World} {ι:Ix} {H:Hp} {a:List Nat} (M:Mem S w ι H) (b j:Nat) (h:xG S ι H a b j):(rd w b j).isSome:=by
 rcases h with h|⟨k,c,fz,_,h1,h2,h3⟩
 ·exact M.imm b j h
 ·have:=(M.lies h1 h2 j h3).1;simpa using this
def newS (S S':Imm) (w:World):Imm:=fun b j=>S b j∨(S' b j∧w.heap.size≤b)
structure Lk (S:Imm) (w:World) (ι:Ix) (H0 H:Hp) (a:List Nat) (S':Imm) (w':World):Prop where
 ag:∀k∈a,ay H k=ay H0 k
 mem:Mem S w ι H
 old:∀b j,b<w.heap.size→S' b j→xG S ι H a b j
 rd:∀b j,xG S ι H a b j→rd w' b j=rd w b j
theorem Rb {S S':Imm} {w w':World} {ι:Ix} {H H':Hp} {a:List Nat} (L:Lk S w ι H H' a S' w') {c:CL} (hok:okA H a c=true) {b off:Nat}
 (hs:∀j,j<c.ncell→S' b (off+j)) (hr:∀j,j<c.ncell→Rep S' w' noI (c.get j) (rdv w' b (off+j))):∀j,j<c.ncell→newS S S' w b (off+j):=by
 have hok:=Ov L.ag hok;intro j hj;rcases aeb b w.heap.size with hb|hb
 ·by_cases hSj:S b (off+j)
  ·exact .inl hSj
  ·exfalso
   rcases L.old b _ hb (hs j hj)with h|⟨k,d,fz,hka,hk,hkb,hkj⟩
   ·exact hSj h
   cases fz with
   |true=>
    obtain⟨b',h1,h2⟩:=L.mem.obj k _ hk;rw[hkb]at h1;cases h1
    exact hSj (h2 _ hkj).1
   |false=>
    obtain⟨b',arr,e,g1,g2,g3,g4,g5⟩:=L.mem.obj k _ hk;rw[hkb]at g1;cases g1
    have hall:∀i,i<c.ncell→off+i<d.ncell:=by
     intro i hi;rcases L.old b _ hb (hs i hi)with h|⟨k',d',fz',hka',hk',hkb',hkj'⟩
     ·exact absurd h (g5 _)
     cases fz' with
     |true=>
      obtain⟨b2,h1,h2⟩:=L.mem.obj k' _ hk';rw[hkb']at h1;cases h1
      exact absurd (h2 _ hkj').1 (g5 _)
     |false=>
      have:k=k':=L.mem.dist k k' _ _ b hk hk' hkb hkb';subst this;rw[hk]at hk';cases hk'
      exact hkj'
    have hle:off+c.ncell≤d.ncell:=by have:=hall (c.ncell-1) (by omega);omega
    obtain⟨i,hi,hd⟩:=Ou (Y7 hok k hka d false hk) (by omega) hle
    have h1:=hr i hi;have h2:=(L.mem.lies hk hkb (off+i) (by omega)).2
    rw[aeC]at h2;rw[rdv,L.rd b (off+i) (.inr ⟨k,d,false,hka,hk,hkb,by omega⟩),←rdv]at h1
    exact H9 hd h1 h2
 ·exact .inr ⟨hs j hj,hb⟩
def xH:PV→Bool
 |.int _ _=>true
 |.bool _=>true
 |.bp _=>true
 |.str _=>true
 |.any=>true
 |_=>false
theorem xI {p:PV} (h:xH p=true) {S S':Imm} {w w':World} {ι ι':Ix} {v:Value} (hr:Rep S w ι p v):Rep S' w' ι' p v:=by
 cases p<;>simp only[xH]at h<;>first|(cases h;done)|(cases hr;constructor)
def vY:List (List PV)→Bool
 | []=>true
 |r::rs=>match r.all xH with|true=>vY rs|false=>false
theorem Ia:∀{rs:List (List PV)},vY rs=true→∀i j,xH (aC (rs.getD i []) j)=true:=by
 intro rs;induction rs with
 |nil=>intro _ i j;cases j<;>simp[aC,xH]
 |cons r rs ih=>
  intro h i j;unfold vY at h;split at h
  ·rename_i hr
   cases i with
   |succ i=>exact ih h i j
   |zero=>
    have:∀(l:List PV) j,l.all xH=true→xH (aC l j)=true:=by
     intro l;induction l with
     |nil=>intro j _;cases j<;>rfl
     |cons x l ihl=>
      intro j hl;rw[List.all_cons,aeA]at hl;cases j with
      |zero=>exact hl.1
      |succ j=>exact ihl j hl.2
    exact this r j hr
  ·cases h
def kp1 (H:Hp) (a:List Nat) (p:PV):PV:=
 match p with
 |.int k n=>.int k n
 |.bool b=>.bool b
 |.bp b=>.bp b
 |.str s=>.str s
 |.nils=>.nils
 |.isl c t=>match t with
  |.none=>match c with
   |.ints k l=>match okA H a (.ints k l)with|true=>.isl (.ints k l) .none|false=>.any
   |.bools l=>match okA H a (.bools l)with|true=>.isl (.bools l) .none|false=>.any
   |.recs m rs=>match vY rs with
    |true=>(match okA H a (.recs m rs)with|true=>.isl (.recs m rs) .none|false=>.any)
    |false=>.any
   |_=>.any
  |_=>.any
 |_=>.any
theorem rP {S S':Imm} {w w':World} {ι ι':Ix} {H H':Hp} {a:List Nat} (L:Lk S w ι H H' a S' w') {c d:CL} (hok:okA H a c=true) (e1:d.ncell=c.ncell) (e2:d.cnt=c.cnt)
 (hc:∀j,j<c.ncell→∀v,Rep S' w' noI (c.get j) v→Rep (newS S S' w) w' noI (d.get j) v) {v:Value} (hr:Rep S' w' noI (.isl c .none) v):Rep (newS S S' w) w' ι' (.isl d .none) v:=by
 cases hr with
 |islnil _ _ _ h=>exact .islnil _ _ _ (e2.trans h)
 |isl _ _ _ b off cap h1 hs h hf ho=>
  have hn:=Rb L hok hs h;rw[←e2];refine .isl _ _ _ _ _ _ (by omega) (fun j hj=>hn j (by omega)) (fun j hj=>hc j (by omega) _ (h j (by omega))) (fun e=>by cases e) (fun k e=>by cases e)
theorem uK {S S':Imm} {w w':World} {ι ι':Ix} {H H':Hp} {a:List Nat} (L:Lk S w ι H H' a S' w') {p:PV} {v:Value} (hr:Rep S' w' noI p v):Rep (newS S S' w) w' ι' (kp1 H a p) v:=by
 cases p with
 |int k n=>cases hr;exact .int _ _ _
 |bool b=>cases hr;exact .bool _ _
 |bp b=>cases hr;exact .bp _ _
 |str s=>cases hr;exact .str _ _
 |nils=>cases hr;exact .nils _
 |isl c t=>
  unfold kp1;simp only;cases t with
  |none=>
   cases c with
   |ints k l=>
    simp only;split
    ·exact rP L (by assumption) rfl rfl (fun j hj v hv=>xI rfl hv) hr
    ·exact .any _ _
   |bools l=>
    simp only;split
    ·exact rP L (by assumption) rfl rfl (fun j hj v hv=>xI rfl hv) hr
    ·exact .any _ _
   |recs m rs=>
    simp only;split
    ·split
     ·exact rP L (by assumption) rfl rfl (fun j hj v hv=>xI (Ia (by assumption) _ _) hv) hr
     ·exact .any _ _
    ·exact .any _ _
   |_=>exact .any _ _
  |_=>exact .any _ _
 |_=>exact .any _ _
def qy (H:Hp) (a:List Nat) (k:IntKind):List (List Int)→List PV
 | []=>[]
 |x::r=>kp1 H a (.isl (.ints k x) .none)::qy H a k r
theorem Lj {H:Hp} {a:List Nat} {k:IntKind}:∀(xs:List (List Int)),(qy H a k xs).length=xs.length∧∀i,i<xs.length→aC (qy H a k xs) i=kp1 H a (.isl (.ints k (xs.getD i [])) .none):=by
 intro xs;induction xs with
 |nil=>exact⟨rfl,fun i hi=>by simp at hi⟩
 |cons x r ih=>
  refine⟨by simp[qy,ih.1],fun i hi=>?_⟩
  cases i with
  |zero=>rfl
  |succ i=>exact ih.2 i (by simpa using hi)
def kp2 (H:Hp) (a:List Nat) (p:PV):PV:=
 match p with
 |.isl c t=>match t with
  |.none=>match c with
   |.rows k xs=>match okA H a (.rows k xs)with|true=>.isl (.pv (qy H a k xs)) .none|false=>.any
   |c=>kp1 H a (.isl c .none)
  |_=>.any
 |p=>kp1 H a p
theorem BZ {S S':Imm} {w w':World} {ι ι':Ix} {H H':Hp} {a:List Nat} (L:Lk S w ι H H' a S' w') {p:PV} {v:Value} (hr:Rep S' w' noI p v):Rep (newS S S' w) w' ι' (kp2 H a p) v:=by
 cases p with
 |isl c t=>
  unfold kp2;simp only;cases t with
  |none=>
   cases c with
   |rows k xs=>
    simp only;split
    ·obtain⟨g1,g2⟩:=Lj (H:=H) (a:=a) (k:=k) xs
     refine rP L (by assumption) (by simp only[CL.ncell];exact g1) (by simp only[CL.cnt];exact g1) (fun j hj v hv=>?_) hr
     show Rep _ _ _ (aC (qy H a k xs) j) v;rw[g2 j hj];exact uK L hv
    ·exact .any _ _
   |_=>exact uK L hr
  |_=>exact .any _ _
 |_=>exact uK L hr
def EZ (H:Hp) (a:List Nat):List PV→List PV
 | []=>[]
 |x::r=>kp2 H a x::EZ H a r
theorem xJ {H:Hp} {a:List Nat} (l:List PV):(EZ H a l).length=l.length∧∀i,i<l.length→aC (EZ H a l) i=kp2 H a (aC l i):=by
 induction l with
 |nil=>exact⟨rfl,fun i hi=>by simp at hi⟩
 |cons x xs ih=>exact⟨by simp[EZ,ih.1],fun i hi=>by cases i with|zero=>rfl|succ i=>exact ih.2 i (by simpa using hi)⟩
def kpA (H:Hp) (a:List Nat) (p:PV):PV:=
 match p with
 |.agg cs=>.agg (EZ H a cs)
 |p=>kp2 H a p
theorem Ca {S S':Imm} {w w':World} {ι ι':Ix} {H H':Hp} {a:List Nat} (L:Lk S w ι H H' a S' w') {p:PV} {v:Value} (hr:Rep S' w' noI p v):Rep (newS S S' w) w' ι' (kpA H a p) v:=by
 cases p with
 |agg cs=>
  cases hr with
  |agg _ _ vs hl hh=>
   refine .agg _ _ _ ((xJ cs).1.trans hl) fun i hi=>?_;rw[(xJ cs).1]at hi;rw[(xJ cs).2 i hi];exact BZ L (hh i hi)
 |_=>exact BZ L hr
def E5 (H:Hp) (a:List Nat):List PV→List PV
 | []=>[]
 |x::r=>kpA H a x::E5 H a r
theorem xK {H:Hp} {a:List Nat} (l:List PV):(E5 H a l).length=l.length∧∀i,i<l.length→aC (E5 H a l) i=kpA H a (aC l i):=by
 induction l with
 |nil=>exact⟨rfl,fun i hi=>by simp at hi⟩
 |cons x xs ih=>exact⟨by simp[E5,ih.1],fun i hi=>by cases i with|zero=>rfl|succ i=>exact ih.2 i (by simpa using hi)⟩
def kpK (H:Hp) (a:List Nat) (v:PV) (K:PV→Prop):Prop:=
 match v with
 |.tup vs=>bM (E5 H a vs) fun us=>K (.tup us)
 |p=>bI (kpA H a p) K
theorem Ow {H:Hp} {a:List Nat} {v:PV} {K:PV→Prop} (h:kpK H a v K):∃u,K u∧∀{S S':Imm} {w w':World} {ι ι':Ix} {H':Hp} {val:Value},Lk S w ι H H' a S' w'→Rep S' w' noI v val→Rep (newS S S' w) w' ι' u val:=by
 cases v with
 |tup vs=>
  unfold kpK at h;simp only at h;rw[bD]at h;refine⟨_,h,fun L hr=>?_⟩;cases hr with
  |tup _ _ us hl hh=>
   refine .tup _ _ _ ((xK vs).1.trans hl) fun i hi=>?_;rw[(xK vs).1]at hi;rw[(xK vs).2 i hi];exact Ca L (hh i hi)
 |_=>
  unfold kpK at h;simp only at h;rw[bE]at h;exact⟨_,h,fun L hr=>Ca L hr⟩
def ku (C:PSp):CT:=fun args n H K=>EX H args fun xs a=>bM (dh xs) fun xs=>C xs fun v=>kpK H a v fun u=>K u [] a []
theorem iO {P:Program} {g:FuncId} {C:PSp} (h:POK P g C):COK P g (ku C):=by
 intro args n H K hk;unfold ku at hk;obtain⟨xs,a,hk,hl,hs⟩:=EY hk;rw[bD]at hk;obtain⟨v,hk,hent,hv⟩:=h _ _ hk;obtain⟨u,hk,hp⟩:=Ow hk;refine⟨u,[],a,[],hk,hent,fun S w ι H' vs hgb M hr ha _=>?_⟩;have hN:∀k∈a,∀c fz b,ay H' k=some (.cells c fz)→ι.o k=some b→∀j,j<c.ncell→xG S ι H' a b j:=fun k hk c fz b h1 h2 j h3=>.inr ⟨k,c,fz,hk,h1,h2,h3⟩;have hA:bC (xG S ι H' a) w noI (dh xs) vs:=⟨(bq xs).1.trans (hl.trans hr.1),fun i hi=>(bq xs).2 i (hs zm hN M ha i (by rw[(bq xs).1]at hi;omega) _ (hr.2 i (by rw[(bq xs).1]at hi;omega)))⟩
 refine(hv (xG S ι H' a) w vs (lK zm (.refl _) hgb) (Ra M) hA).mono ?_
 rintro e w' ⟨val,S',rfl,o⟩
 have hno:∀k ob b,ay H' k=some ob→ob.has ι k b→b<w.heap.size:=fun k ob b ho hb=>(M.obj k ob ho).lt hb;have L:Lk S w ι H H' a S' w':=⟨ha,M,fun b j hb hs=>o.immN b j hb hs,fun b j hn=>(o.keeps.imm b j hn).2⟩;have hk0:Keeps S w (newS S S' w) w':=⟨fun b j hs=>⟨.inl hs,(o.keeps.imm b j (.inl hs)).2⟩,o.keeps.cells⟩;refine⟨val,newS S S' w,ι,rfl,⟨fun k ob ho=>(M.obj k ob ho).mono hk0 (.refl _) o.below (fun b hb=>o.same b (hno k ob b ho hb)) (fun _=>rfl) rfl (fun b j hb hs=>?_),M.liveO,M.liveT,M.dist,fun b j hs=>?_⟩,
  .refl _,hk0,hp L o.rep,fun p=>⟨o.below,fun b hb _=>o.same b hb,hk0,fun b j hb hs=>?_,fun b h=>.inl h,fun _ _ _ h=>h,fun _ _ b n h=>⟨b,n,h,.inl ⟨rfl,aea _⟩⟩⟩⟩
 ·rcases hs with hs|⟨_,hs⟩
  ·exact hs
  ·have:=hno k ob b ho hb;omega
 ·rcases hs with hs|⟨hs,_⟩
  ·rw[(hk0.imm b j hs).2];exact M.imm b j hs
  ·exact o.imm b j hs
 ·rcases hs with hs|⟨_,hs⟩
  ·exact .inl hs
  ·omega
end Go.Eng
