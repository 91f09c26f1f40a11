/- An engine that walks through a function of the program with symbolic values, and the proofs that it is sound. No condition. -/
import Derived.RangeFuncRecord
import Derived.Sort.Grow
import Derived.Below
import Derived.Lib.FrozenHead
import Derived.Test.YtmkagljofpddpaaGreatDoorEc
open Array renaming getD_eq_getD_getElem?→alz,replicate→ane,mapM_eq_mapM_toList→anf,getElem?_eq_none→alr,getElem?_eq_getElem→alv,ext→amR
open Bool renaming and_eq_true→alM
open List renaming pairwise_cons→am3,mapM→ang,mem_cons_of_mem→ani,range→alA,getD_eq_getElem?_getD→alC,mem_range→anj,mem_cons→am2,mem_iff_getElem?→ank,getElem?_eq_some_iff→anl,getElem?_eq_getElem→alH,getElem?_append_left→anm,getElem?_append_right→amB,mem_of_getElem?→ano,drop_eq_getElem_cons→anp,length→anq,length_take→amh,getElem_of_mem→alG
open Nat renaming le_refl→alo,beq→alI,blt→anh,eq_of_beq_eq_true→alN,zero_add→alO,lt_or_ge→alq,lt_of_lt_of_le→alp,le_trans→als,ble→alJ,le_of_ble_eq_true→alU,zero_le→aml
open Option renaming isSome_iff_exists→alB,bind_some→am1
namespace Go.Eng
open Go.RowKit
set_option linter.unusedSimpArgs false
set_option linter.unusedVariables false
variable {P:Program} {τ:TypeId->Option TE} {B:Imm->World->Prop} {p:Nat}
theorem run_takeDeferred {w:World} {b:Nat} (h:w.heap[b]? =some (.deferred (some []))):(Instr.takeDeferred b).run P w=.ok [] {w with heap:=w.heap.setIfInBounds b (.deferred none)}:=by
 simp[Instr.takeDeferred,getObj,setObj,Sem.run_bind,Sem.run,h,Result.andThen,Sem.bind]
theorem At.leave {S0:Imm} {w0:World} {ι0:Ix} {H0 H:Hp} {env:Env} {tmps:Array Value} {fn:Func} {R:Ending->World->Prop} (hB:BOK B):∀(ds:List Deferred) (w:World),
 At B p S0 w0 ι0 H0 env H {tmps:=tmps,defers:=ds} w->(∀w',At B p S0 w0 ι0 H0 env H {tmps:=tmps,defers:=[]} w'->LeavesIn (Fw none) 0 P fn tmps R [] .returning w')->
  LeavesInM (Fw none) 0 P fn tmps R ds .returning w:=by
 intro ds;induction ds with
 |nil=>intro w hA h;exact h w hA
 |cons d ds ih=>
  intro w hA h;obtain⟨S,ι,hb,M,RA,D,D',T⟩:=hA.ex;obtain⟨b,h1,h2,h3⟩:=D.all d qqS;have hge:=D' d qqS b h1;have hlt:=lt_of_heap h2;have hset:=MapKept.heap_set (o':=.deferred none) h2
  let w':World:={w with heap:=w.heap.setIfInBounds b (.deferred none)}
  have hnS:∀j,¬S b j:=λj hs=>by have:=M.imm b j hs;rw[jf h2 rfl]at this;simp at this
  have hk:Keeps S w S w':=by
   refine⟨λb' j hs=>⟨hs,?_⟩,λb' j hs=>?_⟩
   ·by_cases e:b'=b
    ·subst e;exact absurd hs (hnS j)
    ·exact dH (hset.2 b' e) j
   ·by_cases e:b'=b
    ·subst e;rw[jf h2 rfl]at hs;simp at hs
    ·rw[dH (hset.2 b' e) j];exact hs
  have hbel:Bel w w':=.block b rfl rfl rfl (by simp[w']) hset.2 (by rw[h2];exact iq rfl) (by rw[hset.1];exact iq rfl) (λ_=>by unfold bsz;rw[h2];show(match(w.heap.setIfInBounds b (Obj.deferred none))[b]? with|some (.cells c _ _)=>some c.size|_=>none)=none;rw[hset.1])
  have hne:∀k o b',av H k=some o->o.has ι k b'->b'≠b:=by
   intro k o b' ho hb' e;subst e;exact h3 ⟨k,o,ho,qg hb',hb'⟩
  refine⟨qqS,.inl ⟨b,w',h1,run_takeDeferred h2,ih w' ⟨S,ι,hB _ _ _ _ hk hbel hb,?_,RA.mono hk (.refl _),?_,λd' hd'=>D' d' (by simp[hd']),?_⟩ h⟩⟩
  ·exact⟨λk o ho=>(M.obj k o ho).mono hk (.refl _) hbel (λb' hb'=>hset.2 b' (hne k o b' ho hb')) (λ_=>rfl) rfl (λ_ _ _ h=>h),M.liveO,M.liveT,M.dist,λb' j hs=>by rw[(hk.imm b' j hs).2];exact M.imm b' j hs⟩
  ·refine⟨λd' hd'=>?_,(am3.1 D.nodup).2⟩
   obtain⟨b',g1,g2,g3⟩:=D.all d' (by simp[hd'])
   have:=(am3.1 D.nodup).1 d' hd' b b' h1 g1;exact⟨b',g1,(hset.2 b' (Ne.symm this)).trans g2,g3⟩
  ·exact⟨T.below.trans hbel,λb' hb' ho=>(hset.2 b' qqO).trans (T.same b' hb' ho),T.keeps.trans hk,T.immN,T.own,T.protO,T.protT⟩
structure Xo (S:Imm) (w:World) (v:PV) (val:Value) (S':Imm) (w':World):Prop where
 imm:∀b j,S' b j->(rd w' b j).isSome
 keeps:Keeps S w S' w'
 rep:Rep S' w' noI v val
 below:Bel w w'
 same:∀b,b<w.heap.size->w'.heap[b]? =w.heap[b]?
 immN:∀b j,b<w.heap.size->S' b j->S b j
def Enters (P:Program) (g:FuncId):Prop:=∀vs w,(callFunc g vs).run P w=.ok (.enter g vs) w
def Iq (P:Program) (B:Imm->World->Prop) (g:FuncId) (args:List PV) (v:PV):Prop:=
 ∀(S:Imm) (w:World) (vs:Array Value),B S w->(∀b j,S b j->(rd w b j).isSome)->bH S w noI args vs->
  CallsIn (Fw none) 0 P g vs w λe w'=>∃val S',e=.returned val/\Xo S w v val S' w'
def aB (P:Program) (g:FuncId) (args:List PV) (v:PV):Prop:=Enters P g/\Iq P gB g args v
theorem enters {g:FuncId} {fn:Func} (hf:P.funcs[g]? =some fn) (hn:(fn.name== "runtime.NumGoroutine")=false) (hb:fn.body.isNone=false):Enters P g:=by
 intro vs w;have h1:¬fn.name= "runtime.NumGoroutine" :=λe=>by rw[e]at hn;simp at hn
 have h2:¬fn.body=none:=λe=>by rw[e]at hb;simp at hb
 simp[callFunc,hf,h1,h2,Result.andThen]
theorem Tq {S:Imm} {w:World} {us:List PV} {vals:List Value} (hlen:us.length=vals.length) (h:∀i,i<us.length->Rep S w noI (aG us i) (vals.getD i undef)):
 Rep S w noI (dJ us) (if h:vals.toArray.size=1 then vals.toArray[0]else .tuple vals.toArray):=by
 match us,vals,hlen,h with
 | [],[],_,_=>exact .tup _ _ _ rfl (λi hi=>by simp at hi)
 | [u],[x],_,h=>simpa [dJ,aG]using h 0 qqS
 |u::u'::us,x::x'::xs,hlen,h=>
  have:¬(x::x'::xs).toArray.size=1:=qqS;rw[dif_neg this];refine .tup _ _ _ (by simpa using hlen) (λi hi=>?_)
  have:=h i hi;rw[alz];simpa using this
theorem Ir {S:Imm} {w:World} {ι:Ix} {args:List PV} {vs:Array Value} (h:bH S w ι args vs) (n:Nat):bH S w ι (args++oG n) (vs++ane n undef):=by
 refine gK h ⟨by simp[zH],λi hi=>?_⟩
 rw[H7];exact .any _ _
structure Sup (p q:PV):Prop where
 get:∀{S:Imm} {w:World} {ι:Ix} {v:Value},Rep S w ι p v->Rep S w ι q v
theorem Sup.of {p q:PV} (h:p=q):Sup p q:=⟨λhr=>h▸hr⟩
structure Fin (q:Prop):Prop where
 get:q
theorem fM {q:Prop} (h:q):Fin q:=⟨h⟩
theorem aI {a b:Prop} (h:a) (g:b):a/\b:=⟨h,g⟩
theorem vw:(∀{α:Type} (a b:α),(if True then a else b)=a)/\(∀{α:Type} (a b:α),(if False then a else b)=b)/\(∀{p:Prop} [Decidable p],(decide p=true)=p)/\(∀{p:Prop} [Decidable p],decide p=false↔¬p)/\(∀b:Bool,(¬b=true)=(b=false))/\(∀b:Bool,(¬b=false)=(b=true))/\(∀b:Bool,((!b)=true)=(b=false))/\(∀b:Bool,((!b)=false)=(b=true))/\((!true)=false)/\((!false)=true):=
 ⟨λ_ _=>rfl,λ_ _=>rfl, @decide_eq_true_eq, @decide_eq_false_iff_not,Bool.not_eq_true,Bool.not_eq_false,Bool.not_eq_true',Bool.not_eq_false',Bool.not_true,Bool.not_false⟩
def af3 (τ:TypeId->Option TE) (fn:Func) (v:PV) (e:Exit) (env:Env) (H:Hp):Prop:=
 match e with
 |.normal=>oH τ fn.results.toList env H λvs=>wB vs H λus _=>Fin (Sup (dJ us) v)
 |.ret=>oH τ fn.results.toList env H λvs=>wB vs H λus _=>Fin (Sup (dJ us) v)
 |_=>False
theorem Lm (hB:BOK B) (hτ:bC P τ) {g:FuncId} {fn:Func} {c:Code} {args:List PV} {v:PV} (hf:P.funcs[g]? =some fn) (hb:fn.body=some c)
 (h:AW P none B 0 c (af3 τ fn v) (args++oG (fn.ntmps-args.length)) []):Iq P B g args v:=by
 intro S w vs hBw himm hr;have M:Mem S w noI []:=⟨λk o h=>by simp[av]at h,λk b h=>by simp[noI]at h,λk x h=>by simp[noI]at h,λk k' o o' b h=>by simp[av]at h,himm⟩
 have hA:At B 0 S w noI [] (args++oG (fn.ntmps-args.length)) [] {tmps:=vs++ane (fn.ntmps-vs.size) undef,defers:=[]} w:=
  ⟨S,noI,hBw,M,by rw[hr.1];exact Ir hr _,.nil _ _ _,λd hd=>by simp at hd,.refl _ _ _ _ _⟩
 refine callsIn_of_wp_marks hf hb trivial (wpIn_mono (h S w noI [] _ w hA) ?_)
 rintro e ⟨tmps,ds⟩ w1 ⟨env',H',q,hA1⟩
 have fin:(oH τ fn.results.toList env' H' λvs=>wB vs H' λus _=>Fin (Sup (dJ us) v))->LeavesInM (Fw none) 0 P fn tmps (λe w'=>∃val S',e=.returned val/\Xo S w v val S' w') ds .returning w1:=by
  intro q;refine At.leave hB ds w1 hA1 λw2 hA2=>?_;obtain⟨S2,ι2,hb2,M2,R2,_,_,T2⟩:=hA2.ex;obtain⟨vs1,q,hs⟩:=BM (P:=P) hτ _ q;obtain⟨us,H3,q,hl,hz⟩:=Ip (P:=P) _ q;obtain⟨vals,r1,r2,r3⟩:=hs M2 R2;obtain⟨S3,M3,K3,T3,R3⟩:=hz (λi=>vals.getD i undef) M2 r3;have hT:=T2.trans (T3 0);have hno:∀b,¬owned noI [] b:=by rintro b ⟨k,o,h1,_⟩;simp[av]at h1
  have hrun:(results fn tmps).run P w2=.ok (if h:vals.toArray.size=1 then vals.toArray[0]else .tuple vals.toArray) w2:=by
   unfold results;rw[Sem.run_bind,anf,<-bind_pure_comp,Sem.run_bind];have:(ang (λ(x:ResultVar)=>(match x with|.tmp t=>pure (tmps.getD t undef)|.cell a t=>do loadVar t (<-asAddr (tmps.getD a undef)):Sem Value)) fn.results.toList).run P w2=.ok vals w2:=r1
   erw [this]
   simp only[Result.andThen,Function.comp,Sem.run_pure]
  refine⟨_,hrun,_,S3,rfl,M3.imm,hT.keeps,?_,hT.below,λb hb=>hT.same b hb (hno b),λb j hb hs=>(hT.immN b j hb hs).resolve_right (hno b)⟩;exact q.get.get (Tq qqO R3)
 cases e with
 |normal=>exact fin q
 |ret=>exact fin q
 |_=>exact q.elim
def PO:PV->PV
 |.isl c _=>.isl c .none
 |.bool b=>.bp b
 |.nils=>.isl (.ints .i64 []) .none
 |p=>p
def BN:List PV->List PV
 | []=>[]
 |x::xs=>PO x::BN xs
def Xp:PV->PV
 |.agg cs=>.agg (BN cs)
 |p=>PO p
def fF:List PV->List PV
 | []=>[]
 |x::xs=>Xp x::fF xs
theorem Iu {S:Imm} {w:World} {ι:Ix} {p:PV} {v:Value} (h:Rep S w ι p v):Rep S w ι (PO p) v:=by
 unfold PO;split
 ·exact h.drop
 ·cases h;exact .bp _ _
 ·cases h;exact .islnil _ _ _ rfl
 ·exact h
theorem wC:∀(ps:List PV),(BN ps).length=ps.length/\∀i {S:Imm} {w:World} {ι:Ix} {v:Value},Rep S w ι (aG ps i) v->Rep S w ι (aG (BN ps) i) v:=by
 intro ps;induction ps with
 |nil=>exact⟨rfl,λi _ _ _ _ h=>h⟩
 |cons p ps ih=>exact⟨by simp[BN,ih.1],λi _ _ _ _ h=>by cases i with|zero=>exact Iu h|succ i=>exact ih.2 i h⟩
theorem Xq {S:Imm} {w:World} {ι:Ix} {p:PV} {v:Value} (h:Rep S w ι p v):Rep S w ι (Xp p) v:=by
 unfold Xp;split
 ·cases h with|agg _ _ vs hl hh=>exact .agg _ _ _ ((wC _).1.trans hl) (λi hi=>(wC _).2 i (hh i (by rw[(wC _).1]at hi;exact hi)))
 ·exact Iu h
theorem bV:∀(ps:List PV),(fF ps).length=ps.length/\∀i {S:Imm} {w:World} {ι:Ix} {v:Value},Rep S w ι (aG ps i) v->Rep S w ι (aG (fF ps) i) v:=by
 intro ps;induction ps with
 |nil=>exact⟨rfl,λi _ _ _ _ h=>h⟩
 |cons p ps ih=>exact⟨by simp[fF,ih.1],λi _ _ _ _ h=>by cases i with|zero=>exact Xq h|succ i=>exact ih.2 i h⟩
def BO (args:List PV) (K:List PV->Prop):Prop:=match jP args with|some xs=>cB (fF xs) K|none=>False
theorem wD {g:FuncId} {args as:List PV} {H:Hp} {v:PV} (ha:jP args=some as) (h:aB P g (fF as) v):iX P g args H v [] [] []:=by
 obtain⟨hent,h⟩:=h;refine .inl ⟨hent,λS w ι H' vs hg M hr _ _=>?_⟩;obtain⟨h1,h2⟩:=iD ha;refine(h S w vs hg M.imm ⟨(bV as).1.trans (h1.trans hr.1),λi hi=>(bV as).2 i (h2 i (by rw[(bV as).1]at hi;omega) (hr.2 i (by rw[(bV as).1]at hi;omega)))⟩).mono ?_
 rintro e w' ⟨val,S',rfl,o⟩
 have hno:∀k ob b,av H' k=some ob->ob.has ι k b->b<w.heap.size:=λk ob b ho hb=>(M.obj k ob ho).lt hb;refine⟨val,S',ι,rfl,⟨λk ob ho=>(M.obj k ob ho).mono o.keeps (.refl _) o.below (λb hb=>o.same b (hno k ob b ho hb)) (λ_=>rfl) rfl (λb j hb hs=>o.immN b j (hno k ob b ho hb) hs),M.liveO,M.liveT,M.dist,o.imm⟩,
  .refl _,o.keeps,o.rep.up ι,λp=>⟨o.below,λb hb _=>o.same b hb,o.keeps,λb j hb hs=>.inl (o.immN b j hb hs),λb h=>.inl h,λ_ _ _ h=>h,λ_ _ b n h=>⟨b,n,h,.inl ⟨rfl,alo _⟩⟩⟩⟩
end Go.Eng
namespace Go.Eng
inductive TT where
 |leaf (k:Nat) (te:TE)
 |node (m:Nat) (l r:TT)
def TT.get:TT->Nat->Option TE
 |.leaf k te,t=>match alI t k with|true=>some te|false=>none
 |.node m l r,t=>match anh t m with|true=>l.get t|false=>r.get t
def TT.All (f:Nat->TE->Prop):TT->Prop
 |.leaf k te=>f k te
 |.node _ l r=>l.All f/\r.All f
theorem TT.get_all {f:Nat->TE->Prop}:∀(T:TT),T.All f->∀t te,T.get t=some te->f t te:=by
 intro T;induction T with
 |leaf k te'=>
  intro h t te hg;simp only[TT.get]at hg;cases hb:alI t k with
  |true=>rw[hb]at hg;cases hg;rw[alN hb];exact h
  |false=>rw[hb]at hg;cases hg
 |node m l r ihl ihr=>
  intro h t te hg;simp only[TT.get]at hg;cases hb:anh t m with
  |true=>rw[hb]at hg;exact ihl h.1 t te hg
  |false=>rw[hb]at hg;exact ihr h.2 t te hg
def aY (t u:TypeInfo):TE:=⟨u.desc,t.zero.getD undef,t.size,t.bytes,none,t.methods.toList⟩
def lg (t u:TypeInfo) (ks:List CK):TE:=⟨u.desc,t.zero.getD undef,t.size,t.bytes,some ks,t.methods.toList⟩
def aM (P:Program) (k:Nat) (te:TE):Prop:=
 P.underlying k=some te.und/\(∃i,P.info? k=some i/\i.zero=some te.zero/\i.size=te.size/\i.bytes=te.bytes)/\te.zero.cells.size=te.size/\(∀ks,te.cmp=some ks->Gf P k ks)/\∃i,P.info? k=some i/\i.methods.toList=te.meths
theorem kY {P:Program} {t:TypeId} {i:TypeInfo} (h:∀w,(typeInfo t).run P w=.ok i w):P.info? t=some i:=by
 cases hi:P.info? t with
 |none=>have:=h default;simp[typeInfo,hi]at this
 |some j=>have:=h default;simp[typeInfo,hi]at this;rw[this]
theorem aQ {P:Program} {k:Nat} {t u:TypeInfo} {d:TypeDesc} {z:Value} (h1:P.underlying k=some d) (h2:∀w,(typeInfo k).run P w=.ok t w) (h3:u.desc=d) (h4:t.zero=some z) (h5:z.cells.size=t.size):aM P k (aY t u):=
 ⟨by rw[h1,<-h3];rfl,⟨t,kY h2,by simp[aY,h4],rfl,rfl⟩,by simp[aY,h4,h5],λks h=>(by cases h),t,kY h2,rfl⟩
theorem EqT.mono {P:Program} {t:TypeId} {ks:List CK} {n m:Nat} (h:EqT P t ks n) (hm:n≤m):EqT P t ks m:=λw d xs ys off hd=>h w d xs ys off qqO
theorem vN.nil {P:Program} {n off:Nat}:vN P n [] off []:=rfl
theorem vN.cons {P:Program} {n off:Nat} {f:Field} {fs:List Field} {kf rest:List CK} (h1:f.name≠ "_") (h2:f.offset=off) (h3:EqT P f.type kf n) (h4:vN P n fs (off+kf.length) rest):vN P n (f::fs) off (kf++rest):=
 ⟨h1,h2,kf,rest,rfl,h3,h4⟩
theorem Iw {P:Program} {t:TypeId} {i:TypeInfo} (h:∀w,(typeInfo t).run P w=.ok i w):P.cellsOf t=i.size:=by simp[Program.cellsOf,kY h]
theorem kK {P:Program} {k:Nat} {t u:TypeInfo} {d:TypeDesc} {z:Value} {ks:List CK} (hc:Gf P k ks) (h1:P.underlying k=some d) (h2:∀w,(typeInfo k).run P w=.ok t w) (h3:u.desc=d) (h4:t.zero=some z) (h5:z.cells.size=t.size):aM P k (lg t u ks):=
 ⟨by rw[h1,<-h3];rfl,⟨t,kY h2,by simp[lg,h4],rfl,rfl⟩,by simp[lg,h4,h5],λks' h=>(by cases h;exact hc),t,kY h2,rfl⟩
theorem Xr {P:Program} {T:TT} (h:T.All (aM P)):bC P T.get:=
 ⟨λt te ht=>(TT.get_all T h t te ht).1,λt te ht=>(TT.get_all T h t te ht).2.1,λt te ht=>(TT.get_all T h t te ht).2.2.1,λt te ks ht=>(TT.get_all T h t te ht).2.2.2.1 ks,λt te ht=>(TT.get_all T h t te ht).2.2.2.2⟩
theorem ku {P:Program} {g:FuncId} {xs:List PV} {u v:PV} (h:aB P g xs u) (hs:Sup u v):aB P g xs v:=
 ⟨h.1,λS w vs hb himm hA=>(h.2 S w vs hb himm hA).mono λ_ _ ⟨val,S',h1,h2⟩=>⟨val,S',h1,⟨h2.imm,h2.keeps,hs.get h2.rep,h2.below,h2.same,h2.immN⟩⟩⟩
def noC:CPT:=λ_ _ _ _ _=>False
def noY:YPT:=λ_ _ _ _ _ _ _=>False
theorem aC {P:Program}:aZ P noC:=λ_ _ _ _ _ h=>h.elim
theorem aN {P:Program} {r:Option Nat} {B:Imm->World->Prop}:ni P r B noY:=λ_ _ _ _ _ _ _ h=>h.elim
theorem aH:BOK rA:=⟨λ_ _ _ _ k b h=>oV k b h,λ_ _ h=>h⟩
def PS (P:Program) (B:Imm->World->Prop) (τ:TypeId->Option TE) (md:Nat) (rf:List Nat) (CP:CPT) (YP:YPT) (fn:Func) (args:List PV) (v:PV):Prop:=
 ev P none B 0 τ md rf CP YP (fn.body.getD .skip) 0 (args++oG (fn.ntmps-args.length)) [] λe env H _=>af3 τ fn v e env H
theorem Tt {P:Program} {τ:TypeId->Option TE} {B:Imm->World->Prop} (hB:BOK B) (hm:P.follows .mixedOrders=true) (hτ:bC P τ) {md rf CP YP} (hC:j5 P B CP) (hY:ni P none B YP) {g:FuncId} {fn:Func} {args:List PV} {v:PV}
 (hf:P.funcs[g]? =some fn) (hb:fn.body.isSome=true) (hok:eU (fn.body.getD .skip)=true) (h:PS P B τ md rf CP YP fn args v):Iq P B g args v:=by
 obtain⟨c,hc⟩:=alB.1 hb;unfold PS at h;rw[hc]at h hok;exact Lm hB hτ hf hc ((kr hB hm hτ hC hY c hok _ _ _ _ h).mono λe env H ⟨n,h⟩=>h)
theorem au {P:Program} {τ:TypeId->Option TE} (hm:P.follows .mixedOrders=true) (hτ:bC P τ) {md rf CP} (hC:aZ P CP) {g:FuncId} {fn:Func} {args:List PV} {v:PV}
 (hf:P.funcs[g]? =some fn) (hn:(fn.name== "runtime.NumGoroutine")=false) (hb:fn.body.isSome=true) (hok:eU (fn.body.getD .skip)=true) (h:PS P rA τ md rf CP noY fn args v):aB P g args v:=
 ⟨enters hf hn (by cases h:fn.body<;>simp_all),Tt aH hm hτ hC aN hf hb hok h⟩
end Go.Eng
namespace Go.Eng
open Go.RowKit
set_option linter.unusedSimpArgs false
set_option linter.unusedVariables false
abbrev Sg:=List (Nat × Nat)
def sgF:Sg->Nat->Option Nat
 | [],_=>none
 |(a,b)::r,k=>match alI a k with|true=>some b|false=>sgF r k
def sgB:Sg->Nat->Option Nat
 | [],_=>none
 |(a,b)::r,k=>match alI b k with|true=>some a|false=>sgB r k
def PU (σ:Sg):PV->Option PV
 |.rsl k o n=>match sgF σ k with|some k'=>some (.rsl k' o n)|none=>none
 |.rp k o=>match sgF σ k with|some k'=>some (.rp k' o)|none=>none
 |.rpe k m i j=>match sgF σ k with|some k'=>some (.rpe k' m i j)|none=>none
 |.rm k=>match sgF σ k with|some k'=>some (.rm k')|none=>none
 |.row k b n=>match sgF σ k with|some k'=>some (.row k' b n)|none=>none
 |.rowp k b m i j=>match sgF σ k with|some k'=>some (.rowp k' b m i j)|none=>none
 |.isl c t=>match t with
  |.own k=>match sgF σ k with|some k'=>some (.isl c (.own k'))|none=>some (.isl c .none)
  |.none=>some (.isl c .none)
  |.full=>some (.isl c .full)
 |.any=>some .any
 |.rsc k es n=>match sgF σ k with|some k'=>some (.rsc k' es n)|none=>none
 |.sln n=>some (.sln n)
 |p=>iL p
def qN (σ:Sg):List PV->Option (List PV)
 | []=>some []
 |x::xs=>match PU σ x with
  |some y=>match qN σ xs with
   |some ys=>some (y::ys)
   |none=>none
  |none=>none
def tQ (σ:Sg):PV->Option PV
 |.agg cs=>match qN σ cs with|some ds=>some (.agg ds)|none=>none
 |.tup cs=>match qN σ cs with|some ds=>some (.tup ds)|none=>none
 |.fn f us vs=>match qN σ us with
  |some us=>match qN σ vs with
   |some vs=>some (.fn f us vs)
   |none=>none
  |none=>none
 |p=>PU σ p
structure VC (q:Prop):Prop where
 get:q
theorem vM {q:Prop} (h:q):VC q:=⟨h⟩
def eqT (t u:Tok):Prop:=match u with
 |.none=>True
 |.full=>match t with|.full=>True|_=>False
 |.own k=>match t with|.own k'=>ifK (alI k k') True|_=>False
def Dz (p q:PV) (K:Prop):Prop:=
 match q with
 |.any=>K
 |.int k a=>match p with
  |.int k' b=>ifK (decide (k'=k)) (VC (b=a)/\K)
  |_=>False
 |.bp a=>match p with
  |.bp b=>VC (b=a)/\K
  |.bool b=>VC (b=a)/\K
  |_=>False
 |.str a=>match p with
  |.str b=>VC (b=a)/\K
  |_=>False
 |.isl c t=>match p with
  |.isl d u=>VC (d=c)/\eqT u t/\K
  |.nils=>VC (c.cnt=0)/\K
  |_=>False
 |.nnl c=>match p with
  |.nnl d=>VC (d=c)/\K
  |.nils=>VC (c.cnt=0)/\K
  |.isl d _=>VC (d=c/\0<d.cnt)/\K
  |_=>False
 |.rsl k o n=>match p with
  |.rsl k' o' n'=>ifK (alI k k') (VC (o'=o/\n'=n)/\K)
  |.rsc k' _ n'=>ifK (alI k k') (VC (0=o/\n'=n)/\K)
  |_=>False
 |.rsc k es n=>match p with
  |.rsc k' es' n'=>ifK (alI k k'&&alI es es') (VC (n'=n)/\K)
  |_=>False
 |q=>VC (p=q)/\K
def Gi:List PV->List PV->Prop->Prop
 | [],[],K=>K
 |p::ps,q::qs,K=>Dz p q (Gi ps qs K)
 |_,_,_=>False
def Iy (σ:Sg) (p q:PV) (K:Prop):Prop:=
 match q with
 |.any=>K
 |.agg ds=>match tQ σ p with
  |some (.agg cs)=>Gi cs ds K
  |_=>False
 |.isl c t=>match t with
  |.none=>match p with
   |.isl d _=>VC (d=c)/\K
   |.nils=>VC (c.cnt=0)/\K
   |_=>False
  |t=>match tQ σ p with
   |some p'=>Dz p' (.isl c t) K
   |none=>False
 |q=>match tQ σ p with
  |some p'=>Dz p' q K
  |none=>False
def Gj (σ:Sg):List PV->List PV->Prop->Prop
 | [],[],K=>K
 |p::ps,q::qs,K=>Iy σ p q (Gj σ ps qs K)
 |_,_,_=>False
theorem DC {σ:Sg} {k k':Nat} (h:sgF σ k=some k') (hinj:∀x∈σ,sgB σ x.2=some x.1):sgB σ k'=some k:=by
 have:(k,k')∈σ:=by
  clear hinj;induction σ with
  |nil=>cases h
  |cons x r ih=>
   obtain⟨a,b⟩:=x;simp only[sgF]at h;cases hb:alI a k with
   |true=>rw[hb]at h;cases h;rw[alN hb];simp
   |false=>rw[hb]at h;exact ani _ (ih h)
 exact hinj _ this
def Ix.ren (ι:Ix) (σ:Sg):Ix:=⟨λk=>(sgB σ k).bind ι.o,λk=>(sgB σ k).bind ι.t,λk b=>∃k0,sgB σ k=some k0/\ι.x k0 b⟩
structure tT (σ:Sg) (ι ι1:Ix):Prop where
 o:∀k k' b,sgF σ k=some k'->ι.o k=some b->ι1.o k'=some b
 t:∀k k' x,sgF σ k=some k'->ι.t k=some x->ι1.t k'=some x
theorem qO {σ:Sg} (hinj:∀x∈σ,sgB σ x.2=some x.1) (ι:Ix):tT σ ι (ι.ren σ):=
 ⟨λk k' b h hb=>by simp[Ix.ren,DC h hinj,hb],λk k' b h hb=>by simp[Ix.ren,DC h hinj,hb]⟩
section
variable {S:Imm} {w:World} {ι ι1:Ix} {σ:Sg} (hinj:tT σ ι ι1)
include hinj
theorem ME {p q:PV} (h:PU σ p=some q) {v:Value} (hr:Rep S w ι p v):Rep S w ι1 q v:=by
 have key:∀{k k' b:Nat},sgF σ k=some k'->ι.o k=some b->ι1.o k'=some b:=λh hb=>hinj.o _ _ _ h hb;have keyt:∀{k k':Nat} {x},sgF σ k=some k'->ι.t k=some x->ι1.t k'=some x:=λh hb=>hinj.t _ _ _ h hb;unfold PU at h;split at h
 ·split at h
  ·rename_i hs;cases h
   cases hr with
   |rsl _ _ _ _ b cap hk hc hr=>exact .rsl _ _ _ _ _ _ (key hs hk) hc hr
   |rslz _ _ _ b o hk=>exact .rslz _ _ _ _ _ (key hs hk)
  ·cases h
 ·split at h
  ·rename_i hs;cases h
   cases hr with|rp _ _ _ b hk=>exact .rp _ _ _ _ (key hs hk)
  ·cases h
 ·split at h
  ·rename_i hs;cases h
   cases hr with|rpe _ _ _ _ _ b hk=>exact .rpe _ _ _ _ _ _ (key hs hk)
  ·cases h
 ·split at h
  ·rename_i hs;cases h
   cases hr with|rm _ _ b hk=>exact .rm _ _ _ (key hs hk)
  ·cases h
 ·split at h
  ·rename_i hs;cases h
   cases hr with|row _ _ _ _ cap hc=>exact .row _ _ _ _ _ hc
  ·cases h
 ·split at h
  ·rename_i hs;cases h
   cases hr;exact .rowp _ _ _ _ _ _
  ·cases h
 ·rename_i c t
  split at h
  ·rename_i k
   split at h
   ·rename_i hs;cases h
    cases hr with
    |islnil _ _ _ hc=>exact .islnil _ _ _ hc
    |isl _ _ _ b off cap hc hs' hh hf ho=>
     refine .isl _ _ _ _ _ _ hc hs' hh (λe=>by cases e) (λk1 e=>?_)
     cases e
     rcases ho k rfl with h0|⟨b1,n,g1,g2⟩
     ·exact .inl h0
     ·exact .inr ⟨b1,n,keyt hs g1,g2⟩
   ·cases h;exact(hr.drop.toNoI).up _
  ·cases h;exact(hr.toNoI).up _
  ·cases h;exact(jE (p:=.isl c .full) rfl hr).up _
 ·cases h;exact .any _ _
 ·split at h
  ·rename_i hs;cases h
   cases hr with|rsc _ _ _ _ b cap hk hc he hr=>exact .rsc _ _ _ _ _ _ (key hs hk) hc he hr
  ·cases h
 ·cases h;cases hr;exact .sln _ _ _ _
 ·exact(jE h hr).up _
theorem tX:∀{ps qs:List PV},qN σ ps=some qs->qs.length=ps.length/\∀i,i<ps.length->∀{v:Value},Rep S w ι (aG ps i) v->Rep S w ι1 (aG qs i) v:=by
 intro ps;induction ps with
 |nil=>intro qs h;simp[qN]at h;subst h;exact⟨rfl,λi hi=>by simp at hi⟩
 |cons p ps ih=>
  intro qs h;unfold qN at h;split at h
  ·rename_i y hy
   split at h
   ·rename_i ys hys
    cases h
    obtain⟨h1,h2⟩:=ih hys;refine⟨by simp[h1],λi hi=>?_⟩
    cases i with
    |zero=>intro v hr;exact ME hinj hy hr
    |succ i=>exact h2 i (by simpa using hi)
   ·cases h
  ·cases h
theorem xX {p q:PV} (h:tQ σ p=some q) {v:Value} (hr:Rep S w ι p v):Rep S w ι1 q v:=by
 unfold tQ at h;split at h
 ·split at h
  ·rename_i ds hds
   cases h
   obtain⟨h1,h2⟩:=tX hinj hds (S:=S) (w:=w);cases hr with|agg _ _ vs hl hh=>exact .agg _ _ _ (h1.trans hl) (λi hi=>h2 i qqO (hh i qqO))
  ·cases h
 ·split at h
  ·rename_i ds hds
   cases h
   obtain⟨h1,h2⟩:=tX hinj hds (S:=S) (w:=w);cases hr with|tup _ _ vs hl hh=>exact .tup _ _ _ (h1.trans hl) (λi hi=>h2 i qqO (hh i qqO))
  ·cases h
 ·split at h
  ·rename_i us hus
   split at h
   ·rename_i vs hvs
    cases h
    obtain⟨h1,h2⟩:=tX hinj hus (S:=S) (w:=w);obtain⟨g1,g2⟩:=tX hinj hvs (S:=S) (w:=w);cases hr with|fn _ _ _ _ us' vs' hk hl hu hv=>exact .fn _ _ _ _ _ _ (h1.trans hk) (g1.trans hl) (λi hi=>h2 i qqO (hu i qqO)) (λi hi=>g2 i qqO (hv i qqO))
   ·cases h
  ·cases h
 ·exact ME hinj h hr
end
theorem tY {σ:Sg} (hinj:∀x∈σ,sgB σ x.2=some x.1) {S:Imm} {w:World} {ι:Ix} {p q:PV} (h:tQ σ p=some q) {v:Value} (hr:Rep S w ι p v):Rep S w (ι.ren σ) q v:=xX (qO hinj ι) h hr
theorem oN {p q:PV} {K:Prop} (h:Dz p q K):K/\∀{S:Imm} {w:World} {ι:Ix} {v:Value},Rep S w ι p v->Rep S w ι q v:=by
 unfold Dz at h;split at h
 ·exact⟨h,λ_=>.any _ _⟩
 ·split at h
  ·rw[aK]at h
   obtain⟨h1,⟨h2⟩,h3⟩:=h;have h1:=of_decide_eq_true h1;subst h1;subst h2;exact⟨h3,λhr=>hr⟩
  ·exact h.elim
 ·split at h
  ·obtain⟨⟨h1⟩,h2⟩:=h;subst h1;exact⟨h2,λhr=>hr⟩
  ·obtain⟨⟨h1⟩,h2⟩:=h;subst h1;exact⟨h2,λhr=>by cases hr;constructor⟩
  ·exact h.elim
 ·split at h
  ·obtain⟨⟨h1⟩,h2⟩:=h;subst h1;exact⟨h2,λhr=>hr⟩
  ·exact h.elim
 ·rename_i c t
  split at h
  ·rename_i d u
   obtain⟨⟨h1⟩,h2,h3⟩:=h;subst h1;refine⟨h3,λhr=>?_⟩;unfold eqT at h2;split at h2
   ·exact hr.drop
   ·split at h2
    ·exact hr
    ·exact h2.elim
   ·split at h2
    ·rw[aK]at h2;have:=alN h2.1;subst this;exact hr
    ·exact h2.elim
  ·obtain⟨⟨h1⟩,h2⟩:=h
   exact⟨h2,λhr=>by cases hr;exact .islnil _ _ _ h1⟩
  ·exact h.elim
 ·split at h
  ·obtain⟨⟨h1⟩,h2⟩:=h;subst h1;exact⟨h2,λhr=>hr⟩
  ·obtain⟨⟨h1⟩,h2⟩:=h;exact⟨h2,λhr=>by cases hr;exact .nnl0 _ _ h1⟩
  ·obtain⟨⟨h1,h0⟩,h2⟩:=h
   subst h1;exact⟨h2,λhr=>by
    cases hr with
    |islnil _ _ _ hc=>omega
    |isl _ _ _ b off cap hc hs hh hf ho=>exact .nnl1 _ _ _ _ _ h0 hc hs hh⟩
  ·exact h.elim
 ·split at h
  ·rw[aK]at h
   obtain⟨h1,⟨h2,h3⟩,h4⟩:=h;have h1:=alN h1;subst h1;subst h2;subst h3;exact⟨h4,λhr=>hr⟩
  ·rw[aK]at h
   obtain⟨h1,⟨h2,h3⟩,h4⟩:=h;have h1:=alN h1;subst h1;subst h2;subst h3;exact⟨h4,λhr=>hr.dropC⟩
  ·exact h.elim
 ·split at h
  ·simp only[aK,alM]at h
   obtain⟨⟨h1,h2⟩,⟨h3⟩,h4⟩:=h;have h1:=alN h1;have h2:=alN h2;subst h1;subst h2;subst h3;exact⟨h4,λhr=>hr⟩
  ·exact h.elim
 ·obtain⟨⟨h1⟩,h2⟩:=h;subst h1;exact⟨h2,λhr=>hr⟩
theorem zn:∀{ps qs:List PV} {K:Prop},Gi ps qs K->K/\ps.length=qs.length/\∀i {S:Imm} {w:World} {ι:Ix} {v:Value},Rep S w ι (aG ps i) v->Rep S w ι (aG qs i) v:=by
 intro ps;induction ps with
 |nil=>intro qs K h;cases qs with
  |nil=>exact⟨h,rfl,λi _ _ _ _ hr=>hr⟩
  |cons=>exact h.elim
 |cons p ps ih=>intro qs K h;cases qs with
  |nil=>exact h.elim
  |cons q qs=>
   obtain⟨h,h1⟩:=oN h;obtain⟨h,h2,h3⟩:=ih h;refine⟨h,by simp[h2],λi _ _ _ _ hr=>?_⟩
   cases i with
   |zero=>exact h1 hr
   |succ i=>exact h3 i hr
theorem tZ {σ:Sg} (hinj:∀x∈σ,sgB σ x.2=some x.1) {p q:PV} {K:Prop} (h:Iy σ p q K):K/\∀{S:Imm} {w:World} {ι:Ix} {v:Value},Rep S w ι p v->Rep S w (ι.ren σ) q v:=by
 unfold Iy at h;split at h
 ·exact⟨h,λ_=>.any _ _⟩
 ·split at h
  ·rename_i cs hcs
   obtain⟨h,h1,h2⟩:=zn h;refine⟨h,λhr=>?_⟩;have:=tY hinj hcs hr;cases this with|agg _ _ vs hl hh=>exact .agg _ _ _ (h1.symm.trans hl) (λi hi=>h2 i (hh i qqO))
  ·exact h.elim
 ·rename_i c t
  split at h
  ·split at h
   ·rename_i d u
    obtain⟨⟨e⟩,h⟩:=h;subst e;exact⟨h,λhr=>by
     have:=hr.drop;cases this with
     |islnil _ _ _ hc=>exact .islnil _ _ _ hc
     |isl _ _ _ b off cap hc hs hh hf ho=>exact .isl _ _ _ _ _ _ hc hs hh hf (λk e=>by cases e)⟩
   ·obtain⟨⟨e⟩,h⟩:=h
    exact⟨h,λhr=>by cases hr;exact .islnil _ _ _ e⟩
   ·exact h.elim
  ·split at h
   ·rename_i p' hp
    obtain⟨h,h1⟩:=oN h;exact⟨h,λhr=>h1 (tY hinj hp hr)⟩
   ·exact h.elim
 ·split at h
  ·rename_i p' hp
   obtain⟨h,h1⟩:=oN h;exact⟨h,λhr=>h1 (tY hinj hp hr)⟩
  ·exact h.elim
theorem zo {σ:Sg} (hinj:∀x∈σ,sgB σ x.2=some x.1):∀{ps qs:List PV} {K:Prop},Gj σ ps qs K->K/\ps.length=qs.length/\∀i {S:Imm} {w:World} {ι:Ix} {v:Value},Rep S w ι (aG ps i) v->Rep S w (ι.ren σ) (aG qs i) v:=by
 intro ps;induction ps with
 |nil=>intro qs K h;cases qs with
  |nil=>exact⟨h,rfl,λi _ _ _ _ hr=>.any _ _⟩
  |cons=>exact h.elim
 |cons p ps ih=>intro qs K h;cases qs with
  |nil=>exact h.elim
  |cons q qs=>
   obtain⟨h,h1⟩:=tZ hinj h;obtain⟨h,h2,h3⟩:=ih h;refine⟨h,by simp[h2],λi _ _ _ _ hr=>?_⟩
   cases i with
   |zero=>exact h1 hr
   |succ i=>exact h3 i hr
def PW (p q:PV):Prop:=
 match q with
 |.agg qs=>(match p with|.agg ps=>Gi ps qs True|_=>False)
 |q=>Dz p q True
def Xt:List PV->List PV->Prop
 | [],[]=>True
 |p::ps,q::qs=>PW p q/\Xt ps qs
 |_,_=>False
def eqR (p q:PV):Prop:=
 match q with
 |.tup qs=>(match p with|.tup ps=>Xt ps qs|_=>False)
 |q=>PW p q
theorem BP {p q:PV} (h:PW p q) {S:Imm} {w:World} {ι:Ix} {v:Value} (hr:Rep S w ι p v):Rep S w ι q v:=by
 unfold PW at h;split at h
 ·split at h
  ·obtain⟨_,h1,h2⟩:=zn h
   cases hr with|agg _ _ vs hl hh=>exact .agg _ _ _ (h1.symm.trans hl) (λi hi=>h2 i (hh i qqO))
  ·exact h.elim
 ·exact(oN h).2 hr
theorem PX:∀{ps qs:List PV},Xt ps qs->ps.length=qs.length/\∀i {S:Imm} {w:World} {ι:Ix} {v:Value},Rep S w ι (aG ps i) v->Rep S w ι (aG qs i) v:=by
 intro ps;induction ps with
 |nil=>intro qs h;cases qs with
  |nil=>exact⟨rfl,λi _ _ _ _ hr=>hr⟩
  |cons=>exact h.elim
 |cons p ps ih=>intro qs h;cases qs with
  |nil=>exact h.elim
  |cons q qs=>
   obtain⟨h1,h2⟩:=ih h.2;refine⟨by simp[h1],λi _ _ _ _ hr=>?_⟩
   cases i with
   |zero=>exact BP h.1 hr
   |succ i=>exact h2 i hr
theorem Sup.via {p q:PV} (h:eqR p q):Sup p q:=⟨λhr=>by
 unfold eqR at h;split at h
 ·split at h
  ·obtain⟨h1,h2⟩:=PX h
   cases hr with|tup _ _ vs hl hh=>exact .tup _ _ _ (h1.symm.trans hl) (λi hi=>h2 i (hh i qqO))
  ·exact h.elim
 ·exact BP h hr⟩
def Xu (σ:Sg) (c c1:CL) (K:Prop):Prop:=
 match c1 with
 |.pv qs=>match c with
  |.pv ps=>Gj σ ps qs K
  |_=>False
 |.ints k ys=>match c with
  |.ints k' xs=>ifK (decide (k'=k)) (VC (xs=ys)/\K)
  |_=>False
 |.bools ys=>match c with
  |.bools xs=>VC (xs=ys)/\K
  |_=>False
 |.strs ys=>match c with
  |.strs xs=>VC (xs=ys)/\K
  |_=>False
 |.rows k ys=>match c with
  |.rows k' xs=>ifK (decide (k'=k)) (VC (xs=ys)/\K)
  |_=>False
 |.recs m ys=>match c with
  |.recs m' xs=>ifK (alI m' m) (VC (xs=ys/\fJ xs)/\K)
  |_=>False
 |_=>False
def uf (σ:Sg):List (PV × PV)->List (PV × PV)->Prop->Prop
 | [],[],K=>K
 |(p,u)::ps,(q,v)::qs,K=>Iy σ p q (Iy σ u v (uf σ ps qs K))
 |_,_,_=>False
def Iz (a b:RC) (D:Nat->Prop) (f:Nat->Nat) (K:Prop):Prop:=
 match b with
 |.ints k c=>match a with
  |.ints k' c'=>ifK (decide (k'=k)) (VC (∀i,D i->c' (f i)=c i)/\K)
  |_=>False
 |.recs m c=>match a with
  |.recs m' c'=>ifK (alI m' m) (VC (∀i,D i->c' (f i)=c i)/\K)
  |_=>False
 |.fn e n c=>match a with
  |.fn e' n' c'=>ifK (alI e' e) (VC (n'=n/\∀i,D i->c' (f i)=c i)/\K)
  |_=>False
theorem ug {a b:RC} {D:Nat->Prop} {f:Nat->Nat} {K:Prop} (h:Iz a b D f K):K/\a.kin b/\∀i,D i->a.at (f i)=b.at i:=by
 unfold Iz at h;split at h
 ·split at h
  ·rw[aK]at h
   obtain⟨h1,⟨h2⟩,h3⟩:=h;have h1:=of_decide_eq_true h1;subst h1;exact⟨h3,rfl,λi hi=>by simp only[RC.at];rw[h2 i hi]⟩
  ·exact h.elim
 ·split at h
  ·rw[aK]at h
   obtain⟨h1,⟨h2⟩,h3⟩:=h;have h1:=alN h1;subst h1;exact⟨h3,rfl,λi hi=>by simp only[RC.at];rw[h2 i hi]⟩
  ·exact h.elim
 ·split at h
  ·rw[aK]at h
   obtain⟨h1,⟨h2,h4⟩,h3⟩:=h;have h1:=alN h1;subst h1;subst h2;exact⟨h3,rfl,λi hi=>by simp only[RC.at];rw[h4 i hi]⟩
  ·exact h.elim
theorem iK.cong {S:Imm} {w:World} {ι ι1:Ix} {k k1:Nat} {all l:List Nat} {rc:RC} (h:iK S w ι k all l rc) (ho:ι1.o k1=ι.o k) (hx:ι1.x k1=ι.x k):iK S w ι1 k1 all l rc:=by
 obtain⟨b,arr,e,h1,h2,h3,h4,h5,h6,h7,h8⟩:=h;exact⟨b,arr,e,ho.trans h1,h2,h3,h4,h5,λb'=>by rw[hx];exact h6 b',h7,h8⟩
theorem iK.with {S:Imm} {w:World} {ι:Ix} {k:Nat} {all l:List Nat} {rc rc':RC} (h:iK S w ι k all l rc) (hr:∀b,b∈all->rc.at b=rc'.at b):iK S w ι k all l rc':=by
 obtain⟨b,arr,e,h1,h2,h3,h4,h5,h6,h7,h8⟩:=h;refine⟨b,arr,e,h1,h2,h3,h4,h5,h6,λr hm=>by rw[<-hr r hm];exact h7 r hm,λi hi=>?_⟩
 obtain⟨g1,cap,g2,g3⟩:=h8 i hi;rw[<-hr _ g1];exact⟨g1,cap,g2,g3⟩
def RC.pre (g:Nat->Nat):RC->RC
 |.ints k c=>.ints k (λb=>c (g b))
 |.recs m c=>.recs m (λb=>c (g b))
 |.fn e n c=>.fn e n (λb=>c (g b))
theorem RC.pre_at (g:Nat->Nat) (rc:RC) (b:Nat):(rc.pre g).at b=rc.at (g b):=by cases rc<;>rfl
theorem RC.pre_kin (g:Nat->Nat) (rc:RC):(rc.pre g).kin rc:=by cases rc<;>rfl
open Classical in
theorem wE {S:Imm} {w:World} {ι:Ix} {k n:Nat} {f:Nat->Nat} {c:Nat->CL} {rc:RC} (h:gu S w ι k n f c) (hf:∀i,i<n->f i=2/\c i=rc.at i):gY S w ι k (.pmat n rc):=by
 obtain⟨b,arr,e,l,h1,h2,h3,h4,h5,h6,h7,h8⟩:=h;have hlen:((alA n).map l).length=n:=qqS;have hget:∀i,i<n->((alA n).map l).getD i 0=l i:=λi hi=>by simp[alC,hi]
 have hmem:∀x,x∈(alA n).map l↔∃i,i<n/\l i=x:=λx=>qqS;have hg:∀i,i<n->(if hx:∃j,j<n/\l j=l i then hx.choose else 0)=i:=λi hi=>by
  have hx:∃j,j<n/\l j=l i:=⟨i,hi,rfl⟩;rw[dif_pos hx];exact h8 _ _ hx.choose_spec.1 hi (hf _ hx.choose_spec.1).1 (hf i hi).1 hx.choose_spec.2
 have hat:∀i,i<n->(rc.pre (λx=>if hx:∃j,j<n/\l j=x then hx.choose else 0)).at (l i)=c i:=λi hi=>by
  rw[RC.pre_at,hg i hi,(hf i hi).2]
 refine⟨(alA n).map l,(alA n).map l,rc.pre (λx=>if hx:∃j,j<n/\l j=x then hx.choose else 0),⟨b,arr,e,h1,h2,qqO,h4,λhb=>?_,λb'=>?_,λr hr=>?_,λi hi=>?_⟩,RC.pre_kin _ _,hlen,?_,λ_ hb=>hb,λi hi=>?_⟩
 ·obtain⟨i,hi,e⟩:=(hmem b).1 hb
  exact(h6 i hi (hf i hi).1).1 e
 ·rw[h5,hmem]
  exact or_congr Iff.rfl ⟨λ⟨i,hi,_,e⟩=>⟨i,hi,e⟩,λ⟨i,hi,e⟩=>⟨i,hi,(hf i hi).1,e⟩⟩
 ·obtain⟨i,hi,rfl⟩:=(hmem r).1 hr
  rw[hat i hi];exact(h6 i hi (hf i hi).1).2.1
 ·rw[hlen]at hi
  obtain⟨g1,g2,g3,cap,g4,g5,g6⟩:=h6 i hi (hf i hi).1;rw[hget i hi,hat i hi];exact⟨(hmem _).2 ⟨i,hi,rfl⟩,cap,g4,g6⟩
 ·refine(List.nodup_iff_pairwise_ne.2 ?_)
  rw[List.pairwise_map];refine List.Pairwise.imp_of_mem (R:=λa b=>a<b) (λ{a b'} ha hb hlt e=>?_) List.pairwise_lt_range;have ha:=anj.1 ha;have hb:=anj.1 hb;have:=h8 a b' ha hb (hf a ha).1 (hf b' hb).1 e;omega
 ·rw[hget i hi,hat i hi,(hf i hi).2]
def Xv:CL->Prop
 |.recs m rs=>fJ rs
 |.ints _ _=>True
 |.bools _=>True
 |.strs _=>True
 |_=>False
theorem Xw {c:CL} (h:Xv c) {j:Nat} (hj:j<c.ncell) {S:Imm} {w:World} {ι:Ix} {v:Value} (hr:Rep S w ι (c.get j) v):Rep S w noI (c.get j) v:=by
 have key:l9 c (λd=>d=c):=by
  cases c<;>first|exact h.elim|rfl|exact⟨h,rfl⟩
 obtain⟨d,hd,_,_,hg⟩:=iC key;subst hd;exact hg j hj hr
def Xx (σ:Sg) (o o1:AO) (K:Prop):Prop:=
 match o1 with
 |.cells c1 fz1=>match o with
  |.cells c fz=>match fz1 with
   |true=>match fz with
    |true=>VC (c=c1)/\K
    |false=>False
   |false=>match fz with
    |true=>False
    |false=>Xu σ c c1 K
  |_=>False
 |.tok m n=>match o with
  |.tok m' n'=>ifK (alI m' m) (VC (n'=n)/\K)
  |_=>False
 |.map es=>match o with
  |.map ds=>uf σ ds es K
  |_=>False
 |.dfr=>match o with
  |.dfr=>K
  |_=>False
 |.ext G pre=>match o with
  |.ext G' pre'=>VC (G'=G/\pre'=pre)/\K
  |_=>False
 |.mat all l rc=>match o with
  |.mat all' l' rc'=>VC (all'=all/\l'=l)/\Iz rc' rc (λb=>b∈all) (λb=>b) K
  |_=>False
 |.pmat n rc=>match o with
  |.pmat n' rc'=>VC (n'=n)/\Iz rc' rc (λi=>i<n) (λi=>i) K
  |.mat all l rc'=>VC (l.length=n/\l.Nodup/\∀b,b∈all->b∈l)/\Iz rc' rc (λi=>i<n) (λi=>l.getD i 0) K
  |.qmat n' f' c'=>VC (n'=n/\∀i,i<n->f' i=2/\c' i=rc.at i)/\K
  |_=>False
 |.qmat n f c=>match o with
  |.qmat n' f' c'=>VC (n'=n/\(∀i,i<n->f' i=f i)/\∀i,i<n->f i=2->c' i=c i)/\K
  |_=>False
 |.rowo c=>match o with
  |.rowo c'=>VC (c'=c)/\K
  |.cells c' fz=>match fz with
   |true=>False
   |false=>VC (c'=c/\Xv c)/\K
  |_=>False
 |.bld t e s=>match o with
  |.bld t' e' s'=>ifK (alI t' t&&alI e' e) (VC (s'=s)/\K)
  |_=>False
 |_=>False
def xY (σ:Sg) (H:Hp):Nat->Hp->Prop->Prop
 |_,[],K=>K
 |k1,o::r,K=>match o with
  |none=>jB (k1+1) λk2=>xY σ H k2 r K
  |some o1=>match sgB σ k1 with
   |some k=>bR H k λo=>Xx σ o o1 (jB (k1+1) λk2=>xY σ H k2 r K)
   |none=>match o1 with
    |.tok _ 0=>jB (k1+1) λk2=>xY σ H k2 r K
    |_=>False
def pz {α:Type}:Option α->Bool|some _=>true|none=>false
def eqO:Option Nat->Nat->Bool|some a,b=>alI a b|none,_=>false
def Gl (σ:Sg) (H H1:Hp):Sg->Bool
 | []=>true
 |(a,b)::r=>match eqO (sgB σ b) a&&eqO (sgF σ a) b&&(!pz (av H a)||pz (av H1 b))with|true=>Gl σ H H1 r|false=>false
def PY (σ:Sg) (H:Hp):Nat->Bool
 |0=>true
 |k+1=>match !pz (av H k)||eqO (sgB σ k) k with|true=>PY σ H k|false=>false
def oI (σ:Sg) (p:Nat) (env:Env) (H:Hp) (env1:Env) (H1:Hp) (K:Prop):Prop:=
 ifK (Gl σ H H1 σ&&PY σ H p) (Gj σ env env1 (xY σ H 0 H1 K))
theorem DF {o:Option Nat} {a:Nat}:eqO o a=true↔o=some a:=by
 cases o with
 |none=>simp[eqO]
 |some b=>simp[eqO,Nat.beq_eq]
theorem Lr {σ:Sg} {H H1:Hp}:∀{r:Sg},Gl σ H H1 r=true->∀x∈r,sgB σ x.2=some x.1/\sgF σ x.1=some x.2/\((av H x.1).isSome->(av H1 x.2).isSome):=by
 intro r;induction r with
 |nil=>intro _ x hx;simp at hx
 |cons y r ih=>
  intro h x hx;obtain⟨a,b⟩:=y;simp only[Gl]at h;split at h
  ·rename_i hb
   rcases am2.1 hx with e|hx
   ·subst e
    simp only[alM,DF,Bool.or_eq_true]at hb;refine⟨hb.1.1,hb.1.2,λhs=>?_⟩;rcases hb.2 with h1|h1
    ·cases e:av H a with
     |none=>rw[e]at hs;simp at hs
     |some o=>rw[e]at h1;simp[pz]at h1
    ·cases e:av H1 b with
     |none=>rw[e]at h1;simp[pz]at h1
     |some o=>rfl
   ·exact ih h x hx
  ·cases h
theorem BQ {σ:Sg} {H:Hp}:∀{p:Nat},PY σ H p=true->∀k,k<p->av H k≠none->sgB σ k=some k:=by
 intro p;induction p with
 |zero=>intro _ k hk;omega
 |succ p ih=>
  intro h k hk hne;simp only[PY]at h;split at h
  ·rename_i hb
   by_cases e:k=p
   ·subst e
    cases hg:av H k with
    |none=>exact absurd hg hne
    |some o=>rw[hg]at hb;simpa [pz,DF]using hb
   ·exact ih h k qqO hne
  ·cases h
theorem nu {σ:Sg} {k k1:Nat} (h:sgB σ k1=some k):(k,k1)∈σ:=by
 induction σ with
 |nil=>cases h
 |cons x r ih=>
  obtain⟨a,b⟩:=x;simp only[sgB]at h;cases hb:alI b k1 with
  |true=>rw[hb]at h;cases h;rw[alN hb];simp
  |false=>rw[hb]at h;exact ani _ (ih h)
section
variable {σ:Sg} (hinj:∀x∈σ,sgB σ x.2=some x.1)
include hinj
theorem PZ {c c1:CL} {K:Prop} (h:Xu σ c c1 K):K/\c1.ncell=c.ncell/\∀j,j<c.ncell->∀{S:Imm} {w:World} {ι:Ix} {v:Value},Rep S w ι (c.get j) v->Rep S w (ι.ren σ) (c1.get j) v:=by
 unfold Xu at h;split at h
 ·split at h
  ·obtain⟨h,h1,h2⟩:=zo hinj h
   exact⟨h,h1.symm,λj _ S w ι v hr=>h2 j hr⟩
  ·exact h.elim
 ·split at h
  ·rw[aK]at h
   obtain⟨h1,⟨h2⟩,h3⟩:=h;have h1:=of_decide_eq_true h1;subst h1;subst h2;exact⟨h3,rfl,λj _ S w ι v hr=>by cases hr;exact .int _ _ _⟩
  ·exact h.elim
 ·split at h
  ·obtain⟨⟨h2⟩,h3⟩:=h;subst h2
   exact⟨h3,rfl,λj _ S w ι v hr=>by cases hr;exact .bp _ _⟩
  ·exact h.elim
 ·split at h
  ·obtain⟨⟨h2⟩,h3⟩:=h;subst h2
   exact⟨h3,rfl,λj _ S w ι v hr=>by cases hr;exact .str _ _⟩
  ·exact h.elim
 ·split at h
  ·rw[aK]at h
   obtain⟨h1,⟨h2⟩,h3⟩:=h;have h1:=of_decide_eq_true h1;subst h1;subst h2;exact⟨h3,rfl,λj _ S w ι v hr=>hr.toNoI.up _⟩
  ·exact h.elim
 ·split at h
  ·rename_i m' xs
   rw[aK]at h;obtain⟨h1,⟨h2,h4⟩,h3⟩:=h;have h1:=alN h1;subst h1;subst h2;have ht:l9 (.recs m' xs) (λd=>d=.recs m' xs):=⟨h4,rfl⟩;obtain⟨d,rfl,d1,d2,d3⟩:=iC ht;exact⟨h3,rfl,λj hj S w ι v hr=>(d3 j hj hr).up _⟩
  ·exact h.elim
 ·exact h.elim
theorem P5:∀{ds es:List (PV × PV)} {K:Prop},uf σ ds es K->K/\ds.length=es.length/\∀i (h:i<ds.length) (h':i<es.length) {S:Imm} {w:World} {ι:Ix} {u v:Value},
 Rep S w ι ds[i].1 u->Rep S w ι ds[i].2 v->Rep S w (ι.ren σ) es[i].1 u/\Rep S w (ι.ren σ) es[i].2 v:=by
 intro ds;induction ds with
 |nil=>intro es K h;cases es with
  |nil=>exact⟨h,rfl,λi hi=>by simp at hi⟩
  |cons=>exact h.elim
 |cons d ds ih=>intro es K h;cases es with
  |nil=>exact h.elim
  |cons e es=>
   obtain⟨p,u⟩:=d;obtain⟨q,v⟩:=e;obtain⟨h,h1⟩:=tZ hinj h;obtain⟨h,h2⟩:=tZ hinj h;obtain⟨h,h3,h4⟩:=ih h;refine⟨h,by simp[h3],λi hi hi' S w ι a b ha hb=>?_⟩
   cases i with
   |zero=>exact⟨h1 ha,h2 hb⟩
   |succ i=>exact h4 i (by simpa using hi) (by simpa using hi') ha hb
theorem P6 {o o1:AO} {K:Prop} (h:Xx σ o o1 K):K/\o1.isTok=o.isTok/\o1.isExt=o.isExt/\o1.excl=o.excl/\∀{S:Imm} {w:World} {ι:Ix} {k k1:Nat},sgB σ k1=some k->gY S w ι k o->gY S w (ι.ren σ) k1 o1:=by
 have ko:∀{ι:Ix} {k k1 b:Nat},sgB σ k1=some k->ι.o k=some b->(ι.ren σ).o k1=some b:=λh hb=>by simp[Ix.ren,h,hb]
 have kt:∀{ι:Ix} {k k1:Nat},sgB σ k1=some k->(ι.ren σ).t k1=ι.t k:=λh=>by simp[Ix.ren,h]
 unfold Xx at h;split at h
 ·split at h
  ·rename_i c1 fz1 c fz
   split at h
   ·split at h
    ·obtain⟨⟨h1⟩,h⟩:=h
     subst h1;exact⟨h,rfl,rfl,rfl,λhk ⟨b,g1,g2⟩=>⟨b,ko hk g1,g2⟩⟩
    ·exact h.elim
   ·split at h
    ·exact h.elim
    ·obtain⟨h,h1,h2⟩:=PZ hinj h
     refine⟨h,rfl,rfl,rfl,λhk ⟨b,arr,e,g1,g2,g3,g4,g5⟩=>⟨b,arr,e,ko hk g1,g2,qqO,λj hj=>?_,g5⟩⟩;have:=g4 j qqO;exact h2 j qqO this
  ·exact h.elim
 ·split at h
  ·rw[aK]at h
   obtain⟨h1,⟨h2⟩,h⟩:=h;have h1:=alN h1;subst h1;subst h2;refine⟨h,rfl,rfl,rfl,λhk ⟨g1,g2⟩=>⟨λhz=>by rw[kt hk];exact g1 hz,λhz=>?_⟩⟩
   obtain⟨b,arr,e,q1,q2,q3⟩:=g2 hz;exact⟨b,arr,e,by rw[kt hk];exact q1,q2,q3⟩
  ·exact h.elim
 ·split at h
  ·obtain⟨h,h1,h2⟩:=P5 hinj h
   refine⟨h,rfl,rfl,rfl,λhk ⟨b,ents,clock,g1,g2,g3,g4⟩=>⟨b,ents,clock,ko hk g1,g2,qqO,λi hi hi'=>?_⟩⟩;obtain⟨q1,q2⟩:=g4 i qqO hi';exact h2 i qqO hi q1 q2
  ·exact h.elim
 ·split at h
  ·exact⟨h,rfl,rfl,rfl,λhk ⟨b,g1,g2⟩=>⟨b,ko hk g1,g2⟩⟩
  ·exact h.elim
 ·split at h
  ·obtain⟨⟨h1,h2⟩,h⟩:=h
   subst h1;subst h2;refine⟨h,rfl,rfl,rfl,λ{S w ι k k1} hk ⟨g1,g2,g3⟩=>?_⟩;have hx:(ι.ren σ).x k1=ι.x k:=by funext b;simp[Ix.ren,hk]
   exact⟨by rw[hx];exact g1,g2,by rw[hx];exact g3⟩
  ·exact h.elim
 ·split at h
  ·obtain⟨⟨h1,h2⟩,h⟩:=h
   subst h1;subst h2;obtain⟨h,h3,h4⟩:=ug h;refine⟨h,rfl,rfl,rfl,λ{S w ι k k1} hk hr=>?_⟩;have hx:(ι.ren σ).x k1=ι.x k:=by funext b;simp[Ix.ren,hk]
   have hr:iK S w ι k _ _ _:=hr;exact(hr.cong (by simp[Ix.ren,hk]) hx).with h4
  ·exact h.elim
 ·split at h
  ·obtain⟨⟨h1⟩,h⟩:=h
   subst h1;obtain⟨h,h3,h4⟩:=ug h;refine⟨h,rfl,rfl,rfl,λ{S w ι k k1} hk hr=>?_⟩;have hx:(ι.ren σ).x k1=ι.x k:=by funext b;simp[Ix.ren,hk]
   obtain⟨all,l,rc',g1,g2,g3,g4,g6,g5⟩:=hr;exact⟨all,l,rc',g1.cong (by simp[Ix.ren,hk]) hx,RC.kin_trans g2 h3,g3,g4,g6,λi hi=>(g5 i hi).trans (h4 i hi)⟩
  ·rename_i all l rc'
   obtain⟨⟨h1,h2,h6⟩,h⟩:=h;obtain⟨h,h3,h4⟩:=ug h;refine⟨h,rfl,rfl,rfl,λ{S w ι k k1} hk hr=>?_⟩;have hx:(ι.ren σ).x k1=ι.x k:=by funext b;simp[Ix.ren,hk]
   have hr:iK S w ι k _ _ _:=hr;exact⟨all,l,rc',hr.cong (by simp[Ix.ren,hk]) hx,h3,h1,h2,h6,h4⟩
  ·obtain⟨⟨h1,h2⟩,h⟩:=h
   subst h1;refine⟨h,rfl,rfl,rfl,λ{S w ι k k1} hk hr=>?_⟩;have hx:(ι.ren σ).x k1=ι.x k:=by funext b;simp[Ix.ren,hk]
   have hr:gu S w ι k _ _ _:=hr;exact wE (hr.cong (by simp[Ix.ren,hk]) hx) h2
  ·exact h.elim
 ·split at h
  ·obtain⟨⟨h1,h2,h3⟩,h⟩:=h
   subst h1;refine⟨h,rfl,rfl,rfl,λ{S w ι k k1} hk hr=>?_⟩;have hx:(ι.ren σ).x k1=ι.x k:=by funext b;simp[Ix.ren,hk]
   have hr:gu S w ι k _ _ _:=hr;exact(hr.cong (by simp[Ix.ren,hk]) hx).with h2 h3
  ·exact h.elim
 ·split at h
  ·obtain⟨⟨h1⟩,h⟩:=h
   subst h1;exact⟨h,rfl,rfl,rfl,λhk ⟨b,g1,g2⟩=>⟨b,ko hk g1,g2⟩⟩
  ·split at h
   ·exact h.elim
   ·obtain⟨⟨h1,h2⟩,h⟩:=h
    subst h1;exact⟨h,rfl,rfl,rfl,λhk ⟨b,arr,e,g1,g2,g3,g4,g5⟩=>⟨b,ko hk g1,arr,e,g2,g3,λj hj=>Xw h2 hj (g4 j hj),g5⟩⟩
  ·exact h.elim
 ·split at h
  ·rw[aK,alM]at h
   obtain⟨⟨h1,h2⟩,⟨h3⟩,h⟩:=h;have h1:=alN h1;have h2:=alN h2;subst h1;subst h2;subst h3;refine⟨h,rfl,rfl,rfl,λ{S w ι k k1} hk hr=>?_⟩;have hx:(ι.ren σ).x k1=ι.x k:=by funext b;simp[Ix.ren,hk]
   have hr:mV S w ι k _ _ _:=hr;exact hr.cong (by simp[Ix.ren,hk]) hx
  ·exact h.elim
 ·exact h.elim
theorem Ls {H:Hp}:∀{l:Hp} {k1:Nat} {K:Prop},xY σ H k1 l K->K/\∀i o1,av l i=some o1->
 (∃k o,sgB σ (k1+i)=some k/\av H k=some o/\o1.isTok=o.isTok/\o1.isExt=o.isExt/\o1.excl=o.excl/\∀{S:Imm} {w:World} {ι:Ix},gY S w ι k o->gY S w (ι.ren σ) (k1+i) o1)∨
 (sgB σ (k1+i)=none/\∃m,o1=.tok m 0):=by
 intro l;induction l with
 |nil=>intro k1 K h;exact⟨h,λi o1 ho=>by simp[av]at ho⟩
 |cons o l ih=>
  intro k1 K h;unfold xY at h;have shift:∀i,k1+1+i=k1+(i+1):=λi=>qqO;split at h
  ·rw[jT]at h
   obtain⟨h,h1⟩:=ih h;refine⟨h,λi o1 ho=>?_⟩;cases i with
   |zero=>simp[av]at ho
   |succ i=>rw[<-shift];exact h1 i o1 ho
  ·rename_i o1
   split at h
   ·rename_i k hk
    rw[bD]at h;obtain⟨ob,hob,h⟩:=h;obtain⟨h,a1,a2,a3,a4⟩:=P6 hinj h;rw[jT]at h;obtain⟨h,h1⟩:=ih h;refine⟨h,λi o2 ho=>?_⟩;cases i with
    |zero=>
     simp only[av,Option.some.injEq]at ho;subst ho;exact .inl ⟨k,ob,hk,hob,a1,a2,a3,λhh=>a4 hk hh⟩
    |succ i=>rw[<-shift];exact h1 i o2 ho
   ·rename_i hk
    split at h
    ·rename_i m
     rw[jT]at h;obtain⟨h,h1⟩:=ih h;refine⟨h,λi o2 ho=>?_⟩;cases i with
     |zero=>simp only[av,Option.some.injEq]at ho;exact .inr ⟨hk,m,ho.symm⟩
     |succ i=>rw[<-shift];exact h1 i o2 ho
    ·exact h.elim
end
theorem jH {B:Imm->World->Prop} {σ:Sg} {p:Nat} {env env1:Env} {H H1:Hp} {K:Prop} (h:oI σ p env H env1 H1 K):K/\Sub B p env H env1 H1:=by
 unfold oI at h;rw[aK,alM]at h;obtain⟨⟨h1,h2⟩,h⟩:=h;have hs:=Lr h1;have hinj:∀x∈σ,sgB σ x.2=some x.1:=λx hx=>(hs x hx).1;obtain⟨h,h3,h4⟩:=zo hinj h;obtain⟨h,h5⟩:=Ls hinj h;simp only[alO]at h5;refine⟨h,λS0 w0 ι0 H0 a w hA=>?_⟩;obtain⟨S,ι,hb,M,R,D,D',T⟩:=hA.ex;have hfun:∀{k k1 k2:Nat},sgB σ k1=some k->sgB σ k2=some k->k1=k2:=λe1 e2=>by
  have a1:=(hs _ (nu e1)).2.1;have a2:=(hs _ (nu e2)).2.1;simp only at a1 a2;rw[a1]at a2;exact Option.some.inj a2
 have hhas:∀{k k1:Nat} {o o1:AO} {b:Nat},sgB σ k1=some k->o1.isTok=o.isTok->o1.isExt=o.isExt->o1.excl=o.excl->(o1.has (ι.ren σ) k1 b↔o.has ι k b):=by
  intro k k1 o o1 b hk ht he hx;exact om (by simp[Ix.ren,hk]) (by simp[Ix.ren,hk]) (by funext b;simp[Ix.ren,hk]) ht he hx b
 have hvirg:∀{k1 b m:Nat},sgB σ k1=none->¬(AO.tok m 0).has (ι.ren σ) k1 b:=by
  intro k1 b m hk hh;obtain⟨n,hh⟩:=hh;simp[Ix.ren,hk]at hh
 have hown:∀b,owned (ι.ren σ) H1 b->owned ι H b:=by
  rintro b ⟨k1,o1,g1,g2,g3⟩
  rcases h5 k1 o1 g1 with⟨k,o,q1,q2,q3,q4,q5,q6⟩|⟨q1,m,rfl⟩
  ·exact⟨k,o,q2,q5▸g2,(hhas q1 q3 q4 q5).1 g3⟩
  ·exact absurd g3 (hvirg q1)
 refine⟨S,ι.ren σ,hb,⟨?_,?_,?_,?_,M.imm⟩,⟨h3▸R.1,λi hi=>h4 i (R.2 i qqO)⟩,⟨λd hd=>?_,D.nodup⟩,D',?_⟩
 ·intro k1 o1 g1
  rcases h5 k1 o1 g1 with⟨k,o,q1,q2,q3,q4,q5,q6⟩|⟨q1,m,rfl⟩
  ·exact q6 (M.obj k o q2)
  ·exact⟨λ_=>by simp[Ix.ren,q1],λh=>qqO⟩
 ·intro k1 b g1
  cases e:sgB σ k1 with
  |none=>simp[Ix.ren,e]at g1
  |some k=>
   simp only[Ix.ren,e,am1]at g1;obtain⟨o,q1,q2⟩:=M.liveO k b g1;have hsome:=(hs _ (nu e)).2.2 (by simp[q1])
   obtain⟨o1,ho1⟩:=alB.1 hsome;rcases h5 k1 o1 ho1 with⟨k',o',r1,r2,r3,_⟩|⟨r1,_⟩
   ·rw[e]at r1;cases r1;rw[q1]at r2;cases r2;exact⟨o1,ho1,r3.trans q2⟩
   ·rw[e]at r1;cases r1
 ·intro k1 b g1
  cases e:sgB σ k1 with
  |none=>simp[Ix.ren,e]at g1
  |some k=>
   simp only[Ix.ren,e,am1]at g1;obtain⟨o,q1,q2⟩:=M.liveT k b g1;have hsome:=(hs _ (nu e)).2.2 (by simp[q1])
   obtain⟨o1,ho1⟩:=alB.1 hsome;rcases h5 k1 o1 ho1 with⟨k',o',r1,r2,r3,_⟩|⟨r1,_⟩
   ·rw[e]at r1;cases r1;rw[q1]at r2;cases r2;exact⟨o1,ho1,r3.trans q2⟩
   ·rw[e]at r1;cases r1
 ·intro k1 k2 o1 o2 b g1 g2 b1 b2
  rcases h5 k1 o1 g1 with⟨ka,oa,q1,q2,q3,q4,q5,q6⟩|⟨q1,m,rfl⟩
  ·rcases h5 k2 o2 g2 with⟨kb,ob,r1,r2,r3,r4,r5,r6⟩|⟨r1,m,rfl⟩
   ·have:=M.dist ka kb oa ob b q2 r2 ((hhas q1 q3 q4 q5).1 b1) ((hhas r1 r3 r4 r5).1 b2)
    subst this;exact hfun q1 r1
   ·exact absurd b2 (hvirg r1)
  ·exact absurd b1 (hvirg q1)
 ·obtain⟨b,q1,q2,q3⟩:=D.all d hd
  exact⟨b,q1,q2,λhh=>q3 (hown b hh)⟩
 ·refine⟨T.below,T.same,T.keeps,T.immN,λb hh=>T.own b (hown b hh),λk hk b hi=>?_,λk hk b n hi=>?_⟩
  ·have:=T.protO k hk b hi
   obtain⟨o,ho,_⟩:=M.liveO k b this;simp[Ix.ren,BQ h2 k hk (by rw[ho];simp),this]
  ·obtain⟨b',n',r1,r2⟩:=T.protT k hk b n hi
   obtain⟨o,ho,_⟩:=M.liveT k _ r1;exact⟨b',n',by simp[Ix.ren,BQ h2 k hk (by rw[ho];simp),r1],r2⟩
def DI:List Oper->List Nat
 | []=>[]
 |o::r=>match o.dst with|some d=>d::DI r|none=>DI r
def dstsOf:Code->List Nat
 |.region _ ops _=>DI ops.toList
 |.seq a b=>dstsOf a++dstsOf b
 |.cond _ a b=>dstsOf a++dstsOf b
 |.block _ c=>dstsOf c
 |.loop c=>dstsOf c
 |.scope c=>dstsOf c
 |.rangeFunc _ ps a b=>ps.toList++dstsOf a++dstsOf b
 |_=>[]
def Xy:Nat->Env->List Nat->Env
 |_,[],_=>[]
 |i,v::r,ds=>(match iB i ds with|true=>.any|false=>v)::Xy (i+1) r ds
def Xz:Env->List (Nat × PV)->Env
 |env,[]=>env
 |env,(i,v)::r=>Xz (env.set i v) r
def stE (c:Code) (env:Env) (us:List (Nat × PV)):Env:=Xz (Xy 0 env (dstsOf c)) us
def lH (extra:Sg) (H:Hp):Nat->Hp->Sg
 |_,[]=>[]
 |k,o::r=>match o with
  |none=>lH extra H (k+1) r
  |some _=>match sgB extra k with
   |some a=>(a,k)::lH extra H (k+1) r
   |none=>match av H k with
    |some _=>match sgF extra k with
     |none=>(k,k)::lH extra H (k+1) r
     |some _=>lH extra H (k+1) r
    |none=>lH extra H (k+1) r
def iE (σ:Sg) (K:Sg->Prop):Prop:=
 match σ with
 | []=>K []
 |(a,b)::r=>jB a λa=>jB b λb=>iE r λr=>K ((a,b)::r)
theorem jo (σ:Sg) (K:Sg->Prop):iE σ K=K σ:=by
 induction σ generalizing K with
 |nil=>rfl
 |cons x r ih=>obtain⟨a,b⟩:=x;simp only[iE,jT,ih]
structure Nx (q:Prop):Prop where
 get:q
theorem nM {q:Prop} (h:q):Nx q:=⟨h⟩
structure Ok:Prop where
section
variable {P:Program} {r:Option Nat} {τ:TypeId->Option TE} {B:Imm->World->Prop} {p:Nat}
structure Walk (P:Program) (r:Option Nat) (B:Imm->World->Prop) (τ:TypeId->Option TE) (CP:CPT) (YP:YPT):Prop where
 hB:BOK B
 hm:P.follows .mixedOrders=true
 hτ:bC P τ
 hC:j5 P B CP
 hY:ni P r B YP
theorem aR {X:Type} (I:X->Prop) (us:X->List (Nat × PV)) (hs:X->List (Nat × AO)) (μ:X->Nat) (x0:X) {md rf CP YP} (W:Walk P r B τ CP YP)
 {c:Code} {n:Nat} {Q:Exit->Env->Hp->Prop} {env:Env} {H:Hp} (hok:eU c=true) (hI:I x0)
 (h0:iA (hs x0) H λH1=>cB (stE c env (us x0)) λenv1=>iE (lH [] H 0 H1) λσ=>oI σ p env H env1 H1 Ok)
 (hb:∀x,I x->iA (hs x) H λH1=>cB (stE c env (us x)) λenv1=>ev P r B p τ md rf CP YP c n env1 H1 λe env' H' _=>match e with
   |.normal=>Nx (∃(x':X) (extra:Sg),(I x'/\μ x'<μ x)/\iA (hs x') H λH1=>cB (stE c env (us x')) λenv1=>iE (lH extra H' 0 H1) λσ=>oI σ p env' H' env1 H1 Ok)
   |e=>Q e env' H'):Lp md rf CP YP n (AW P r B p (.loop c) Q env H):=by
 refine⟨MC (X:={x:X // I x}) (λx=>(stE c env (us x.1),bE H (hs x.1))) (λx=>μ x.1) ⟨x0,hI⟩ ?_ λx=>?_⟩
 ·simp only[iV,bN,jo]at h0
  exact(jH h0).2
 ·have h:=hb x.1 x.2
  simp only[iV,bN,jo]at h;refine(kr W.hB W.hm W.hτ W.hC W.hY c hok _ _ _ _ h).mono ?_
  rintro e env' H' ⟨_,h⟩
  cases e with
  |normal=>
   obtain⟨x',extra,⟨h0,h1⟩,h2⟩:=h.get;exact⟨⟨x',h0⟩,h1,(jH h2).2⟩
  |_=>exact h
end
abbrev CT:=List PV->Nat->Hp->KR->Prop
def COK (P:Program) (g:FuncId) (C:CT):Prop:=∀args n H K,C args n H K->∃v sets accs news,K v sets accs news/\iX P g args H v sets accs news
def ay (g:FuncId) (C:CT) (CP:CPT):CPT:=λf args n H K=>match alI f g with|true=>C args n H K|false=>CP f args n H K
theorem aj {P:Program} {g:FuncId} {C:CT} {CP:CPT} (h:COK P g C) (hC:aZ P CP):aZ P (ay g C CP):=by
 intro f args n H K hk;unfold ay at hk;cases hb:alI f g with
 |true=>rw[hb]at hk;rw[alN hb];exact h _ _ _ _ hk
 |false=>rw[hb]at hk;exact hC _ _ _ _ _ hk
abbrev PSp:=List PV->(PV->Prop)->Prop
def POK (P:Program) (g:FuncId) (C:PSp):Prop:=∀as K,C as K->∃v,K v/\aB P g as v
def aJ (C:PSp):CT:=λargs n H K=>BO args λas=>C as λv=>K v [] [] []
theorem aA {P:Program} {g:FuncId} {C:PSp} (h:POK P g C):COK P g (aJ C):=by
 intro args n H K hk;unfold aJ BO at hk;split at hk
 ·rename_i as ha
  rw[bN]at hk;obtain⟨v,hK,hs⟩:=h _ _ hk;exact⟨v,[],[],[],hK,wD ha hs⟩
 ·exact hk.elim
end Go.Eng
namespace Go.Eng
structure Rn (md:Nat) (rf:List Nat) (CP:CPT) (YP:YPT) (n:Nat) (q:Prop):Prop where
 get:q
section
variable {P:Program} {r:Option Nat} {τ:TypeId->Option TE} {B:Imm->World->Prop} {p:Nat}
def AWR (P:Program) (r:Option Nat) (B:Imm->World->Prop) (p:Nat) (m:Nat) (c:Code) (Q:Exit->Env->Hp->Prop) (env:Env) (H:Hp):Prop:=
 ∀(S0:Imm) (w0:World) (ι0:Ix) (H0:Hp) (a:Act) (w:World),At B p S0 w0 ι0 H0 env H a w->
  Code.roundsIn (Fw r) 0 P c (λe a' w'=>∃env' H',Q e env' H'/\At B p S0 w0 ι0 H0 env' H' a' w') m a w
theorem zq (m:Nat) {md rf CP YP} {c:Code} {n:Nat} {Q:Exit->Env->Hp->Prop} {env:Env} {H:Hp} (h:Rn md rf CP YP n (AWR P r B p m c Q env H)):Lp md rf CP YP n (AW P r B p (.loop c) Q env H):=
 ⟨λS0 w0 ι0 H0 a w hA=>wpIn_loop_rounds m (h.get S0 w0 ι0 H0 a w hA)⟩
theorem rounds_succ {md rf CP YP} (W:Walk P r B τ CP YP) {m:Nat} {c:Code} {n:Nat} {Q:Exit->Env->Hp->Prop} {env:Env} {H:Hp} (hok:eU c=true)
 (h:ev P r B p τ md rf CP YP c n env H λe env' H' n'=>match e with
   |.normal=>Rn md rf CP YP n' (AWR P r B p m c Q env' H')
   |e=>Q e env' H'):Rn md rf CP YP n (AWR P r B p (m+1) c Q env H):=by
 refine⟨λS0 w0 ι0 H0 a w hA=>?_⟩;rw[roundsIn_succ];refine wpIn_mono (kr W.hB W.hm W.hτ W.hC W.hY c hok _ _ _ _ h S0 w0 ι0 H0 a w hA) ?_
 rintro e a' w' ⟨env',H',⟨n',h⟩,hA'⟩
 cases e with
 |normal=>exact h.get S0 w0 ι0 H0 a' w' hA'
 |_=>exact⟨env',H',h,hA'⟩
end
end Go.Eng
namespace Go.Eng
open Go.RowKit
set_option linter.unusedSimpArgs false
set_option linter.unusedVariables false
def uh (σ:Sg):List PV->Option (List PV)
 | []=>some []
 |x::xs=>match tQ σ x with
  |some y=>match uh σ xs with
   |some ys=>some (y::ys)
   |none=>none
  |none=>none
theorem zM {S:Imm} {w:World} {σ:Sg} {ι ι1:Ix} (R:tT σ ι ι1):∀{ps qs:List PV},uh σ ps=some qs->qs.length=ps.length/\∀i,i<ps.length->∀{v:Value},Rep S w ι (aG ps i) v->Rep S w ι1 (aG qs i) v:=by
 intro ps;induction ps with
 |nil=>intro qs h;simp[uh]at h;subst h;exact⟨rfl,λi hi=>by simp at hi⟩
 |cons p ps ih=>
  intro qs h;unfold uh at h;split at h
  ·rename_i y hy
   split at h
   ·rename_i ys hys
    cases h
    obtain⟨h1,h2⟩:=ih hys;refine⟨by simp[h1],λi hi=>?_⟩
    cases i with
    |zero=>intro v hr;exact xX R hy hr
    |succ i=>exact h2 i (by simpa using hi)
   ·cases h
  ·cases h
def BR (σ:Sg):List (PV × PV)->Option (List (PV × PV))
 | []=>some []
 |(p,u)::xs=>match tQ σ p with
  |some q=>match tQ σ u with
   |some v=>match BR σ xs with
    |some ys=>some ((q,v)::ys)
    |none=>none
   |none=>none
  |none=>none
theorem XA {S:Imm} {w:World} {σ:Sg} {ι ι1:Ix} (R:tT σ ι ι1):∀{ps qs:List (PV × PV)},BR σ ps=some qs->qs.length=ps.length/\
 ∀i (h:i<ps.length) (h':i<qs.length),(∀{v:Value},Rep S w ι ps[i].1 v->Rep S w ι1 qs[i].1 v)/\(∀{v:Value},Rep S w ι ps[i].2 v->Rep S w ι1 qs[i].2 v):=by
 intro ps;induction ps with
 |nil=>intro qs h;simp[BR]at h;subst h;exact⟨rfl,λi hi=>by simp at hi⟩
 |cons p ps ih=>
  intro qs h;obtain⟨p,u⟩:=p;unfold BR at h;split at h
  ·rename_i q hq
   split at h
   ·rename_i y hy
    split at h
    ·rename_i ys hys
     cases h
     obtain⟨h1,h2⟩:=ih hys;refine⟨by simp[h1],λi hi hi'=>?_⟩
     cases i with
     |zero=>exact⟨λhr=>xX R hq hr,λhr=>xX R hy hr⟩
     |succ i=>exact h2 i (by simpa using hi) (by simpa using hi')
    ·cases h
   ·cases h
  ·cases h
def uj (σ:Sg):AO->Option AO
 |.cells c fz=>match fz with
  |true=>some (.cells c true)
  |false=>match c with
   |.pv ds=>match uh σ ds with|some es=>some (.cells (.pv es) false)|none=>none
   |.ints k xs=>some (.cells (.ints k xs) false)
   |.bools xs=>some (.cells (.bools xs) false)
   |.strs xs=>some (.cells (.strs xs) false)
   |.rows k xs=>some (.cells (.rows k xs) false)
   |_=>none
 |.tok m n=>some (.tok m n)
 |.ext G pre=>some (.ext G pre)
 |.mat all l rc=>some (.mat all l rc)
 |.pmat n rc=>some (.pmat n rc)
 |.bld t e s=>some (.bld t e s)
 |.qmat n f c=>some (.qmat n f c)
 |.rowo c=>some (.rowo c)
 |.map es=>match BR σ es with|some ds=>some (.map ds)|none=>none
 |_=>none
theorem uo {σ:Sg} {ι ι1:Ix} (R:tT σ ι ι1) {o o1:AO} (h:uj σ o=some o1) {S:Imm} {w:World} {k k1:Nat} (ho:ι1.o k1=ι.o k) (ht:ι1.t k1=ι.t k) (hx:ι1.x k1=ι.x k) (hr:gY S w ι k o):
 gY S w ι1 k1 o1/\o1.isTok=o.isTok/\o1.isExt=o.isExt/\o1.excl=o.excl:=by
 unfold uj at h;split at h
 ·rename_i c fz
  split at h
  ·cases h
   obtain⟨b,g1,g2⟩:=hr;exact⟨⟨b,ho.trans g1,g2⟩,rfl,rfl,rfl⟩
  ·obtain⟨b,arr,e,g1,g2,g3,g4,g5⟩:=hr
   have mk:∀c1:CL,c1.ncell=c.ncell->(∀j,j<c.ncell->∀v,Rep S w ι (c.get j) v->Rep S w ι1 (c1.get j) v)->gY S w ι1 k1 (.cells c1 false):=
    λc1 hn hc=>⟨b,arr,e,ho.trans g1,g2,qqO,λj hj=>hc j qqO _ (g4 j qqO),g5⟩
   split at h
   ·split at h
    ·rename_i ds es hes
     cases h
     obtain⟨q1,q2⟩:=zM R hes (S:=S) (w:=w);exact⟨mk _ q1 (λj hj v hv=>q2 j hj hv),rfl,rfl,rfl⟩
    ·cases h
   ·cases h;exact⟨mk _ rfl (λj hj v hv=>by cases hv;exact .int _ _ _),rfl,rfl,rfl⟩
   ·cases h;exact⟨mk _ rfl (λj hj v hv=>by cases hv;exact .bp _ _),rfl,rfl,rfl⟩
   ·cases h;exact⟨mk _ rfl (λj hj v hv=>by cases hv;exact .str _ _),rfl,rfl,rfl⟩
   ·cases h;exact⟨mk _ rfl (λj hj v hv=>hv.toNoI.up _),rfl,rfl,rfl⟩
   ·cases h
 ·cases h
  obtain⟨g1,g2⟩:=hr;refine⟨⟨λhz=>ht.trans (g1 hz),λhz=>?_⟩,rfl,rfl,rfl⟩;obtain⟨b,arr,e,q1,q2,q3⟩:=g2 hz;exact⟨b,arr,e,ht.trans q1,q2,q3⟩
 ·cases h
  obtain⟨g1,g2,g3⟩:=hr;exact⟨⟨λb hb=>g1 b (by rw[<-hx];exact hb),g2,by rw[hx];exact g3⟩,rfl,rfl,rfl⟩
 ·cases h
  have hr:iK S w ι k _ _ _:=hr;exact⟨hr.cong ho hx,rfl,rfl,rfl⟩
 ·cases h
  obtain⟨all,l,rc',g1,g2⟩:=hr;exact⟨⟨all,l,rc',g1.cong ho hx,g2⟩,rfl,rfl,rfl⟩
 ·cases h
  have hr:mV S w ι k _ _ _:=hr;exact⟨hr.cong ho hx,rfl,rfl,rfl⟩
 ·cases h
  have hr:gu S w ι k _ _ _:=hr;exact⟨hr.cong ho hx,rfl,rfl,rfl⟩
 ·cases h
  obtain⟨b,g1,g2⟩:=hr;exact⟨⟨b,ho.trans g1,g2⟩,rfl,rfl,rfl⟩
 ·split at h
  ·rename_i ds hds
   cases h
   obtain⟨b,ents,clock,g1,g2,g3,g4⟩:=hr;obtain⟨q1,q2⟩:=XA (S:=S) (w:=w) R hds;exact⟨⟨b,ents,clock,ho.trans g1,g2,g3.trans q1.symm,λi hl hl'=>⟨(q2 i qqO hl).1 (g4 i qqO hl').1,(q2 i qqO hl).2 (g4 i qqO hl').2⟩⟩,rfl,rfl,rfl⟩
  ·cases h
 ·cases h
structure qp (σ:Sg):Prop where
 b:∀x∈σ,sgB σ x.2=some x.1
 f:∀x∈σ,sgF σ x.1=some x.2
theorem qp.inj {σ:Sg} (h:qp σ) {k k1 k2:Nat} (e1:sgB σ k1=some k) (e2:sgB σ k2=some k):k1=k2:=by
 have a1:=h.f _ (nu e1);have a2:=h.f _ (nu e2);simp only at a1 a2;rw[a1]at a2;exact Option.some.inj a2
theorem qp.fb {σ:Sg} (h:qp σ) {k k':Nat} (e:sgF σ k=some k'):sgB σ k'=some k:=DC e h.b
theorem qp.bf {σ:Sg} (h:qp σ) {k k':Nat} (e:sgB σ k'=some k):sgF σ k=some k':=h.f _ (nu e)
theorem Mem.lend {S:Imm} {w:World} {ι:Ix} {H H1:Hp} (M:Mem S w ι H) {σ:Sg} (hσ:qp σ) (hA:∀k1 o1,av H1 k1=some o1->∃k o,sgB σ k1=some k/\av H k=some o/\uj σ o=some o1)
 (hB:∀k k1,sgB σ k1=some k->(av H k).isSome->(av H1 k1).isSome):Mem S w (ι.ren σ) H1/\∀b,owned (ι.ren σ) H1 b->owned ι H b:=by
 have R:=qO hσ.b ι;have eo:∀{k k1},sgB σ k1=some k->(ι.ren σ).o k1=ι.o k:=λh=>by simp[Ix.ren,h]
 have et:∀{k k1},sgB σ k1=some k->(ι.ren σ).t k1=ι.t k:=λh=>by simp[Ix.ren,h]
 have ex:∀{k k1},sgB σ k1=some k->(ι.ren σ).x k1=ι.x k:=λh=>by funext b;simp[Ix.ren,h]
 have all:∀k1 o1,av H1 k1=some o1->∃k o,sgB σ k1=some k/\av H k=some o/\gY S w (ι.ren σ) k1 o1/\o1.isTok=o.isTok/\o1.excl=o.excl/\∀b,o1.has (ι.ren σ) k1 b↔o.has ι k b:=by
  intro k1 o1 h1;obtain⟨k,o,q1,q2,q3⟩:=hA k1 o1 h1;obtain⟨r1,r2,r3,r5⟩:=uo R q3 (eo q1) (et q1) (ex q1) (M.obj k o q2);refine⟨k,o,q1,q2,r1,r2,r5,λb=>?_⟩;exact om (eo q1) (et q1) (ex q1) r2 r3 r5 b
 refine⟨⟨λk1 o1 h1=>?_,λk1 b h=>?_,λk1 b h=>?_,λk1 k2 o1 o2 b h1 h2 b1 b2=>?_,M.imm⟩,?_⟩
 ·obtain⟨k,o,_,_,r,_⟩:=all k1 o1 h1;exact r
 ·cases e:sgB σ k1 with
  |none=>simp[Ix.ren,e]at h
  |some k=>
   rw[eo e]at h;obtain⟨o,g1,g2⟩:=M.liveO k b h;obtain⟨o1,ho1⟩:=alB.1 (hB k k1 e (by simp[g1]))
   obtain⟨k',o',q1,q2,_,q3,_⟩:=all k1 o1 ho1;rw[e]at q1;cases q1;rw[g1]at q2;cases q2
   exact⟨o1,ho1,q3.trans g2⟩
 ·cases e:sgB σ k1 with
  |none=>simp[Ix.ren,e]at h
  |some k=>
   rw[et e]at h;obtain⟨o,g1,g2⟩:=M.liveT k b h;obtain⟨o1,ho1⟩:=alB.1 (hB k k1 e (by simp[g1]))
   obtain⟨k',o',q1,q2,_,q3,_⟩:=all k1 o1 ho1;rw[e]at q1;cases q1;rw[g1]at q2;cases q2
   exact⟨o1,ho1,q3.trans g2⟩
 ·obtain⟨ka,oa,p1,p2,_,_,_,p3⟩:=all k1 o1 h1
  obtain⟨kb,ob,q1,q2,_,_,_,q3⟩:=all k2 o2 h2;have:=M.dist ka kb oa ob b p2 q2 ((p3 b).1 b1) ((q3 b).1 b2);subst this;exact hσ.inj p1 q1
 ·rintro b ⟨k1,o1,h1,h2,h3⟩
  obtain⟨k,o,p1,p2,_,_,p4,p3⟩:=all k1 o1 h1;exact⟨k,o,p2,p4▸h2,(p3 b).1 h3⟩
def Ix.merge (ι ιl:Ix) (σ:Sg):Ix:=
 ⟨λk=>match sgB σ k with|some i=>ιl.o i|none=>ι.o k,λk=>match sgB σ k with|some i=>ιl.t i|none=>ι.t k,λk=>match sgB σ k with|some i=>ιl.x i|none=>ι.x k⟩
theorem zu {σ:Sg} (hσ:qp σ) (ι ιl:Ix):tT σ ιl (ι.merge ιl σ):=
 ⟨λk k' b h hb=>by simp[Ix.merge,hσ.fb h,hb],λk k' b h hb=>by simp[Ix.merge,hσ.fb h,hb]⟩
theorem Mem.back {S S':Imm} {w w':World} {ι ιl':Ix} {H HL HL' H'':Hp} {σ τn:Sg} {m:Nat} (M:Mem S w ι H) (hσ:qp σ) (hτ:qp τn) (M':Mem S' w' ιl' HL') (T:Tr m S w (ι.ren τn) HL S' w' ιl' HL')
 (hown:∀b,owned (ι.ren τn) HL b->owned ι H b)
 (hlent:∀i k,sgB σ k=some i->(∃o',av HL' i=some o')/\((i<m/\sgB τn i=some k)∨av H k=none))
 (hleft:∀k,sgB σ k=none->av H'' k=av H k/\∀i,sgB τn i≠some k)
 (hback:∀i k,sgB σ k=some i->∃o' o'',av HL' i=some o'/\uj σ o'=some o''/\av H'' k=some o'')
 (hLown:∀b,owned (ι.ren τn) HL b->∃i k,sgB τn i=some k/\i<m/\∃o,av H k=some o/\o.has ι k b):
 Mem S' w' (ι.merge ιl' σ) H''/\ι.le (ι.merge ιl' σ)/\∀p,Tr p S w ι H S' w' (ι.merge ιl' σ) H'':=by
 have R:=zu hσ ι ιl';have eo:∀{i k},sgB σ k=some i->(ι.merge ιl' σ).o k=ιl'.o i:=λh=>by simp[Ix.merge,h]
 have et:∀{i k},sgB σ k=some i->(ι.merge ιl' σ).t k=ιl'.t i:=λh=>by simp[Ix.merge,h]
 have no:∀{k},sgB σ k=none->(ι.merge ιl' σ).o k=ι.o k:=λh=>by simp[Ix.merge,h]
 have nt:∀{k},sgB σ k=none->(ι.merge ιl' σ).t k=ι.t k:=λh=>by simp[Ix.merge,h]
 have ex:∀{i k},sgB σ k=some i->(ι.merge ιl' σ).x k=ιl'.x i:=λh=>by simp[Ix.merge,h]
 have nx:∀{k},sgB σ k=none->(ι.merge ιl' σ).x k=ι.x k:=λh=>by simp[Ix.merge,h]
 have le:ι.le (ι.merge ιl' σ):=by
  refine⟨λk b hb=>?_,λk b n hb=>?_⟩
  ·cases e:sgB σ k with
   |none=>rw[no e];exact hb
   |some i=>
    rw[eo e];rcases(hlent i k e).2 with⟨h1,h2⟩|h2
    ·exact T.protO i h1 b (by simp[Ix.ren,h2,hb])
    ·rw[M.none_o h2]at hb;cases hb
  ·cases e:sgB σ k with
   |none=>rw[nt e];exact⟨b,n,hb,.inl ⟨rfl,alo _⟩⟩
   |some i=>
    rw[et e];rcases(hlent i k e).2 with⟨h1,h2⟩|h2
    ·exact T.protT i h1 b n (by simp[Ix.ren,h2,hb])
    ·rw[M.none_t h2]at hb;cases hb
 have away:∀k o b,sgB σ k=none->av H k=some o->o.has ι k b->b<w.heap.size/\¬owned (ι.ren τn) HL b:=by
  intro k o b hk ho hb;refine⟨(M.obj k o ho).lt hb,λh=>?_⟩;obtain⟨i,k',q1,q2,o',q3,q4⟩:=hLown b h;have:=M.dist k k' o o' b ho q3 hb q4;subst this;exact(hleft k hk).2 i q1
 have inn:∀i k o'',sgB σ k=some i->av H'' k=some o''->∃o',av HL' i=some o'/\gY S' w' (ι.merge ιl' σ) k o''/\o''.isTok=o'.isTok/\o''.excl=o'.excl/\∀b,o''.has (ι.merge ιl' σ) k b↔o'.has ιl' i b:=by
  intro i k o'' hk h'';obtain⟨o',o2,p1,p2,p3⟩:=hback i k hk;rw[h'']at p3;cases p3
  obtain⟨r1,r2,r3,r5⟩:=uo R p2 (eo hk) (et hk) (ex hk) (M'.obj i o' p1);refine⟨o',p1,r1,r2,r5,λb=>?_⟩;exact om (eo hk) (et hk) (ex hk) r2 r3 r5 b
 have nhas:∀{k o b},sgB σ k=none->(AO.has (ι.merge ιl' σ) k o b↔AO.has ι k o b):=by
  intro k o b hk;cases o<;>simp[AO.has,no hk,nt hk,nx hk]
 have mixed:∀i k1 k2 o1 o2 b,sgB σ k1=some i->sgB σ k2=none->av H'' k1=some o1->av H k2=some o2->o1.has (ι.merge ιl' σ) k1 b->o2.has ι k2 b->False:=by
  intro i k1 k2 o1 o2 b e1 e2 h1 h2 b1 b2;obtain⟨hlt,hno⟩:=away k2 o2 b e2 h2 b2;obtain⟨o',p1,_,p3,p4,p5⟩:=inn i k1 o1 e1 h1;have hb':=(p5 b).1 b1;rcases T.own b ⟨i,o',p1,qg hb',hb'⟩with h|h
  ·exact hno h
  ·omega
 refine⟨⟨λk o'' h''=>?_,λk b hb=>?_,λk b hb=>?_,λk1 k2 o1 o2 b h1 h2 b1 b2=>?_,M'.imm⟩,le,λp=>⟨T.below,λb hb ho=>T.same b hb (λh=>ho (hown b h)),T.keeps,λb j hb hs=>Or.imp id (hown b) (T.immN b j hb hs),?_,λk _ b hb=>le.o k b hb,λk _ b n hb=>le.t k b n hb⟩⟩
 ·cases e:sgB σ k with
  |some i=>obtain⟨_,_,r,_⟩:=inn i k o'' e h'';exact r
  |none=>
   rw[(hleft k e).1]at h'';exact(M.obj k o'' h'').mono T.keeps le T.below (λb hb=>T.same b (away k o'' b e h'' hb).1 (away k o'' b e h'' hb).2) (λ_=>nt e) (nx e)
    (λb j hb hs=>(T.immN b j (away k o'' b e h'' hb).1 hs).resolve_right (away k o'' b e h'' hb).2)
 ·cases e:sgB σ k with
  |some i=>
   rw[eo e]at hb;obtain⟨o',g1,g2⟩:=M'.liveO i b hb;obtain⟨o2,o'',p1,p2,p3⟩:=hback i k e;obtain⟨o3,q1,_,q3,_⟩:=inn i k o'' e p3;rw[g1]at q1;cases q1
   exact⟨o'',p3,q3.trans g2⟩
  |none=>rw[no e]at hb;rw[(hleft k e).1];exact M.liveO k b hb
 ·cases e:sgB σ k with
  |some i=>
   rw[et e]at hb;obtain⟨o',g1,g2⟩:=M'.liveT i b hb;obtain⟨o2,o'',p1,p2,p3⟩:=hback i k e;obtain⟨o3,q1,_,q3,_⟩:=inn i k o'' e p3;rw[g1]at q1;cases q1
   exact⟨o'',p3,q3.trans g2⟩
  |none=>rw[nt e]at hb;rw[(hleft k e).1];exact M.liveT k b hb
 ·cases e1:sgB σ k1 with
  |some i1=>
   cases e2:sgB σ k2 with
   |some i2=>
    obtain⟨oa,p1,_,_,_,p5⟩:=inn i1 k1 o1 e1 h1;obtain⟨ob,q1,_,_,_,q5⟩:=inn i2 k2 o2 e2 h2;have:=M'.dist i1 i2 oa ob b p1 q1 ((p5 b).1 b1) ((q5 b).1 b2);subst this;exact hσ.inj e1 e2
   |none=>rw[(hleft k2 e2).1]at h2;exact(mixed i1 k1 k2 o1 o2 b e1 e2 h1 h2 b1 ((nhas e2).1 b2)).elim
  |none=>
   rw[(hleft k1 e1).1]at h1;cases e2:sgB σ k2 with
   |some i2=>exact(mixed i2 k2 k1 o2 o1 b e2 e1 h2 h1 b2 ((nhas e1).1 b1)).elim
   |none=>rw[(hleft k2 e2).1]at h2;exact M.dist k1 k2 o1 o2 b h1 h2 ((nhas e1).1 b1) ((nhas e2).1 b2)
 ·rintro b ⟨k,o'',h1,h2,h3⟩
  cases e:sgB σ k with
  |some i=>
   obtain⟨o',p1,_,_,p4,p5⟩:=inn i k o'' e h1;exact(T.own b ⟨i,o',p1,p4▸h2,(p5 b).1 h3⟩).imp (hown b) id
  |none=>rw[(hleft k e).1]at h1;exact .inl ⟨k,o'',h1,h2,(nhas e).1 h3⟩
def dz (l:List AO):Hp:=l.map some
theorem gG (l:List AO):∀k,av (dz l) k=l[k]? :=by
 induction l with
 |nil=>intro k;rfl
 |cons o r ih=>intro k;cases k with
  |zero=>rfl
  |succ k=>exact ih k
def BS (P:Program) (B:Imm->World->Prop) (g:FuncId) (args:List PV) (objs:List AO) (rs:List PV) (objs':List AO):Prop:=
 ∀(S:Imm) (w:World) (ι:Ix) (vs:Array Value),B S w->Mem S w ι (dz objs)->bH S w ι args vs->
  CallsIn (Fw none) 0 P g vs w λe w'=>∃val S' ι',e=.returned val/\Mem S' w' ι' (dz objs')/\Rep S' w' ι' (dJ rs) val/\Tr objs.length S w ι (dz objs) S' w' ι' (dz objs')
def dN (P:Program) (g:FuncId) (args:List PV) (objs:List AO) (rs:List PV) (objs':List AO):Prop:=Enters P g/\BS P rA g args objs rs objs'
def Z7 (τ:TypeId->Option TE) (fn:Func) (m:Nat) (extra:Sg) (rs:List PV) (objs':List AO) (e:Exit) (env:Env) (H:Hp):Prop:=
 match e with
 |.normal=>oH τ fn.results.toList env H λvs=>iE (lH extra H 0 (dz objs')) λσ=>oI σ m vs H rs (dz objs') Ok
 |.ret=>oH τ fn.results.toList env H λvs=>iE (lH extra H 0 (dz objs')) λσ=>oI σ m vs H rs (dz objs') Ok
 |_=>False
theorem P7 {S:Imm} {w:World} {ι:Ix} {us:List PV} {vals:List Value} (hlen:us.length=vals.length) (h:∀i,i<us.length->Rep S w ι (aG us i) (vals.getD i undef)):
 Rep S w ι (dJ us) (if h:vals.toArray.size=1 then vals.toArray[0]else .tuple vals.toArray):=by
 match us,vals,hlen,h with
 | [],[],_,_=>exact .tup _ _ _ rfl (λi hi=>by simp at hi)
 | [u],[x],_,h=>simpa [dJ,aG]using h 0 qqS
 |u::u'::us,x::x'::xs,hlen,h=>
  have:¬(x::x'::xs).toArray.size=1:=qqS;rw[dif_neg this];refine .tup _ _ _ (by simpa using hlen) (λi hi=>?_)
  have:=h i hi;rw[alz];simpa using this
section
variable {P:Program} {τ:TypeId->Option TE} {B:Imm->World->Prop}
theorem zw (hB:BOK B) (hτ:bC P τ) {g:FuncId} {fn:Func} {c:Code} {args rs:List PV} {objs objs':List AO} {extra:Sg} (hf:P.funcs[g]? =some fn) (hb:fn.body=some c)
 (h:AW P none B objs.length c (Z7 τ fn objs.length extra rs objs') (args++oG (fn.ntmps-args.length)) (dz objs)):BS P B g args objs rs objs':=by
 intro S w ι vs hBw M hr;have hA:At B objs.length S w ι (dz objs) (args++oG (fn.ntmps-args.length)) (dz objs) {tmps:=vs++ane (fn.ntmps-vs.size) undef,defers:=[]} w:=
  ⟨S,ι,hBw,M,by rw[hr.1];exact Ir hr _,.nil _ _ _,λd hd=>by simp at hd,.refl _ _ _ _ _⟩
 refine callsIn_of_wp_marks hf hb trivial (wpIn_mono (h S w ι (dz objs) _ w hA) ?_)
 rintro e ⟨tmps,ds⟩ w1 ⟨env',H',q,hA1⟩
 have fin:(oH τ fn.results.toList env' H' λvs=>iE (lH extra H' 0 (dz objs')) λσ=>oI σ objs.length vs H' rs (dz objs') Ok)->
  LeavesInM (Fw none) 0 P fn tmps (λe w'=>∃val S' ι',e=.returned val/\Mem S' w' ι' (dz objs')/\Rep S' w' ι' (dJ rs) val/\Tr objs.length S w ι (dz objs) S' w' ι' (dz objs')) ds .returning w1:=by
  intro q;refine At.leave hB ds w1 hA1 λw2 hA2=>?_;obtain⟨S2,ι2,hb2,M2,R2,D2,D2',T2⟩:=hA2.ex;obtain⟨vs1,q,hs⟩:=BM (P:=P) hτ _ q;rw[jo]at q;obtain⟨vals,r1,r2,r3⟩:=hs M2 R2;have hA3:At B objs.length S w ι (dz objs) vs1 H' {tmps:=vals.toArray,defers:=[]} w2:=
   ⟨S2,ι2,hb2,M2,⟨by simp[r2],λi hi=>by have:=r3 i hi;simpa [alz]using this⟩,D2,D2',T2⟩
  have hA4:=(jH (B:=B) q).2 _ _ _ _ _ _ hA3;obtain⟨S4,ι4,hb4,M4,R4,_,_,T4⟩:=hA4.ex;have hrun:(results fn tmps).run P w2=.ok (if h:vals.toArray.size=1 then vals.toArray[0]else .tuple vals.toArray) w2:=by
   unfold results;rw[Sem.run_bind,anf,<-bind_pure_comp,Sem.run_bind];have:(ang (λ(x:ResultVar)=>(match x with|.tmp t=>pure (tmps.getD t undef)|.cell a t=>do loadVar t (<-asAddr (tmps.getD a undef)):Sem Value)) fn.results.toList).run P w2=.ok vals w2:=r1
   erw [this]
   simp only[Result.andThen,Function.comp,Sem.run_pure]
  refine⟨_,hrun,_,S4,ι4,rfl,M4,?_,T4⟩;have h1:=R4.1;have h2:=R4.2;exact P7 (by simpa using h1) (λi hi=>by have:=h2 i hi;simpa [alz]using this)
 cases e with
 |normal=>exact fin q
 |ret=>exact fin q
 |_=>exact q.elim
end
def wF (P:Program) (B:Imm->World->Prop) (τ:TypeId->Option TE) (md:Nat) (rf:List Nat) (CP:CPT) (YP:YPT) (fn:Func) (args:List PV) (objs:List AO) (n0:Nat) (extra:Sg) (rs:List PV) (objs':List AO):Prop:=
 ev P none B objs.length τ md rf CP YP (fn.body.getD .skip) n0 (args++oG (fn.ntmps-args.length)) (dz objs) λe env H _=>Z7 τ fn objs.length extra rs objs' e env H
theorem eB {P:Program} {τ:TypeId->Option TE} (hm:P.follows .mixedOrders=true) (hτ:bC P τ) {md rf CP} (hC:aZ P CP) {g:FuncId} {fn:Func} {args rs:List PV} {objs objs':List AO} (n0:Nat) (extra:Sg)
 (hf:P.funcs[g]? =some fn) (hn:(fn.name== "runtime.NumGoroutine")=false) (hb:fn.body.isSome=true) (hok:eU (fn.body.getD .skip)=true)
 (h:wF P rA τ md rf CP noY fn args objs n0 extra rs objs'):dN P g args objs rs objs':=by
 refine⟨enters hf hn (by cases h:fn.body<;>simp_all),?_⟩
 obtain⟨c,hc⟩:=alB.1 hb;unfold wF at h;rw[hc]at h hok;exact zw aH hτ hf hc ((kr aH hm hτ hC aN c hok _ _ _ _ h).mono λe env H ⟨n,h⟩=>h)
def af4:PV->List Nat
 |.rsl k _ _=>[k]
 |.rp k _=>[k]
 |.rpe k _ _ _=>[k]
 |.rm k=>[k]
 |.yld k=>[k]
 |.row k _ _=>[k]
 |.rsc k _ _=>[k]
 |.rowp k _ _ _ _=>[k]
 |.isl _ t=>match t with
  |.own k=>[k]
  |_=>[]
 |_=>[]
def BU:List PV->List Nat
 | []=>[]
 |x::xs=>af4 x++BU xs
def ajG:PV->List Nat
 |.agg cs=>BU cs
 |.tup cs=>BU cs
 |.fn _ us vs=>BU us++BU vs
 |p=>af4 p
def Gm:List PV->List Nat
 | []=>[]
 |x::xs=>ajG x++Gm xs
def ajH:AO->List Nat
 |.cells c _=>match c with
  |.pv ds=>Gm ds
  |_=>[]
 |_=>[]
def BX (H:Hp):Nat->List Nat->List Nat->List Nat
 |0,_,done=>done
 |_+1,[],done=>done
 |f+1,k::r,done=>match iB k done with
  |true=>BX H f r done
  |false=>match av H k with
   |some o=>BX H f (r++ajH o) (done++[k])
   |none=>BX H f r done
def ny:List Nat->Nat->Sg
 | [],_=>[]
 |k::r,j=>(k,j)::ny r (j+1)
def BZ:Sg->Sg
 | []=>[]
 |(a,b)::r=>(b,a)::BZ r
def pE (σ:Sg):Sg->Bool
 | []=>true
 |(a,b)::r=>match eqO (sgB σ b) a&&eqO (sgF σ a) b with|true=>pE σ r|false=>false
theorem vL {σ:Sg}:∀{r:Sg},pE σ r=true->∀x∈r,sgB σ x.2=some x.1/\sgF σ x.1=some x.2:=by
 intro r;induction r with
 |nil=>intro _ x hx;simp at hx
 |cons y r ih=>
  intro h x hx;obtain⟨a,b⟩:=y;simp only[pE]at h;split at h
  ·rename_i hb
   rcases am2.1 hx with e|hx
   ·subst e
    simp only[alM,DF]at hb;exact hb
   ·exact ih h x hx
  ·cases h
theorem Tv {σ:Sg} (h:pE σ σ=true):qp σ:=⟨λx hx=>(vL h x hx).1,λx hx=>(vL h x hx).2⟩
theorem XB:∀(ks:List Nat) (j x:Nat),sgB (ny ks j) (j+x)=ks[x]? :=by
 intro ks;induction ks with
 |nil=>intro j x;rfl
 |cons k r ih=>
  intro j x;simp only[ny,sgB];cases x with
  |zero=>simp
  |succ x=>
   have:alI j (j+(x+1))=false:=by
    cases hb:alI j (j+(x+1))with
    |false=>rfl
    |true=>have:=alN hb;omega
   rw[this];have:=ih (j+1) x;simp only[List.getElem?_cons_succ];rw[<-this];congr 1;omega
theorem nA (ks:List Nat) (x:Nat):sgB (ny ks 0) x=ks[x]? :=by
 have:=XB ks 0 x;simpa using this
theorem IB (σ:Sg) (x:Nat):sgF (BZ σ) x=sgB σ x:=by
 induction σ with
 |nil=>rfl
 |cons y r ih=>obtain⟨a,b⟩:=y;simp only[BZ,sgF,sgB,ih]
def Gn (σ:Sg) (H:Hp):List Nat->(List AO->Prop)->Prop
 | [],K=>K []
 |k::r,K=>bR H k λo=>match uj σ o with
  |some o1=>Gn σ H r λos=>K (o1::os)
  |none=>False
theorem Lu {σ:Sg} {H:Hp}:∀{ks:List Nat} {K:List AO->Prop},Gn σ H ks K->∃os,K os/\os.length=ks.length/\∀(i k:Nat),ks[i]? =some k->∃o o1,av H k=some o/\uj σ o=some o1/\os[i]? =some o1:=by
 intro ks;induction ks with
 |nil=>intro K h;exact⟨_,h,rfl,λi k hk=>by simp at hk⟩
 |cons k r ih=>
  intro K h;unfold Gn at h;rw[bD]at h;obtain⟨o,ho,h⟩:=h;split at h
  ·rename_i o1 h1
   obtain⟨os,hK,hl,hs⟩:=ih h;refine⟨_,hK,by simp[hl],λi k' hk=>?_⟩
   cases i with
   |zero=>simp at hk;subst hk;exact⟨o,o1,ho,h1,qqS⟩
   |succ i=>obtain⟨a,b,c1,c2,c3⟩:=hs i k' (by simpa using hk);exact⟨a,b,c1,c2,by simpa using c3⟩
  ·exact h.elim
def Gp (σ:Sg):List Nat->List AO->(List (Nat × AO)->Prop)->Prop
 | [],[],K=>K []
 |k::ks,o::os,K=>match uj σ o with
  |some o1=>Gp σ ks os λr=>K ((k,o1)::r)
  |none=>False
 |_,_,_=>False
theorem Lv {σ:Sg}:∀{ks:List Nat} {os:List AO} {K:List (Nat × AO)->Prop},Gp σ ks os K->∃sets,K sets/\os.length=ks.length/\keys sets=ks/\
 ∀(i k:Nat),ks[i]? =some k->∃o o1,os[i]? =some o/\uj σ o=some o1/\(k,o1)∈sets:=by
 intro ks;induction ks with
 |nil=>intro os K h;cases os with
  |nil=>exact⟨_,h,rfl,rfl,λi k hk=>by simp at hk⟩
  |cons=>exact h.elim
 |cons k r ih=>intro os K h;cases os with
  |nil=>exact h.elim
  |cons o os=>
   unfold Gp at h;split at h
   ·rename_i o1 h1
    obtain⟨sets,hK,hl,hk,hs⟩:=ih h;refine⟨_,hK,by simp[hl],by simp[keys]at hk⊢;exact hk,λi k' hk'=>?_⟩
    cases i with
    |zero=>simp at hk';subst hk';exact⟨o,o1,qqS,h1,qqS⟩
    |succ i=>obtain⟨a,b,c1,c3,c4⟩:=hs i k' (by simpa using hk');exact⟨a,b,by simpa using c1,c3,ani _ c4⟩
   ·exact h.elim
theorem IC:∀{sets:List (Nat × AO)} {H:Hp} {k:Nat} {o:AO},(∀(i j k:Nat),(keys sets)[i]? =some k->(keys sets)[j]? =some k->i=j)->(k,o)∈sets->av (bE H sets) k=some o:=by
 intro sets;induction sets with
 |nil=>intro H k o _ h;simp at h
 |cons x r ih=>
  intro H k o hn h;obtain⟨k0,o0⟩:=x;have h0:k0∉keys r:=λhm=>by
   obtain⟨j,hj⟩:=ank.1 hm;have:=hn 0 (j+1) k0 (by simp[keys]) (by simpa [keys]using hj)
   omega
  have hr:∀(i j k:Nat),(keys r)[i]? =some k->(keys r)[j]? =some k->i=j:=λi j k hi hj=>by
   have:=hn (i+1) (j+1) k (by simpa [keys]using hi) (by simpa [keys]using hj)
   omega
  rcases am2.1 h with e|h
  ·cases e
   simp only[bE];rw[kg h0,aW];simp
  ·exact ih hr h
def Gq:Nat->Nat->(List Nat->Prop)->Prop
 |_,0,K=>K []
 |n,d+1,K=>jB n λn=>Gq (n+1) d λr=>K (n::r)
def Gs:Nat->Nat->List Nat
 |_,0=>[]
 |n,d+1=>n::Gs (n+1) d
theorem XC (n d:Nat) (K:List Nat->Prop):Gq n d K=K (Gs n d):=by
 induction d generalizing n K with
 |zero=>rfl
 |succ d ih=>simp only[Gq,Gs,jT,ih]
def P8 (σ:Sg) (rs:List PV) (K:PV->Prop):Prop:=match uh σ rs with|some us=>cB us λus=>K (dJ us)|none=>False
theorem Lx {σ:Sg} {rs:List PV} {K:PV->Prop} (h:P8 σ rs K):∃v,K v/\∀{ι ι1:Ix},tT σ ι ι1->∀{S:Imm} {w:World} {val:Value},Rep S w ι (dJ rs) val->Rep S w ι1 v val:=by
 unfold P8 at h;split at h
 ·rename_i us hu
  rw[bN]at h;refine⟨_,h,λ{ι ι1} R {S w val} hr=>?_⟩;obtain⟨h1,h2⟩:=zM R hu (S:=S) (w:=w)
  match rs,us,h1,h2,hr with
  | [],[],_,_,hr=>cases hr with|tup _ _ vs hl hh=>exact .tup _ _ _ hl (λi hi=>by simp at hi)
  | [r],[u],_,h2,hr=>exact h2 0 qqS hr
  |r::r'::rs,u::u'::us,h1,h2,hr=>cases hr with|tup _ _ vs hl hh=>exact .tup _ _ _ (h1.trans hl) (λi hi=>h2 i qqO (hh i qqO))
 ·exact h.elim
abbrev LSp:=List PV->List AO->(List PV->List AO->Prop)->Prop
def LOK (P:Program) (g:FuncId) (L:LSp):Prop:=∀as objs K,L as objs K->∃rs objs',K rs objs'/\dN P g as objs rs objs'
def xZ (H:Hp):List Nat->Prop->Prop
 | [],K=>K
 |k::r,K=>dV H k (xZ H r K)
def af5:PV->PV
 |.isl c t=>match t with
  |.full=>.isl c .none
  |t=>.isl c t
 |p=>p
def uq:List PV->List PV
 | []=>[]
 |x::xs=>af5 x::uq xs
theorem qP:∀(ps:List PV),(uq ps).length=ps.length/\∀i {S:Imm} {w:World} {ι:Ix} {v:Value},Rep S w ι (aG ps i) v->Rep S w ι (aG (uq ps) i) v:=by
 intro ps;induction ps with
 |nil=>exact⟨rfl,λi _ _ _ _ h=>h⟩
 |cons p ps ih=>
  refine⟨by simp[uq,ih.1],λi S w ι v h=>?_⟩
  cases i with
  |zero=>
   simp only[aG,uq]at h⊢;unfold af5;split
   ·split
    ·exact h.drop
    ·exact h
   ·exact h
  |succ i=>exact ih.2 i h
def dX (ks0:List Nat) (L:LSp):CT:=λargs n H K=>
 pq (BX H 60 (ks0++Gm args) []) λks=>iE (ny ks 0) λσ=>ifK (pE σ σ) (match uh σ args with
  |some as=>cB (uq as) λas=>Gn σ H ks λobjs=>L as objs λrs objs'=>
   Gq n (objs'.length-ks.length) λns=>xZ H ns (pq (ks++ns) λkn=>iE (BZ (ny kn 0)) λσ'=>ifK (pE σ' σ') (Gp σ' kn objs' λsets=>P8 σ' rs λv=>K v sets ks ns))
  |none=>False)
theorem F5 {H:Hp}:∀{ns:List Nat} {K:Prop},xZ H ns K->K:=by
 intro ns;induction ns with
 |nil=>intro K h;exact h
 |cons k r ih=>
  intro K h;unfold xZ dV at h;split at h
  ·exact ih h
  ·exact h.elim
theorem bX {P:Program} {g:FuncId} {L:LSp} (ks0:List Nat) (h:LOK P g L):COK P g (dX ks0 L):=by
 intro args n H K hk;unfold dX at hk;simp only[BJ,jo,bN,XC]at hk;generalize BX H 60 (ks0++Gm args) []=ks at hk
 rw[aK]at hk;obtain⟨hg,hk⟩:=hk;split at hk
 ·rename_i as has
  obtain⟨objs,hk,hol,hos⟩:=Lu hk;obtain⟨rs,objs',hk,hent,hs⟩:=h _ _ _ hk;generalize Gs n (objs'.length-ks.length)=ns at hk
  have hk:=F5 hk;rw[aK]at hk;obtain⟨hg',hk⟩:=hk;obtain⟨sets,hk,hl',hkeys,hbs⟩:=Lv hk;obtain⟨v,hk,hv⟩:=Lx hk;have hσ:=Tv hg;have hσ':=Tv hg';refine⟨v,sets,ks,ns,hk,.inl ⟨hent,λS w ι H' vs hgb M hr ha hn=>?_⟩⟩;have at':∀{i k},sgB (BZ (ny (ks++ns) 0)) k=some i↔(ks++ns)[i]? =some k:=λ{i k}=>
   ⟨λe=>by have:=hσ'.bf e;rwa [IB,nA]at this,λe=>hσ'.fb (by rw[IB,nA];exact e)⟩
  have hget:∀{k},k∈ks->av H' k=av H k:=λhm=>ha _ hm;have hL:∀k1 o1,av (dz objs) k1=some o1->∃k o,sgB (ny ks 0) k1=some k/\av H' k=some o/\uj (ny ks 0) o=some o1:=by
   intro k1 o1 h1;rw[gG]at h1;have hlt:k1<ks.length:=by rw[<-hol];exact(anl.1 h1).1
   obtain⟨o,o1',q1,q2,q3⟩:=hos k1 ks[k1] (alH hlt);rw[h1]at q3;cases q3
   exact⟨ks[k1],o,by rw[nA,alH hlt],by rw[hget (List.getElem_mem hlt)];exact q1,q2⟩
  obtain⟨ML,hown⟩:=M.lend (H1:=dz objs) hσ hL (λk k1 hb hsome=>by
   rw[nA]at hb;obtain⟨o,o1,_,_,q3⟩:=hos k1 k hb;rw[gG,q3];rfl)
  have hA:bH S w (ι.ren (ny ks 0)) (uq as) vs:=by
   obtain⟨h1,h2⟩:=zM (qO hσ.b ι) has (S:=S) (w:=w);exact⟨(qP as).1.trans (h1.trans hr.1),λi hi=>(qP as).2 i (h2 i (by rw[(qP as).1]at hi;omega) (hr.2 i (by rw[(qP as).1]at hi;omega)))⟩
  refine(hs S w _ vs hgb ML hA).mono ?_
  rintro e w' ⟨val,S',ιl',rfl,M',R',T⟩
  have hinj:∀(i j k:Nat),(keys sets)[i]? =some k->(keys sets)[j]? =some k->i=j:=λi j k hi hj=>by
   rw[hkeys]at hi hj;have a:=at'.2 hi;have b:=at'.2 hj;rw[a]at b;exact Option.some.inj b
  obtain⟨M2,le,T2⟩:=M.back (H'':=bE H' sets) hσ' hσ M' T hown
   (λi k e=>by
     have e:=at'.1 e;obtain⟨o,o1,p1,p3,p4⟩:=hbs i k e;refine⟨⟨o,by rw[gG];exact p1⟩,?_⟩
     by_cases hi:i<ks.length
     ·rw[anm hi]at e
      exact .inl ⟨qqO,by rw[nA];exact e⟩
     ·rw[amB qqO]at e
      exact .inr (hn k (ano e)))
   (λk e=>by
     have hno:k∉ks++ns:=λhm=>by
      obtain⟨i,hi⟩:=ank.1 hm;rw[at'.2 hi]at e;cases e
     refine⟨kg (by rw[hkeys];exact hno),λi hi=>?_⟩
     rw[nA]at hi;exact hno (List.mem_append_left _ (ano hi)))
   (λi k e=>by
     obtain⟨o,o1,p1,p3,p4⟩:=hbs i k (at'.1 e);exact⟨o,o1,by rw[gG];exact p1,p3,IC hinj p4⟩)
   (λb hb=>by
     obtain⟨k1,o1,h1,h2,h3⟩:=hb;obtain⟨k,o,q1,q2,q3⟩:=hL k1 o1 h1;have eo:(ι.ren (ny ks 0)).o k1=ι.o k:=by simp[Ix.ren,q1]
     have et:(ι.ren (ny ks 0)).t k1=ι.t k:=by simp[Ix.ren,q1]
     have ex:(ι.ren (ny ks 0)).x k1=ι.x k:=by funext b;simp[Ix.ren,q1]
     obtain⟨r1,r2,r3,r5⟩:=uo (qO hσ.b ι) q3 eo et ex (M.obj k o q2);refine⟨k1,k,q1,?_,o,q2,?_⟩
     ·rw[gG]at h1;exact(anl.1 h1).1
     ·exact(om eo et ex r2 r3 r5 b).1 h3)
  exact⟨val,S',_,rfl,M2,le,T.keeps,hv (zu hσ' ι ιl') R',T2⟩
 ·exact hk.elim
variable {P:Program}
def ajI (P:Program) (B:Imm->World->Prop) (g:FuncId) (C:CT):Prop:=∀args n H K,C args n H K->∃v sets accs news,K v sets accs news/\oM P B g args H v sets accs news
theorem COK.up {g:FuncId} {C:CT} (h:COK P g C) (B:Imm->World->Prop) (hg:∀S w,B S w->gB S w:=by first|exact λ_ _ h=>h|exact λ_ _ h=>h.2|exact λ_ _ h=>h.2.2):ajI P B g C:=λargs n H K hk=>by
 obtain⟨v,sets,accs,news,h1,h2⟩:=h args n H K hk;exact⟨v,sets,accs,news,h1,iX.up h2 B hg⟩
def uw:List PV->PV
 | [x]=>x
 |xs=>.tup xs
def P9 (m:Nat) (x:PV):List PV:=match m with
 |1=>[x]
 |_=>match x with
  |.tup xs=>xs
  |_=>[]
theorem Tw (xs:List PV):P9 xs.length (uw xs)=xs:=by
 match xs with
 | []=>rfl
 | [x]=>rfl
 |x::y::r=>rfl
def mF (go:List PV->Bool):List PV->List PV->List PV
 |pre,[]=>pre
 |pre,x::l=>match go (pre++[x])with|true=>mF go (pre++[x]) l|false=>pre++[x]
def GoTo (go:List PV->Bool) (L:List PV) (i:Nat):Prop:=∀j,j<i->go (L.take (j+1))=true
def Nxt (go:List PV->Bool) (L pre:List PV) (x:PV):Prop:=∃i,i<L.length/\pre=L.take i/\L[i]? =some x/\GoTo go L i
theorem GoTo.zero {go:List PV->Bool} {L:List PV}:GoTo go L 0:=λj h=>qqO
theorem GoTo.succ {go:List PV->Bool} {L:List PV} {i:Nat} (h:GoTo go L i) (g:go (L.take (i+1))=true):GoTo go L (i+1):=λj hj=>by
 by_cases e:j=i
 ·rw[e];exact g
 ·exact h j qqO
theorem mG {L:List PV} {i:Nat} {x:PV} (h:L[i]? =some x):L.take i++[x]=L.take (i+1):=by
 rw[List.take_add_one,h];rfl
theorem Tx {go:List PV->Bool} {L:List PV}:∀{i:Nat},i≤L.length->GoTo go L i->mF go [] L=mF go (L.take i) (L.drop i):=by
 intro i;induction i with
 |zero=>intro _ _;simp
 |succ i ih=>
  intro hi h;rw[ih qqO (λj hj=>h j qqO),anp qqO,mF];have e:L.take i++[L[i]]=L.take (i+1):=mG (alH qqO);rw[e,h i qqO]
theorem LA {go:List PV->Bool}:∀(l pre:List PV),pre.length≤(mF go pre l).length:=by
 intro l;induction l with
 |nil=>intro pre;exact alo _
 |cons x l ih=>
  intro pre;rw[mF];split
  ·have:=ih (pre++[x]);simp at this;omega
  ·simp
theorem Tz {go:List PV->Bool} {L:List PV} {i:Nat} (hi:i≤L.length) (h:GoTo go L i) (e:mF go [] L=L.take i):i=L.length:=by
 rcases alq i L.length with hlt|hge
 ·rw[Tx hi h,anp hlt,mF]at e
  have hlen:=congrArg anq e;split at hlen
  ·have:=LA (go:=go) (L.drop (i+1)) (L.take i++[L[i]])
   simp at this hlen;omega
  ·simp at hlen;omega
 ·omega
abbrev GT:=List PV->(Nat->Prop)->Imm->World->Prop
def XD (b m:Nat) (G:GT) (go:List PV->Bool) (L:List PV):YPT:=λf us vs args n H K=>VC (f=.yield b/\us= #[]/\vs= #[])/\BO args λas=>ifK (alI as.length m) (bR H 0 λo=>match o with
 |.ext G' pre=>bP (uw as) λx=>VC (G'=G/\Nxt go L pre x)/\K (.bp (go (pre++[x]))) [(0,.ext G (pre++[x]))] [0] []
 |_=>False)
def Yields (P:Program) (b m:Nat) (G:GT) (go:List PV->Bool) (L:List PV):Prop:=∀r B,ni P r B (XD b m G go L)
def Qa (P:Program) (g:FuncId) (fs cs:List PV) (m:Nat) (L:List PV):Prop:=
 Enters P g/\∀(G:GT) (go:List PV->Bool) (b:Nat),Yields P b m G go L->BS P rA g (fs++[.fv (.yield b) #[] #[]]++cs) [.ext G []] [] [.ext G (mF go [] L)]
structure TrX (X:Nat->Prop) (p:Nat) (S:Imm) (w:World) (ι:Ix) (H:Hp) (S':Imm) (w':World) (ι':Ix) (H':Hp):Prop where
 below:Bel w w'
 same:∀b,b<w.heap.size->¬owned ι H b->¬X b->w'.heap[b]? =w.heap[b]?
 keeps:Keeps S w S' w'
 immN:∀b j,b<w.heap.size->S' b j->S b j∨owned ι H b
 own:∀b,owned ι' H' b->owned ι H b∨w.heap.size≤b
 protO:∀k,k<p->∀b,ι.o k=some b->ι'.o k=some b
 protT:∀k,k<p->∀b n,ι.t k=some (b,n)->∃b' n',ι'.t k=some (b',n')/\((b'=b/\n≤n')∨n<n')
theorem Tr.toX {X:Nat->Prop} {p:Nat} {S S':Imm} {w w':World} {ι ι':Ix} {H H':Hp} (h:Tr p S w ι H S' w' ι' H'):TrX X p S w ι H S' w' ι' H':=
 ⟨h.below,λb hb ho _=>h.same b hb ho,h.keeps,h.immN,h.own,h.protO,h.protT⟩
theorem LB {ι ι' ι'':Ix} {k:Nat} (h:∀b n,ι.t k=some (b,n)->∃b' n',ι'.t k=some (b',n')/\((b'=b/\n≤n')∨n<n')) (g:∀b n,ι'.t k=some (b,n)->∃b' n',ι''.t k=some (b',n')/\((b'=b/\n≤n')∨n<n')):
 ∀b n,ι.t k=some (b,n)->∃b' n',ι''.t k=some (b',n')/\((b'=b/\n≤n')∨n<n'):=by
 intro b n hi;obtain⟨x1,n1,h1,h2⟩:=h b n hi;obtain⟨x2,n2,g1,g2⟩:=g x1 n1 h1;refine⟨x2,n2,g1,?_⟩;rcases h2 with⟨rfl,h2⟩|h2
 ·rcases g2 with⟨rfl,g2⟩|g2
  ·exact .inl ⟨rfl,qqO⟩
  ·exact .inr qqO
 ·rcases g2 with⟨rfl,g2⟩|g2
  ·exact .inr qqO
  ·exact .inr qqO
theorem TrX.trans {X:Nat->Prop} {p:Nat} {S S' S'':Imm} {w w' w'':World} {ι ι' ι'':Ix} {H H' H'':Hp}
 (h:TrX X p S w ι H S' w' ι' H') (g:TrX X p S' w' ι' H' S'' w'' ι'' H''):TrX X p S w ι H S'' w'' ι'' H'':=by
 have hsz:=h.below.size;refine⟨h.below.trans g.below,λb hb ho hx=>?_,h.keeps.trans g.keeps,λb j hb hs=>?_,λb ho=>?_,λk hk b hi=>g.protO k hk b (h.protO k hk b hi),λk hk=>LB (h.protT k hk) (g.protT k hk)⟩
 ·rw[g.same b qqO (λho'=>?_) hx]
  ·exact h.same b hb ho hx
  ·rcases h.own b ho' with h1|h1
   ·exact ho h1
   ·omega
 ·rcases g.immN b j qqO hs with h1|h1
  ·exact h.immN b j hb h1
  ·rcases h.own b h1 with h2|h2
   ·exact .inr h2
   ·omega
 ·rcases g.own b ho with h1|h1
  ·exact h.own b h1
  ·exact .inr qqO
theorem Mem.aside {S:Imm} {w:World} {ι:Ix} {H:Hp} (M:Mem S w ι H) {b:Nat} {o o':Obj} (hw:w.heap[b]? =some o) (hp:Obj.plain o=true) (hp':Obj.plain o'=true) (hno:¬owned ι H b) (p:Nat):
 Mem S (w.putObj b o') ι H/\TrX (·=b) p S w ι H S (w.putObj b o') ι H/\(w.putObj b o').heap[b]? =some o'/\∀b',b'≠b->(w.putObj b o').heap[b']? =w.heap[b']? :=by
 have hlt:=lt_of_heap hw;have here:(w.putObj b o').heap[b]? =some o':=World.putObj_heap_same hlt;have other:∀b',b'≠b->(w.putObj b o').heap[b']? =w.heap[b']? :=λb' h=>World.putObj_heap_other h;have hnS:∀j,¬S b j:=λj hs=>by have:=M.imm b j hs;rw[jf hw hp]at this;simp at this
 have hk:Keeps S w S (w.putObj b o'):=by
  refine⟨λb' j hs=>⟨hs,?_⟩,λb' j hs=>?_⟩
  ·by_cases e:b'=b
   ·subst e;exact absurd hs (hnS j)
   ·exact dH (other b' e) j
  ·by_cases e:b'=b
   ·subst e;rw[jf hw hp]at hs;simp at hs
   ·rw[dH (other b' e) j];exact hs
 have hbel:Bel w (w.putObj b o'):=.block b rfl rfl rfl qqS other (by rw[hw];exact iq hp) (by rw[here];exact iq hp') (λ_=>by unfold bsz;rw[hw,here];cases o<;>cases o'<;>first|rfl|(simp[Obj.plain]at hp;done)|(simp[Obj.plain]at hp';done))
 refine⟨⟨λk o ho=>(M.obj k o ho).mono hk (.refl _) hbel (λb' hb'=>other b' (λe=>hno (by subst e;exact⟨k,o,ho,qg hb',hb'⟩))) (λ_=>rfl) rfl (λ_ _ _ h=>h),M.liveO,M.liveT,M.dist,λb' j hs=>by rw[(hk.imm b' j hs).2];exact M.imm b' j hs⟩,
  ⟨hbel,λb' _ _ hx=>other b' hx,hk,λ_ _ _ h=>.inl h,λ_ h=>.inl h,λ_ _ _ h=>h,λ_ _ b n h=>⟨b,n,h,.inl ⟨rfl,alo _⟩⟩⟩,here,other⟩
theorem Mem.extStep {S:Imm} {w:World} {ι:Ix} {H:Hp} (M:Mem S w ι H) {k:Nat} {G:GT} {pre:List PV} (h0:av H k=some (.ext G pre)) {S':Imm} {w':World} {D':Nat->Prop} {pre':List PV} (hst:vP G) (hG:G pre' D' S' w')
 (below:Bel w w') (keeps:Keeps S w S' w') (same:∀b,b<w.heap.size->¬ι.x k b->w'.heap[b]? =w.heap[b]?) (immN:∀b j,b<w.heap.size->S' b j->S b j∨ι.x k b)
 (hD:∀b,D' b->ι.x k b∨w.heap.size≤b) (hlt:∀b,D' b->b<w'.heap.size) (himm:∀b j,S' b j->(rd w' b j).isSome):
 Mem S' w' ⟨ι.o,ι.t,λk'=>if k'=k then D' else ι.x k'⟩ (aP H k (.ext G pre'))/\ι.le ⟨ι.o,ι.t,λk'=>if k'=k then D' else ι.x k'⟩/\
  ∀p,Tr p S w ι H S' w' ⟨ι.o,ι.t,λk'=>if k'=k then D' else ι.x k'⟩ (aP H k (.ext G pre')):=by
 have hle:ι.le ⟨ι.o,ι.t,λk'=>if k'=k then D' else ι.x k'⟩:=⟨λ_ _ h=>h,λ_ b n h=>⟨b,n,h,.inl ⟨rfl,alo _⟩⟩⟩;have hx:∀k',k'≠k->(if k'=k then D' else ι.x k')=ι.x k':=λk' h=>if_neg h;have hhas:∀{k' o b},k'≠k->(AO.has ⟨ι.o,ι.t,λk'=>if k'=k then D' else ι.x k'⟩ k' o b↔AO.has ι k' o b):=λ{k' o b} h=>om (ι:=ι) (ι1:=⟨ι.o,ι.t,λk'=>if k'=k then D' else ι.x k'⟩) (k:=k') (k1:=k') (o:=o) (o1:=o) rfl rfl (hx _ h) rfl rfl rfl b;have hself:∀{b},AO.has ⟨ι.o,ι.t,λk'=>if k'=k then D' else ι.x k'⟩ k (.ext G pre') b↔D' b:=λ{b}=>by simp[AO.has]
 have hother:∀k' o b,k'≠k->av H k'=some o->o.has ι k' b->b<w.heap.size/\¬ι.x k b:=λk' o b hne ho hb=>
  ⟨(M.obj k' o ho).lt hb,λh=>hne (M.dist k' k o (.ext G pre) b ho h0 hb h)⟩
 refine⟨⟨λk' o ho=>?_,λk' b hb=>?_,λk' b hb=>?_,λk1 k2 o1 o2 b h1 h2 b1 b2=>?_,himm⟩,hle,λp=>⟨below,λb hb ho=>?_,keeps,λb j hb hs=>?_,?_,λ_ _ _ h=>h,λ_ _ b n h=>⟨b,n,h,.inl ⟨rfl,alo _⟩⟩⟩⟩
 ·rw[aW]at ho
  by_cases e:k'=k
  ·subst e;simp at ho;subst ho
   exact⟨λb hb=>hlt b (by simpa using hb),hst,by simpa using hG⟩
  ·rw[if_neg e]at ho
   exact(M.obj k' o ho).mono keeps hle below (λb hb=>same b (hother k' o b e ho hb).1 (hother k' o b e ho hb).2) (λ_=>rfl) (hx k' e)
    (λb j hb hs=>(immN b j (hother k' o b e ho hb).1 hs).resolve_right (hother k' o b e ho hb).2)
 ·obtain⟨o,g1,g2⟩:=M.liveO k' b hb
  rw[aW];by_cases e:k'=k
  ·subst e;exact⟨.ext G pre',qqS,rfl⟩
  ·rw[if_neg e];exact⟨o,g1,g2⟩
 ·obtain⟨o,g1,g2⟩:=M.liveT k' b hb
  rw[aW];by_cases e:k'=k
  ·subst e;rw[h0]at g1;cases g1;simp[AO.isTok]at g2
  ·rw[if_neg e];exact⟨o,g1,g2⟩
 ·rw[aW]at h1 h2
  by_cases e1:k1=k
  ·by_cases e2:k2=k
   ·rw[e1,e2]
   ·subst e1;simp at h1;subst h1;rw[if_neg e2]at h2;rw[hhas e2]at b2;rw[hself]at b1
    obtain⟨q1,q2⟩:=hother k2 o2 b e2 h2 b2;rcases hD b b1 with h|h
    ·exact absurd h q2
    ·omega
  ·rw[if_neg e1]at h1;rw[hhas e1]at b1
   by_cases e2:k2=k
   ·subst e2;simp at h2;subst h2;rw[hself]at b2
    obtain⟨q1,q2⟩:=hother k1 o1 b e1 h1 b1;rcases hD b b2 with h|h
    ·exact absurd h q2
    ·omega
   ·rw[if_neg e2]at h2;rw[hhas e2]at b2
    exact M.dist k1 k2 o1 o2 b h1 h2 b1 b2
 ·exact same b hb (λh=>ho ⟨k,_,h0,rfl,h⟩)
 ·rcases immN b j hb hs with h|h
  ·exact .inl h
  ·exact .inr ⟨k,_,h0,rfl,h⟩
 ·rintro b ⟨k',o,h1,h2,h3⟩
  rw[aW]at h1;by_cases e:k'=k
  ·subst e;simp at h1;subst h1;rw[hself]at h3
   rcases hD b h3 with h|h
   ·exact .inl ⟨k',_,h0,rfl,h⟩
   ·exact .inr h
  ·rw[if_neg e]at h1;rw[hhas e]at h3
   exact .inl ⟨k',o,h1,h2,h3⟩
def qQ:Env->List Nat->List PV->Env
 |env,t::ts,x::xs=>qQ (env.set t x) ts xs
 |env,_,_=>env
theorem TA {S:Imm} {w:World} {ι:Ix}:∀(ts:List Nat) (xs:List PV) {env:Env} {tmps:Array Value} {vs:List Value},bH S w ι env tmps->ts.length=vs.length->xs.length=vs.length->(∀i,i<xs.length->Rep S w ι (aG xs i) (vs.getD i undef))->
 bH S w ι (qQ env ts xs) ((ts.zip vs).foldl (λt (p:Nat × Value)=>t.setIfInBounds p.1 p.2) tmps):=by
 intro ts;induction ts with
 |nil=>intro xs env tmps vs h h1 h2 h3;cases xs<;>simpa [qQ]using h
 |cons t ts ih=>
  intro xs env tmps vs h h1 h2 h3;cases vs with
  |nil=>simp at h1
  |cons v vs=>
   cases xs with
   |nil=>simp at h2
   |cons x xs=>
    simp only[qQ,List.zip_cons_cons,List.foldl_cons];refine ih xs ?_ (by simpa using h1) (by simpa using h2) (λi hi=>by have:=h3 (i+1) (by simpa using hi);simpa [aG]using this)
    have h30:Rep S w ι x v:=by have:=h3 0 qqS;simpa [aG]using this
    have:=zL (a:={tmps:=tmps,defers:=[]}) h (some t) h30;simpa [gI,Act.put]using this
def Ca:Env->Env
 | []=>[]
 |_::r=>.any::Ca r
def oO (B:Imm->World->Prop) (S0:Imm) (w0:World) (ι0:Ix) (H0:Hp) (D0 L0:Nat) (rec:LoopState->Option Code->Loop) (L:List PV) (st:Nat->Hp) (gi:Nat->Bool) (Q:Exit->Hp->Prop):GT:=λpre D S w=>
 ∃ι H sta pend,D=(λb=>owned ι0 H0 b∨owned ι H b∨b=D0∨b=L0)/\(∀k o,av H k=some o->gY S w ι k o)/\(∀k b,ι.o k=some b->∃o,av H k=some o/\o.isTok=false)/\
  (∀k x,ι.t k=some x->∃o,av H k=some o/\o.isTok=true)/\(∀k k' o o' b,av H k=some o->av H k'=some o'->o.has ι k b->o'.has ι k' b->k=k')/\
  B S w/\ι0.le ι/\Keeps S0 w0 S w/\(∀b,owned ι H b->b≠D0/\b≠L0)/\(∀b,owned ι H b->owned ι0 H0 b∨w0.heap.size≤b)/\(∀b,owned ι0 H0 b->b<w.heap.size)/\w0.heap.size≤w.heap.size/\
  w.heap[L0]? =some (.loop (rec sta pend))/\w.heap[D0]? =some (.deferred (some []))/\
  ((sta=.ready/\pend=none/\∃i,i≤L.length/\pre=L.take i/\(∀j,j<i->gi j=true)/\H=st i)∨
   (sta=.done/\∃i e c,i<L.length/\pre=L.take (i+1)/\gi i=false/\pend=some c/\((e=.ret/\c=.ret)∨∃id,e=.exit id/\c=.exit id)/\Q e H))
theorem IE {B:Imm->World->Prop} {S0:Imm} {w0:World} {ι0:Ix} {H0:Hp} {D0 L0:Nat} {rec:LoopState->Option Code->Loop} {L:List PV} {st:Nat->Hp} {gi:Nat->Bool} {Q:Exit->Hp->Prop} (hB:BOK B):
 vP (oO B S0 w0 ι0 H0 D0 L0 rec L st gi Q):=by
 rintro pre D S w S' w' hk hbel hsame hS ⟨ι,H,sta,pend,hD,hobj,hlo,hlt,hdi,hb,hle,hkeep,hne,hown,hsz,hszge,hL,hDk,hst⟩
 subst hD;refine⟨ι,H,sta,pend,rfl,λk o ho=>(hobj k o ho).mono hk (.refl _) hbel (λb hb'=>hsame b (.inr (.inl ⟨k,o,ho,qg hb',hb'⟩))) (λ_=>rfl) rfl (λb j hb' hs=>hS b j (.inr (.inl ⟨k,o,ho,qg hb',hb'⟩)) hs),hlo,hlt,hdi,
  hB _ _ _ _ hk hbel hb,hle,hkeep.trans hk,hne,hown,λb hb'=>alp (hsz b hb') hbel.size,als hszge hbel.size,(hsame _ (.inr (.inr (.inr rfl)))).trans hL,(hsame _ (.inr (.inr (.inl rfl)))).trans hDk,hst⟩
def wG (gi:Nat->Bool):List PV->Bool:=λpre=>gi (pre.length-1)
theorem oo {gi:Nat->Bool} {L:List PV} {i:Nat} (h:i<L.length):wG gi (L.take (i+1))=gi i:=by
 unfold wG;rw[amh,Nat.min_eq_left qqO];simp
section
variable {P:Program} {τ:TypeId->Option TE} {B:Imm->World->Prop} {p:Nat}
theorem IG (hB:BOK B) (hm:P.follows .mixedOrders=true) (hτ:bC P τ) {md rf CP YP} (hC:j5 P B CP) (hY:∀r,ni P r B YP)
 {S0:Imm} {w0:World} {ι0:Ix} {H0:Hp} {D0 L0:Nat} {fn:FuncId} {tmps:Array Value} {ps:Array Tmp} {assign body:Code} {db:Nat} {env:Env} {n:Nat} {L:List PV} {st:Nat->Hp} {gi:Nat->Bool} {Q:Exit->Hp->Prop}
 (hR0:bH S0 w0 ι0 env tmps) (hn:∀k b,ι0.o k=some b->k<n) (hn':∀k b,ι0.t k=some b->k<n) (hDL:D0≠L0) (hnL:¬owned ι0 H0 L0) (hnD:¬owned ι0 H0 D0) (hok1:eU assign=true) (hok2:eU body=true)
 {KN:Nat->Env->Hp->Prop} {KR:Nat->Hp->Prop} {KX:Nat->Nat->Hp->Prop} (hKN:∀i env' H',KN i env' H'->gi i=true/\Sub B n env' H' (Ca env) (st (i+1))) (hKR:∀i H',KR i H'->gi i=false/\Q .ret H') (hKX:∀i id H',KX i id H'->gi i=false/\Q (.exit id) H')
 (hb:∀i x,L[i]? =some x->(∀j,j<i->gi j=true)->∀l,ev P (some l) B n τ md rf CP YP assign n (qQ env ps.toList (P9 ps.size x)) (st i) λe env2 H2 n2=>match e with
   |.normal=>ev P (some l) B n τ md rf CP YP body n2 env2 H2 λe env' H' _=>match e with
    |.normal=>KN i env' H'
    |.ret=>KR i H'
    |.exit id=>KX i id H'
    |_=>False
   |_=>False):
 Yields P L0 ps.size (oO B S0 w0 ι0 H0 D0 L0 (λsta pe=>{state:=sta,pending:=pe,fn:=fn,tmps:=tmps,params:=ps,assign:=assign,body:=body,defers:=db}) L st gi Q) (wG gi) L:=by
 intro r B' f us vs args nn HH K h;obtain⟨rec,hrec⟩:∃rec:LoopState->Option Code->Loop,(λsta pe=>{state:=sta,pending:=pe,fn:=fn,tmps:=tmps,params:=ps,assign:=assign,body:=body,defers:=db})=rec:=⟨_,rfl⟩;rw[hrec]at h;obtain⟨⟨e1,e2,e3⟩,h⟩:=h;subst e1;subst e2;subst e3;unfold BO at h;split at h
 rotate_left
 ·exact h.elim
 rename_i as ha;rw[bN,aK,bD]at h;obtain⟨hlen,ob,hob,h⟩:=h;have hlen:=alN hlen;split at h
 rotate_left
 ·exact h.elim
 rename_i G' pre;rw[bO]at h;obtain⟨⟨hG',i,hi,hpre,hx,hgo⟩,hK⟩:=h;subst hG';refine⟨_,_,_,_,hK,λS w ι H o c a next QQ vals ho hbw M hr hacc hnew hk=>?_⟩;have h0:av H 0=some _:=(hacc 0 qqS).trans hob;obtain⟨hlt0,hst0,hG⟩:=M.obj 0 _ h0;have hGs:=hG;obtain⟨ιc,Hc,sta,pend,hD,hobj,hlo,hlt,hdi,hBc,hle,hkeep,hne,hown,hsz,hszge,hL,hDk,hstat⟩:=hG;have hready:sta=.ready/\pend=none/\(∀j,j<i->gi j=true)/\Hc=st i:=by
  rcases hstat with⟨s1,s2,i',hi',hp,hall,hH⟩|⟨s1,i',e,c',hi',hp,hgf,_⟩
  ·have:i'=i:=by
    have:=congrArg anq (hp.symm.trans hpre);simp[amh]at this;omega
   subst this;exact⟨s1,s2,hall,hH⟩
  ·have:i=i'+1:=by
    have:=congrArg anq (hpre.symm.trans hp);simp[amh]at this;omega
   have h2:=hgo i' qqO;rw[oo qqO]at h2;rw[h2]at hgf;cases hgf
 obtain⟨hs1,hs2,hall,hH⟩:=hready;subst hs1;subst hs2;have Mc:Mem S w ιc Hc:=⟨hobj,hlo,hlt,hdi,M.imm⟩;obtain⟨a1,a2⟩:=iD ha;have hA:bH S w noI (fF as) vals:=⟨(bV as).1.trans (a1.trans hr.1),λi hi=>(bV as).2 i (a2 i (by rw[(bV as).1]at hi;omega) (hr.2 i (by rw[(bV as).1]at hi;omega)))⟩
 have hxe:P9 ps.size (uw (fF as))=fF as:=by rw[<-hlen];exact Tw _
 have hbi:=hb i _ hx hall L0;rw[hxe,<-hH]at hbi;have hyl:(invoke (.fn (.yield L0) #[]) (#[]++vals)).run P w=.ok (.round L0 fn ((ps.zip vals).foldl (λtmps (t,a)=>tmps.setIfInBounds t a) tmps) assign body) w:=by
  have:=run_yield (P:=P) (args:=vals) hL (by rw[<-hrec];show vals.size=ps.size;rw[<-hA.1,hlen])
  rw[<-hrec]at this;simpa [invoke]using this
 rw[hyl,Oper.uponIn_round];refine⟨λh=>by simp[Fw,Fence.wide]at h,roundIn_of_wpIn (F:=Fw r) trivial ?_⟩
 have hle0:bH S w ιc env tmps:=hR0.mono hkeep hle;have hR1:bH S w ιc (qQ env ps.toList (fF as)) ((ps.zip vals).foldl (λtmps (t,a)=>tmps.setIfInBounds t a) tmps):=by
  have:=TA ps.toList (fF as) (vs:=vals.toList) hle0 (by simp;rw[<-hlen];exact hA.1) (by simpa using hA.1) (λi hi=>by have:=(hA.2 i hi).up ιc;simpa [alz]using this)
  rw[<-Array.foldl_toList,Array.toList_zip];exact this
 have hA1:At B n S w ιc Hc (qQ env ps.toList (fF as)) Hc {tmps:=(ps.zip vals).foldl (λtmps (t,a)=>tmps.setIfInBounds t a) tmps,defers:=[]} w:=
  ⟨S,ιc,hBc,Mc,hR1,.nil _ _ _,λd hd=>by simp at hd,.refl _ _ _ _ _⟩
 refine wpIn_mono (kr (r:=some L0) hB hm hτ hC (hY _) assign hok1 _ _ _ _ hbi _ _ _ _ _ _ hA1) ?_
 rintro e aa w1 ⟨env2,H2,⟨n2,hk2⟩,hA2⟩
 cases e with
 |normal=>
  obtain⟨S2,ι2,hb2,M2,R2,D2,D2',T2⟩:=hA2.ex;have hnoL:∀{b},(b=L0∨b=D0)->¬owned ιc Hc b:=λhb' ho=>by rcases hb' with rfl|rfl;exact(hne _ ho).2 rfl;exact(hne _ ho).1 rfl
  have hltL:=lt_of_heap hL;have hltD:=lt_of_heap hDk;have hL2:w1.heap[L0]? =some (.loop (rec .ready none)):=(T2.same _ hltL (hnoL (.inl rfl))).trans hL;have hD2:w1.heap[D0]? =some (.deferred (some [])):=(T2.same _ hltD (hnoL (.inr rfl))).trans hDk;have hno2:∀{b},(b=L0∨b=D0)->¬owned ι2 H2 b:=λ{b} hb' ho=>by
   rcases T2.own b ho with h|h
   ·exact hnoL hb' h
   ·rcases hb' with rfl|rfl<;>omega
  refine⟨_,run_beginRound hL2 (by rw[<-hrec]),?_⟩
  obtain⟨M3,TX3,hL3,hO3⟩:=M2.aside (o':=.loop {rec .ready none with state:=.busy}) hL2 rfl rfl (hno2 (.inl rfl)) n;obtain⟨Mw,TXw,hLw,hOw⟩:=Mc.aside (o':=.loop {rec .ready none with state:=.busy}) hL rfl rfl (hnoL (.inl rfl)) n;have hD3:=(hO3 D0 hDL).trans hD2;have hszw:(w.putObj L0 (.loop {rec .ready none with state:=.busy})).heap.size=w.heap.size:=qqS;have hrdw:∀b j,rd (w.putObj L0 (.loop {rec .ready none with state:=.busy})) b j=rd w b j:=λb j=>by
   by_cases e:b=L0
   ·subst e;rw[jf hLw rfl,jf hL rfl]
   ·exact dH (hOw b e) j
  have hrd3:∀b j,rd (w1.putObj L0 (.loop {rec .ready none with state:=.busy})) b j=rd w1 b j:=λb j=>by
   by_cases e:b=L0
   ·subst e;rw[jf hL3 rfl,jf hL2 rfl]
   ·exact dH (hO3 b e) j
  have TB:Tr n S (w.putObj L0 (.loop {rec .ready none with state:=.busy})) ιc Hc S2 (w1.putObj L0 (.loop {rec .ready none with state:=.busy})) ι2 H2:=by
   refine⟨⟨T2.below.os,T2.below.tape,T2.below.output,by simpa using T2.below.size,λb hb'=>?_⟩,λb hb' ho=>?_,⟨λb j hs=>⟨(T2.keeps.imm b j hs).1,?_⟩,λb j hs=>?_⟩,λb j hb' hs=>T2.immN b j qqO hs,λb ho=>by rw[hszw];exact T2.own b ho,T2.protO,T2.protT⟩
   ·by_cases e:b=L0
    ·subst e;unfold bsz;rw[hL3,hLw]
    ·exact(gM (hO3 b e)).trans ((T2.below.len b qqO).trans (gM (hOw b e)).symm)
   ·by_cases e:b=L0
    ·subst e;exact hL3.trans hLw.symm
    ·exact(hO3 b e).trans ((T2.same b qqO ho).trans (hOw b e).symm)
   ·rw[hrdw,hrd3];exact(T2.keeps.imm b j hs).2
   ·rw[hrdw]at hs;rw[hrd3];exact T2.keeps.cells b j hs
  have hA3:At B n S (w.putObj L0 (.loop {rec .ready none with state:=.busy})) ιc Hc env2 H2 aa (w1.putObj L0 (.loop {rec .ready none with state:=.busy})):=
   ⟨S2,ι2,hB _ _ _ _ TX3.keeps TX3.below hb2,M3,R2.mono TX3.keeps (.refl _),⟨λd hd=>by
    obtain⟨b,h1,h2,h3⟩:=D2.all d hd;refine⟨b,h1,?_,h3⟩;rw[hO3 b (λe=>by rw[e,hL2]at h2;cases h2)];exact h2,D2.nodup⟩,λd hd b hb=>by rw[hszw];exact D2' d hd b hb,TB⟩
  refine wpIn_mono (kr (r:=some L0) hB hm hτ hC (hY _) body hok2 _ _ _ _ hk2 _ _ _ _ _ _ hA3) ?_
  rintro e a3 w3 ⟨env',H',⟨n3,hk3⟩,hA4⟩
  have fin:∀(jump:Option Code) (env4:Env) (H4:Hp),At B n S (w.putObj L0 (.loop {rec .ready none with state:=.busy})) ιc Hc env4 H4 a3 w3->wG gi (pre++[uw (fF as)])=jump.isNone->
   ((jump=none/\gi i=true/\H4=st (i+1))∨(∃e c,gi i=false/\jump=some c/\((e=.ret/\c=.ret)∨∃id,e=.exit id/\c=.exit id)/\Q e H4))->
   ∃v w',(Instr.endRound L0 jump).run P w3=.ok v w'/\next (a.put o.dst v) w':=by
   intro jump env4 H4 hA5 hgo5 hst5;obtain⟨S5,ι5,hb5,M5,R5,D5,D5',T5⟩:=hA5.ex;have hL5:w3.heap[L0]? =some (.loop {rec .ready none with state:=.busy}):=(T5.same _ qqO (hnoL (.inl rfl))).trans hLw;have hD5:w3.heap[D0]? =some (.deferred (some [])):=(T5.same _ qqO (hnoL (.inr rfl))).trans ((hOw D0 hDL).trans hDk);have hno5:∀{b},(b=L0∨b=D0)->¬owned ι5 H4 b:=λ{b} hb' ho=>by
    rcases T5.own b ho with h|h
    ·exact hnoL hb' h
    ·rcases hb' with rfl|rfl<;>omega
   obtain⟨M6,TX6,hL6,hO6⟩:=M5.aside (o':=.loop (rec (if jump.isNone then .ready else .done) jump)) hL5 rfl rfl (hno5 (.inl rfl)) n;have TT:=(TXw.trans T5.toX).trans TX6;have hpre':pre++[uw (fF as)]=L.take (i+1):=by rw[hpre];exact mG hx
   have hlt':∀b,(owned ι0 H0 b∨owned ι5 H4 b∨b=D0∨b=L0)->b<(w3.putObj L0 (.loop (rec (if jump.isNone then .ready else .done) jump))).heap.size:=by
    rintro b (h|⟨k,o,h1,h2,h3⟩|rfl|rfl)
    ·exact alp (hsz b h) TT.below.size
    ·exact(M6.obj k o h1).lt h3
    ·exact alp hltD TT.below.size
    ·exact alp hltL TT.below.size
   have hG6:oO B S0 w0 ι0 H0 D0 L0 rec L st gi Q (pre++[uw (fF as)]) (λb=>owned ι0 H0 b∨owned ι5 H4 b∨b=D0∨b=L0) S5 (w3.putObj L0 (.loop (rec (if jump.isNone then .ready else .done) jump))):=by
    refine⟨ι5,H4,_,_,rfl,M6.obj,M6.liveO,M6.liveT,M6.dist,hB _ _ _ _ TX6.keeps TX6.below hb5,⟨λk b hkb=>TT.protO k (hn k b hkb) b (hle.o k b hkb),λk b m hkb=>?_⟩,hkeep.trans TT.keeps,
     λb ho=>⟨λe=>hno5 (.inr e) ho,λe=>hno5 (.inl e) ho⟩,λb ho=>?_,λb ho=>hlt' b (.inl ho),als hszge TT.below.size,hL6,(hO6 D0 hDL).trans hD5,?_⟩
    ·obtain⟨b',m',q1,q2⟩:=hle.t k b m hkb
     obtain⟨b2,m2,q3,q4⟩:=TT.protT k (hn' k _ hkb) b' m' q1;refine⟨b2,m2,q3,?_⟩;rcases q2 with⟨rfl,q2⟩|q2
     ·rcases q4 with⟨rfl,q4⟩|q4
      ·exact .inl ⟨rfl,qqO⟩
      ·exact .inr qqO
     ·rcases q4 with⟨rfl,q4⟩|q4
      ·exact .inr qqO
      ·exact .inr qqO
    ·rcases TT.own b ho with h|h
     ·exact hown b h
     ·exact .inr (als hszge h)
    ·rcases hst5 with⟨rfl,g1,g2⟩|⟨e,c,g1,rfl,g2,g3⟩
     ·refine .inl ⟨rfl,rfl,i+1,qqO,hpre',λj hj=>?_,g2⟩
      by_cases e:j=i
      ·rw[e];exact g1
      ·exact hall j qqO
     ·exact .inr ⟨rfl,i,e,c,hi,hpre',g1,rfl,g2,g3⟩
   have hxD:ι.x 0=λb=>owned ι0 H0 b∨owned ιc Hc b∨b=D0∨b=L0:=hD;obtain⟨M7,L7,T7⟩:=M.extStep (k:=0) h0 hst0 hG6 TT.below TT.keeps
    (λb hb' hno=>TT.same b hb' (λho=>hno (by rw[hxD];exact .inr (.inl ho))) (λe=>hno (by rw[hxD];exact .inr (.inr (.inr e)))))
    (λb j hb' hs=>(TT.immN b j hb' hs).imp id (λho=>by rw[hxD];exact .inr (.inl ho)))
    (λb hb'=>by
      rw[hxD];rcases hb' with h|h|h|h
      ·exact .inl (.inl h)
      ·rcases TT.own b h with h|h
       ·exact .inl (.inr (.inl h))
       ·exact .inr h
      ·exact .inl (.inr (.inr (.inl h)))
      ·exact .inl (.inr (.inr (.inr h)))) hlt' M6.imm
   have hend:(Instr.endRound L0 jump).run P w3=.ok (.bool jump.isNone) (w3.putObj L0 (.loop (rec (if jump.isNone then .ready else .done) jump))):=by
    have:=run_endRound (P:=P) jump hL5;rw[<-hrec]at this⊢;exact this
   refine⟨_,_,hend,?_⟩;refine hk _ S5 _ _ M7 L7 TT.keeps ?_ T7;rw[hgo5];exact .bp _ _
  cases e with
  |normal=>
   obtain⟨g1,g2⟩:=hKN _ _ _ hk3;have hgo6:wG gi (pre++[uw (fF as)])=true:=by rw[hpre,mG hx,oo hi];exact g1
   exact fin none _ _ (g2 _ _ _ _ _ _ hA4) hgo6 (.inl ⟨rfl,g1,rfl⟩)
  |ret=>
   obtain⟨g1,g2⟩:=hKR _ _ hk3;have hgo6:wG gi (pre++[uw (fF as)])=false:=by rw[hpre,mG hx,oo hi];exact g1
   exact fin (some .ret) _ _ hA4 hgo6 (.inr ⟨.ret,.ret,g1,rfl,.inl ⟨rfl,rfl⟩,g2⟩)
  |exit id=>
   obtain⟨g1,g2⟩:=hKX _ _ _ hk3;have hgo6:wG gi (pre++[uw (fF as)])=false:=by rw[hpre,mG hx,oo hi];exact g1
   exact fin (some (.exit id)) _ _ hA4 hgo6 (.inr ⟨.exit id,.exit id,g1,rfl,.inr ⟨id,rfl,rfl⟩,g2⟩)
  |_=>exact hk3.elim
 |_=>exact hk2.elim
theorem MF:∀{H:Hp} {k:Nat} {o:AO},av H k=some o->k<H.length:=by
 intro H;induction H with
 |nil=>intro k o h;simp[av]at h
 |cons x H ih=>
  intro k o h;cases k with
  |zero=>simp
  |succ k=>have:=ih (k:=k) (o:=o) (by simpa [av]using h);simp;omega
theorem Mem.push {S:Imm} {w:World} {ι:Ix} {H:Hp} (M:Mem S w ι H) (o:Obj) (hp:Obj.plain o=true):
 Mem S (w.alloc o) ι H/\Keeps S w S (w.alloc o)/\Bel w (w.alloc o)/\(w.alloc o).heap[w.heap.size]? =some o/\(w.alloc o).heap.size=w.heap.size+1/\∀b,b<w.heap.size->(w.alloc o).heap[b]? =w.heap[b]? :=by
 have hk:Keeps S w S (w.alloc o):=kG M.imm (w:=w) o;have hbel:Bel w (w.alloc o):=iW _ _ (iq hp);have old:∀b,b<w.heap.size->(w.alloc o).heap[b]? =w.heap[b]? :=λb hb=>iQ hb;exact⟨⟨λk ob ho=>(M.obj k ob ho).mono hk (.refl _) hbel (λb hb=>old b ((M.obj k ob ho).lt hb)) (λ_=>rfl) rfl (λ_ _ _ h=>h),M.liveO,M.liveT,M.dist,λb j hs=>by rw[(hk.imm b j hs).2];exact M.imm b j hs⟩,
  hk,hbel,gV _ _,qqS,old⟩
theorem zN (hB:BOK B) (hm:P.follows .mixedOrders=true) (hτ:bC P τ) {md rf CP YP} (hC:j5 P B CP) (hY:∀r,ni P r B YP)
 {g:Operand} {ps:Array Tmp} {assign body:Code} {n:Nat} {Q:Exit->Env->Hp->Prop} {env:Env} {H:Hp} {gf:Nat} {fs0 cs0 fs cs:List PV} (L:List PV) (gi:Nat->Bool) (hs:Nat->List (Nat × AO))
 (hg:eo env g=.fn (.func gf) fs0 cs0) (hfs:jP fs0=some fs) (hcs:jP cs0=some cs) (hI:Qa P gf (fF fs) (fF cs) ps.size L)
 (hok1:eU assign=true) (hok2:eU body=true) (hlen:alJ H.length n=true) (hp:alJ p n=true)
 (h0:iA (hs 0) H λH1=>iE (lH [] H 0 H1) λσ=>oI σ n env H (Ca env) H1 Ok)
 (hend:(∀j,j<L.length->gi j=true)->iA (hs L.length) H λH1=>Q .normal env H1)
 (hb:∀i x,L[i]? =some x->(∀j,j<i->gi j=true)->∀l,iA (hs i) H λH1=>cB (qQ env ps.toList (P9 ps.size x)) λenv1=>ev P (some l) B n τ md rf CP YP assign n env1 H1 λe env2 H2 n2=>match e with
   |.normal=>ev P (some l) B n τ md rf CP YP body n2 env2 H2 λe env' H' _=>match e with
    |.normal=>Nx (∃extra:Sg,gi i=true/\iA (hs (i+1)) H λH1=>iE (lH extra H' 0 H1) λσ=>oI σ n env' H' (Ca env) H1 Ok)
    |.ret=>VC (gi i=false)/\Q .ret env H'
    |.exit id=>VC (gi i=false)/\Q (.exit id) env H'
    |_=>False
   |_=>False):Lp md rf CP YP n (AW P none B p (.rangeFunc g ps assign body) Q env H):=by
 refine⟨λS0 w0 ι0 H0 a w hA=>?_⟩;have hlen:=alU hlen;have hp:=alU hp;obtain⟨S,ι,hbw,M,R,D,D',T⟩:=hA.ex;have hn:∀k b,ι.o k=some b->k<n:=λk b h=>by obtain⟨o,h1,_⟩:=M.liveO k b h;have:=MF h1;omega
 have hn':∀k b,ι.t k=some b->k<n:=λk b h=>by obtain⟨o,h1,_⟩:=M.liveT k b h;have:=MF h1;omega
 simp only[iV,jo]at h0;have hAs:At B n S w ι H env H {tmps:=a.tmps,defers:=[]} w:=⟨S,ι,hbw,M,R,.nil _ _ _,λd hd=>by simp at hd,.refl _ _ _ _ _⟩
 obtain⟨S1,ι1,hb1,M1,R1,_,_,T1⟩:=((jH (B:=B) h0).2 _ _ _ _ _ _ hAs).ex;refine wpIn_rangeFunc λfn hfn=>?_;obtain⟨rec,hrec⟩:∃rec:LoopState->Option Code->Loop,(λsta pe=>{state:=sta,pending:=pe,fn:=fn,tmps:=a.tmps,params:=ps,assign:=assign,body:=body,defers:=w.heap.size})=rec:=⟨_,rfl⟩;obtain⟨Ma,Ka,Ba,ha1,ha2,ha3⟩:=M1.push (.deferred (some [])) rfl;obtain⟨Mb,Kb,Bb,hb1',hb2',hb3'⟩:=Ma.push (.loop (rec .ready none)) rfl;obtain⟨W1,hW1⟩:∃W1,(w.alloc (.deferred (some []))).alloc (.loop (rec .ready none))=W1:=⟨_,rfl⟩;rw[hW1]at Mb Kb Bb hb1' hb2' hb3';rw[ha2]at hb1' hb2' hb3';have hD1:W1.heap[w.heap.size]? =some (.deferred (some [])):=(hb3' _ qqO).trans ha1;have hold:∀b,b<w.heap.size->W1.heap[b]? =w.heap[b]? :=λb hb=>(hb3' b qqO).trans (ha3 b hb);have hK1:Keeps S w S1 W1:=T1.keeps.trans (Ka.trans Kb);have hBel1:Bel w W1:=Ba.trans Bb;have hnoH:∀b,owned ι H b->b<w.heap.size:=by rintro b ⟨k,o,h1,_,h3⟩;exact(M.obj k o h1).lt h3
 have hno1:∀b,owned ι1 (bE H (hs 0)) b->b<w.heap.size:=by rintro b ⟨k,o,h1,_,h3⟩;exact(M1.obj k o h1).lt h3
 have hgv:=o8 R g (λx e=>by subst e;simp only[eo]at hg;cases hh:xQ x<;>rw[hh]at hg<;>cases hg)
 rw[hg]at hgv;generalize hev:a.eval g=gv at hgv
 cases hgv with
 |fn _ _ _ _ us vs hk hl hu hvs=>
  have hle1:ι.le ι1:=⟨λk b h=>T1.protO k (hn k b h) b h,λk b m h=>T1.protT k (hn' k _ h) b m h⟩;have hGs:=IE (S0:=S) (w0:=w) (ι0:=ι) (H0:=H) (D0:=w.heap.size) (L0:=w.heap.size+1) (rec:=rec) (L:=L) (st:=λi=>bE H (hs i)) (gi:=gi) (Q:=λe H'=>Q e env H') hB;have hYi:Yields P (w.heap.size+1) ps.size (oO B S w ι H w.heap.size (w.heap.size+1) rec L (λi=>bE H (hs i)) gi (λe H'=>Q e env H')) (wG gi) L:=by
   rw[<-hrec];refine IG hB hm hτ hC hY (md:=md) (rf:=rf) R hn (λk b h=>hn' k b h) qqO (λh=>by have:=hnoH _ h;omega) (λh=>by have:=hnoH _ h;omega) hok1 hok2
    (KN:=λi env' H'=>Nx (∃extra:Sg,gi i=true/\iA (hs (i+1)) H λH1=>iE (lH extra H' 0 H1) λσ=>oI σ n env' H' (Ca env) H1 Ok)) (KR:=λi H'=>VC (gi i=false)/\Q .ret env H') (KX:=λi id H'=>VC (gi i=false)/\Q (.exit id) env H')
    (λi env' H' h=>?_) (λi H' h=>⟨h.1.get,h.2⟩) (λi id H' h=>⟨h.1.get,h.2⟩) λi x hx hall l=>?_
   ·obtain⟨extra,h1,h2⟩:=h.get
    simp only[iV,jo]at h2;exact⟨h1,(jH h2).2⟩
   ·have:=hb i x hx hall l
    rw[iV,bN]at this;exact this
  have hG0:oO B S w ι H w.heap.size (w.heap.size+1) rec L (λi=>bE H (hs i)) gi (λe H'=>Q e env H') [] (λb=>owned ι H b∨owned ι1 (bE H (hs 0)) b∨b=w.heap.size∨b=w.heap.size+1) S1 W1:=
   ⟨ι1,bE H (hs 0),.ready,none,rfl,Mb.obj,Mb.liveO,Mb.liveT,Mb.dist,hB _ _ _ _ (Ka.trans Kb) hBel1 hb1,hle1,hK1,λb h=>by have:=hno1 b h;omega,T1.own,λb h=>by have:=hnoH b h;omega,qqO,hb1',hD1,
    .inl ⟨rfl,rfl,0,aml _,qqS,λj hj=>qqO,rfl⟩⟩
  let ιi:Ix:=⟨λ_=>none,λ_=>none,λk b=>k=0/\(owned ι H b∨owned ι1 (bE H (hs 0)) b∨b=w.heap.size∨b=w.heap.size+1)⟩
  have hxi:ιi.x 0=λb=>owned ι H b∨owned ι1 (bE H (hs 0)) b∨b=w.heap.size∨b=w.heap.size+1:=by funext b;simp[ιi]
  have Mi:Mem S1 W1 ιi (dz [.ext (oO B S w ι H w.heap.size (w.heap.size+1) rec L (λi=>bE H (hs i)) gi (λe H'=>Q e env H')) []]):=by
   have only:∀{k o},av (dz [.ext (oO B S w ι H w.heap.size (w.heap.size+1) rec L (λi=>bE H (hs i)) gi (λe H'=>Q e env H')) []]) k=some o->k=0/\o=.ext (oO B S w ι H w.heap.size (w.heap.size+1) rec L (λi=>bE H (hs i)) gi (λe H'=>Q e env H')) []:=by
    intro k o h;rw[gG]at h;cases k with
    |zero=>simp at h;exact⟨rfl,h.symm⟩
    |succ k=>simp at h
   refine⟨λk o h=>?_,λk b h=>by simp[ιi]at h,λk b h=>by simp[ιi]at h,λk k' o o' b h h' _ _=>by rw[(only h).1,(only h').1],Mb.imm⟩
   obtain⟨rfl,rfl⟩:=only h;refine⟨λb hb=>?_,hGs,by rw[hxi];exact hG0⟩
   rw[hxi]at hb;rcases hb with h|h|h|h
   ·have:=hnoH b h;omega
   ·have:=hno1 b h;omega
   ·omega
   ·omega
  obtain⟨f1,f2⟩:=iD hfs;obtain⟨c1,c2⟩:=iD hcs;have hAi:bH S1 W1 ιi (fF fs++[.fv (.yield (w.heap.size+1)) #[] #[]]++fF cs) (us++ #[.func (.yield (w.heap.size+1)) #[] #[]]++vs):=by
   refine gK (gK ⟨(bV fs).1.trans (f1.trans hk),λi hi=>?_⟩ ⟨rfl,λi hi=>?_⟩) ⟨(bV cs).1.trans (c1.trans hl),λi hi=>?_⟩
   ·rw[(bV fs).1]at hi
    exact Rep.up (((bV fs).2 i (f2 i qqO (hu i qqO))).mono hK1 _ (.refl _)) _
   ·have:i=0:=by simp at hi;omega
    subst this;exact .fv _ _ _ _
   ·rw[(bV cs).1]at hi
    exact Rep.up (((bV cs).2 i (c2 i qqO (hvs i qqO))).mono hK1 _ (.refl _)) _
  refine⟨w.heap.size+1,[{target:=.collected w.heap.size,args:= #[]}],W1,{target:=.fn (.func gf) vs,args:=us++ #[.func (.yield (w.heap.size+1)) #[] #[]]},W1,gf,us++ #[.func (.yield (w.heap.size+1)) #[] #[]]++vs,W1,?_,?_,?_,?_,λh=>by simp[Fw,Fence.wide]at h,?_⟩
  ·rw[<-hW1,<-hrec];exact run_enterLoop_outer _ _ _ _ _
  ·simp only[resolve,hev,Deferred.ofValue,Sem.run_bind,Sem.run_pure,Result.andThen]
   simp[go_sem]
  ·intro f' _;trivial
  ·simp only[invoke,Sem.run_bind,Sem.run_pure,Result.andThen]
   exact hI.1 _ _
  ·refine CallsIn.mono (hI.2 _ _ _ hYi S1 W1 ιi _ (oV hK1 hBel1 (hB.glob _ _ hbw)) Mi hAi) ?_
   rintro e w5 ⟨val,S5,ι5,rfl,M5,R5,T5⟩
   obtain⟨_,_,hG5⟩:=M5.obj 0 _ (by rw[gG];rfl)
   obtain⟨ιc,Hc,sta,pend,hD5,hobj,hlo,hlt,hdi,hBc,hle,hkeep,hne,hown,hsz,hszge,hL,hDk,hstat⟩:=hG5;have Mc:Mem S5 w5 ιc Hc:=⟨hobj,hlo,hlt,hdi,M5.imm⟩;have hst':sta≠ .busy:=by rcases hstat with⟨h,_⟩|⟨h,_⟩<;>rw[h]<;>simp
   have hend':(Instr.endLoop (w.heap.size+1)).run P w5=.ok pend (w5.putObj (w.heap.size+1) (.loop {rec sta pend with state:=.exhausted})):=by
    have:=run_endLoop (P:=P) hL (by rw[<-hrec];exact hst')
    rw[<-hrec]at this⊢;exact this
   obtain⟨M6,TX6,hL6,hO6⟩:=Mc.aside (o':=.loop {rec sta pend with state:=.exhausted}) hL rfl rfl (λh=>(hne _ h).2 rfl) p;have hDi:∀b,b<w.heap.size->owned ιi (dz [.ext (oO B S w ι H w.heap.size (w.heap.size+1) rec L (λi=>bE H (hs i)) gi (λe H'=>Q e env H')) []]) b->owned ι H b:=by
    rintro b hbl ⟨k,o,h1,_,h3⟩
    rw[gG]at h1;cases k with
    |succ k=>simp at h1
    |zero=>
     simp at h1;subst h1;have h3:ιi.x 0 b:=h3;rw[hxi]at h3;rcases h3 with h|h|h|h
     ·exact h
     ·rcases T1.own b h with h|h
      ·exact h
      ·omega
     ·omega
     ·omega
   have TF:Tr p S w ι H S5 (w5.putObj (w.heap.size+1) (.loop {rec sta pend with state:=.exhausted})) ιc Hc:=by
    refine⟨hBel1.trans (T5.below.trans TX6.below),λb hbl ho=>?_,hkeep.trans TX6.keeps,λb j hbl hs=>?_,hown,λk hk b hkb=>hle.o k b hkb,λk hk b m hkb=>hle.t k b m hkb⟩
    ·rw[hO6 b qqO,T5.same b qqO (λh=>ho (hDi b hbl h)),hold b hbl]
    ·rcases T5.immN b j qqO hs with h|h
     ·exact T1.immN b j hbl h
     ·exact .inr (hDi b hbl h)
   have hAt:At B p S0 w0 ι0 H0 env Hc {a with defers:=[{target:=.collected w.heap.size,args:= #[]}]++a.defers} (w5.putObj (w.heap.size+1) (.loop {rec sta pend with state:=.exhausted})):=by
    refine⟨S5,ιc,hB _ _ _ _ TX6.keeps TX6.below hBc,M6,R.mono (hkeep.trans TX6.keeps) hle,⟨λd hd=>?_,?_⟩,λd hd b hb=>?_,T.trans TF⟩
    ·rcases am2.1 hd with rfl|hd
     ·exact⟨w.heap.size,rfl,(hO6 _ qqO).trans hDk,λh=>(hne _ h).1 rfl⟩
     ·exact(D.tr TF).all d hd
    ·refine am3.2 ⟨λd hd b b' h1 h2 e=>?_,D.nodup⟩
     obtain⟨b2,q1,q2,q3⟩:=D.all d hd;rw[q1]at h2;cases h2;cases h1
     have:=lt_of_heap q2;omega
    ·rcases am2.1 hd with rfl|hd
     ·cases hb;exact T.below.size
     ·exact D' d hd b hb
   refine⟨pend,_,hend',?_⟩;rcases hstat with⟨s1,rfl,i,hi,hpre,hall,hH⟩|⟨s1,i,e,c,hi,hpre,hgf,rfl,hec,hQ⟩
   ·have:i=L.length:=Tz hi (λj hj=>by rw[oo qqO];exact hall j hj) hpre
    subst this;have:=hend hall;rw[iV]at this;exact⟨env,Hc,by rw[hH];exact this,hAt⟩
   ·rcases hec with⟨rfl,rfl⟩|⟨id,rfl,rfl⟩
    ·exact wpIn_ret ⟨env,Hc,hQ,hAt⟩
    ·exact wpIn_exit ⟨env,Hc,hQ,hAt⟩
end
variable {P:Program} {τ:TypeId->Option TE}
theorem TD {B:Imm->World->Prop} (hB:BOK B) (hm:P.follows .mixedOrders=true) (hτ:bC P τ) {md rf CP YP} (hC:j5 P B CP) (hY:ni P none B YP) {g:FuncId} {fn:Func} {args rs:List PV} {objs objs':List AO} (n0:Nat) (extra:Sg)
 (hf:P.funcs[g]? =some fn) (hb:fn.body.isSome=true) (hok:eU (fn.body.getD .skip)=true)
 (h:wF P B τ md rf CP YP fn args objs n0 extra rs objs'):BS P B g args objs rs objs':=by
 obtain⟨c,hc⟩:=alB.1 hb;unfold wF at h;rw[hc]at h hok;exact zw hB hτ hf hc ((kr hB hm hτ hC hY c hok _ _ _ _ h).mono λe env H ⟨n,h⟩=>h)
theorem enters' {g:FuncId} {fn:Func} (hf:P.funcs[g]? =some fn) (hn:(fn.name== "runtime.NumGoroutine")=false) (hb:fn.body.isSome=true):Enters P g:=enters hf hn (by cases h:fn.body<;>simp_all)
theorem XE (hm:P.follows .mixedOrders=true) (hτ:bC P τ) {g:FuncId} {fn:Func} {fs cs L:List PV} {m:Nat} {md:Nat} {rf:List Nat}
 (hf:P.funcs[g]? =some fn) (hn:(fn.name== "runtime.NumGoroutine")=false) (hb:fn.body.isSome=true) (hok:eU (fn.body.getD .skip)=true)
 (h:∀(G:GT) (go:List PV->Bool) (b:Nat),Yields P b m G go L->∃CP,aZ P CP/\wF P rA τ md rf CP (XD b m G go L) fn (fs++[.fv (.yield b) #[] #[]]++cs) [.ext G []] 1 [] [] [.ext G (mF go [] L)]):Qa P g fs cs m L:=
 ⟨enters' hf hn hb,λG go b hY=>by
  obtain⟨CP,hC,h⟩:=h G go b hY;exact TD aH hm hτ hC (hY _ _) 1 [] hf hb hok h⟩
def Qb (c:CL) (K:CL->Prop):Prop:=
 match c with
 |.pv cs=>match rP .i64 cs with
  |some l=>K (.ints .i64 l)
  |none=>match mX cs with
   |some l=>K (.bools l)
   |none=>False
 |.ints k xs=>K (.ints k xs)
 |.bools xs=>K (.bools xs)
 |.strs xs=>K (.strs xs)
 |.rows k xs=>K (.rows k xs)
 |_=>False
theorem LC {c:CL} {K:CL->Prop} (h:Qb c K):∃d,K d/\d.esz=1/\d.ncell=c.ncell/\d.cnt=d.ncell/\∀j,j<c.ncell->∀{S:Imm} {w:World} {ι:Ix} {v:Value},Rep S w ι (c.get j) v->Rep S w noI (d.get j) v:=by
 unfold Qb at h;split at h
 ·split at h
  ·rename_i l hl
   obtain⟨h1,h2⟩:=vV hl;exact⟨_,h,rfl,h1,rfl,λj hj S w ι v hr=>h2 j hj hr⟩
  ·split at h
   ·rename_i l hl
    obtain⟨h1,h2⟩:=vK hl;exact⟨_,h,rfl,h1,rfl,λj hj S w ι v hr=>h2 j hj hr⟩
   ·exact h.elim
 ·exact⟨_,h,rfl,rfl,rfl,λj hj S w ι v hr=>by cases hr;exact .int _ _ _⟩
 ·exact⟨_,h,rfl,rfl,rfl,λj hj S w ι v hr=>by cases hr;exact .bp _ _⟩
 ·exact⟨_,h,rfl,rfl,rfl,λj hj S w ι v hr=>by cases hr;exact .str _ _⟩
 ·exact⟨_,h,rfl,rfl,rfl,λj hj S w ι v hr=>hr.toNoI⟩
 ·exact h.elim
def qw:List PV->List PV
 | []=>[]
 |x::xs=>(match iL x with|some y=>y|none=>.any)::qw xs
theorem II:∀{ds:List PV},(qw ds).length=ds.length/\∀i {S:Imm} {w:World} {ι:Ix} {v:Value},Rep S w ι (aG ds i) v->Rep S w noI (aG (qw ds) i) v:=by
 intro ds;induction ds with
 |nil=>exact⟨rfl,λi S w ι v h=>.any _ _⟩
 |cons x xs ih=>
  refine⟨by simp[qw,ih.1],λi S w ι v h=>?_⟩
  cases i with
  |succ i=>exact ih.2 i h
  |zero=>
   simp only[qw,aG]at h⊢;split
   ·rename_i y hy;exact jE hy h
   ·exact .any _ _
def Qc (H:Hp) (p:PV) (K:PV->List Nat->Prop):Prop:=
 match p with
 |.rsl k off n=>bR H k λo=>match o with
  |.cells c fz=>Qb c λd=>gH d λdn=>off+n≤dn/\K (.isl (d.sub off (off+n)) .none) [k]
  |_=>False
 |.rp k off=>bR H k λo=>match o with
  |.cells c fz=>match c with
   |.pv ds=>cB (qw ds) λus=>K (.ip (.pv us) off) [k]
   |_=>False
  |_=>False
 |p=>match BK p with
  |some q=>K q []
  |none=>False
def IJ (H:Hp):List PV->(List PV->List Nat->Prop)->Prop
 | [],K=>K [] []
 |p::r,K=>Qc H p λq a=>IJ H r λqs as=>K (q::qs) (a++as)
def rE (S:Imm) (ι:Ix) (H:Hp):Imm:=λb j=>S b j∨∃k c fz,av H k=some (.cells c fz)/\ι.o k=some b/\j<c.ncell
theorem oP {S:Imm} {w:World} {ι:Ix} {H:Hp}:Keeps S w (rE S ι H) w:=⟨λb j h=>⟨.inl h,rfl⟩,λb j h=>h⟩
theorem XF {S:Imm} {w:World} {ι:Ix} {H:Hp} (M:Mem S w ι H) (b j:Nat) (h:rE S ι H b j):(rd w b j).isSome:=by
 rcases h with h|⟨k,c,fz,h1,h2,h3⟩
 ·exact M.imm b j h
 ·have:=(M.lies h1 h2 j h3).1;simpa using this
theorem LD {H:Hp} {p:PV} {K:PV->List Nat->Prop} (h:Qc H p K):∃q a,K q a/\∀{S:Imm} {w:World} {ι:Ix} {H':Hp} {v:Value},Mem S w ι H'->(∀k∈a,av H' k=av H k)->Rep S w ι p v->Rep (rE S ι H') w noI q v:=by
 unfold Qc at h;split at h
 ·rename_i k off n
  rw[bD]at h;obtain⟨ob,hob,h⟩:=h;split at h
  ·rename_i c fz
   obtain⟨d,h,d1,d2,d3,d4⟩:=LC h;rw[dM]at h;obtain⟨hn,h⟩:=h;refine⟨_,_,h,λ{S w ι H' v} M ha hr=>?_⟩;have hob':av H' k=some (.cells c fz):=(ha k qqS).trans hob;have conv:∀b,ι.o k=some b->∀j,j<d.ncell->rE S ι H' b (0+j)/\Rep (rE S ι H') w noI (d.get j) (rdv w b (0+j)):=λb hb j hj=>
    ⟨.inr ⟨k,c,fz,hob',hb,qqO⟩,(d4 j qqO (M.lies hob' hb j qqO).2).mono oP _ (.refl _)⟩
   cases hr with
   |rsl _ _ _ _ b cap hk hc _=>
    have:=o7 (S:=rE S ι H') (w:=w) (c:=d) (b:=b) (off:=0) (λj hj=>(conv b hk j hj).1) (λj hj=>(conv b hk j hj).2) (x:=off) (y:=off+n) qqO hn (cap:=cap) qqO noI
    rw[d1]at this;simpa using this
   |rslz _ _ _ b o hk=>exact lN _ (by rw[jU _ hn];omega) (.inr ⟨b,o,rfl⟩) noI
  ·exact h.elim
 ·rename_i k off
  rw[bD]at h;obtain⟨ob,hob,h⟩:=h;split at h
  ·rename_i c fz
   split at h
   ·rename_i ds
    rw[bN]at h;refine⟨_,_,h,λ{S w ι H' v} M ha hr=>?_⟩;have hob':av H' k=some (.cells (.pv ds) fz):=(ha k qqS).trans hob;obtain⟨e1,e2⟩:=II (ds:=ds);cases hr with
    |rp _ _ _ b hk=>
     have:=Rep.ip (S:=rE S ι H') (w:=w) noI (.pv (qw ds)) off b 0
      (λj hj=>.inr ⟨k,.pv ds,fz,hob',hk,by simp only[CL.ncell]at hj⊢;omega⟩)
      (λj hj=>by
        have hj':j<ds.length:=by simp only[CL.ncell]at hj;omega
        exact(e2 j (M.lies hob' hk j (by simpa [CL.ncell]using hj')).2).mono oP _ (.refl _))
     simpa using this
   ·exact h.elim
  ·exact h.elim
 ·split at h
  ·rename_i q hq
   exact⟨_,_,h,λ{S w ι H' v} M ha hr=>(rD hq hr).mono oP _ (.refl _)⟩
  ·exact h.elim
theorem IK {H:Hp}:∀{ps:List PV} {K:List PV->List Nat->Prop},IJ H ps K->∃qs a,K qs a/\qs.length=ps.length/\∀{S:Imm} {w:World} {ι:Ix} {H':Hp},Mem S w ι H'->(∀k∈a,av H' k=av H k)->∀i,i<ps.length->∀v,Rep S w ι (aG ps i) v->Rep (rE S ι H') w noI (aG qs i) v:=by
 intro ps;induction ps with
 |nil=>intro K h;exact⟨_,_,h,rfl,λM _ i hi=>by simp at hi⟩
 |cons p r ih=>
  intro K h;obtain⟨q,a,h,hq⟩:=LD h;obtain⟨qs,as,h,hl,hs⟩:=ih h;refine⟨_,_,h,by simp[hl],λ{S w ι H'} M ha i hi v hr=>?_⟩
  cases i with
  |zero=>exact hq M (λk hk=>ha k (by simp[hk])) hr
  |succ i=>exact hs M (λk hk=>ha k (by simp[hk])) i (by simpa using hi) v hr
def wH:PV->Bool
 |.int _ _=>true
 |.bool _=>true
 |.bp _=>true
 |.str _=>true
 |_=>false
def x9:List PV->Bool
 | []=>true
 |x::xs=>match wH x with|true=>x9 xs|false=>false
def IL:PV->Bool
 |.tup vs=>x9 vs
 |v=>wH v
theorem wI {p:PV} (h:wH p=true) {S S':Imm} {w w':World} {ι ι':Ix} {v:Value} (hr:Rep S w ι p v):Rep S' w' ι' p v:=by
 cases p<;>simp[wH]at h<;>cases hr<;>constructor
theorem F6:∀{ps:List PV},x9 ps=true->∀i,i<ps.length->wH (aG ps i)=true:=by
 intro ps;induction ps with
 |nil=>intro _ i hi;simp at hi
 |cons p ps ih=>
  intro h i hi;unfold x9 at h;split at h
  ·rename_i hp
   cases i with
   |zero=>exact hp
   |succ i=>exact ih h i (by simpa using hi)
  ·cases h
theorem IQ {p:PV} (h:IL p=true) {S S':Imm} {w w':World} {ι ι':Ix} {v:Value} (hr:Rep S w ι p v):Rep S' w' ι' p v:=by
 unfold IL at h;split at h
 ·cases hr with|tup _ _ vs hl hh=>exact .tup _ _ _ hl (λi hi=>wI (F6 h i hi) (hh i hi))
 ·exact wI h hr
def IU (C:PSp):CT:=λargs n H K=>IJ H args λxs a=>cB (fF xs) λxs=>C xs λv=>ifK (IL v) (K v [] a [])
theorem TG {P:Program} {g:FuncId} {C:PSp} (h:POK P g C):COK P g (IU C):=by
 intro args n H K hk;unfold IU at hk;obtain⟨xs,a,hk,hl,hs⟩:=IK hk;rw[bN]at hk;obtain⟨v,hk,hent,hv⟩:=h _ _ hk;rw[aK]at hk;obtain⟨hp,hk⟩:=hk;refine⟨v,[],a,[],hk,.inl ⟨hent,λS w ι H' vs hgb M hr ha _=>?_⟩⟩;have hA:bH (rE S ι H') w noI (fF xs) vs:=⟨(bV xs).1.trans (hl.trans hr.1),λi hi=>(bV xs).2 i (hs M ha i (by rw[(bV xs).1]at hi;omega) _ (hr.2 i (by rw[(bV xs).1]at hi;omega)))⟩
 refine(hv (rE S ι H') w vs (oV oP (.refl _) hgb) (XF M) hA).mono ?_
 rintro e w' ⟨val,S',rfl,o⟩
 have hno:∀k ob b,av H' k=some ob->ob.has ι k b->b<w.heap.size:=λk ob b ho hb=>(M.obj k ob ho).lt hb;have hk0:Keeps S w S w':=⟨λb j hs=>⟨hs,(o.keeps.imm b j (.inl hs)).2⟩,o.keeps.cells⟩;refine⟨val,S,ι,rfl,⟨λk ob ho=>(M.obj k ob ho).mono hk0 (.refl _) o.below (λb hb=>o.same b (hno k ob b ho hb)) (λ_=>rfl) rfl (λb j hb hs=>hs),M.liveO,M.liveT,M.dist,λb j hs=>by rw[(hk0.imm b j hs).2];exact M.imm b j hs⟩,
  .refl _,hk0,IQ hp o.rep,λp=>⟨o.below,λb hb _=>o.same b hb,hk0,λb j hb hs=>.inl hs,λb h=>.inl h,λ_ _ _ h=>h,λ_ _ b n h=>⟨b,n,h,.inl ⟨rfl,alo _⟩⟩⟩⟩
def MG (args:List PV) (objs:List AO) (args1:List PV) (H1:Hp):Prop:=
 ∀(S:Imm) (w:World) (ι:Ix) (vs:Array Value),Mem S w ι (dz objs)->bH S w ι args vs->∃ι',Mem S w ι' H1/\bH S w ι' args1 vs/\∀p,Tr p S w ι (dz objs) S w ι' H1
theorem MG.refl (args:List PV) (objs:List AO):MG args objs args (dz objs):=λS w ι vs M R=>⟨ι,M,R,λp=>.refl _ _ _ _ _⟩
section
variable {P:Program} {τ:TypeId->Option TE} {B:Imm->World->Prop}
end
def uy (H:Hp):List PV->(List PV->List (Nat × AO)->Prop)->Prop
 | [],K=>K [] []
 |p::r,K=>match p with
  |.rsl j off n=>bR H j λo=>match o with
   |.cells c fz=>match fz with
    |true=>False
    |false=>l9 c λd=>jY d λce=>gH d λcn=>ifK (alI off 0) (n≤cn/\uy H r λus sets=>ifK (match iB j (keys sets)with|true=>false|false=>true) (K (.isl (d.sub 0 n) .none::us) ((j,.cells d true)::sets)))
   |_=>False
  |p=>match iL p with
   |some q=>bP q λq=>uy H r λus sets=>K (q::us) sets
   |none=>False
theorem Cb {H:Hp}:∀{ds:List PV} {K:List PV->List (Nat × AO)->Prop},uy H ds K->∃us sets,K us sets/\us.length=ds.length/\
 ∀{S:Imm} {w:World} {ι:Ix} {H':Hp} (vals:Nat->Value),Mem S w ι H'->(∀j∈keys sets,av H' j=av H j)->(∀i,i<ds.length->Rep S w ι (aG ds i) (vals i))->
  ∃S',Mem S' w ι (bE H' sets)/\Keeps S w S' w/\(∀p,Tr p S w ι H' S' w ι (bE H' sets))/\∀i,i<us.length->Rep S' w noI (aG us i) (vals i):=by
 intro ds;induction ds with
 |nil=>intro K h;exact⟨_,_,h,rfl,λvals M _ _=>⟨_,M,.refl _ _,λp=>.refl _ _ _ _ _,λi hi=>by simp at hi⟩⟩
 |cons p r ih=>
  intro K h;unfold uy at h;split at h
  ·rename_i j off n
   rw[bD]at h;obtain⟨ob,hob,h⟩:=h;split at h
   ·rename_i c fz
    split at h
    ·exact h.elim
    ·obtain⟨d,hA,d1,d2,d3⟩:=iC h
     clear h;simp only[fI,dM,aK]at hA;obtain⟨hoff,hn,hB⟩:=hA;have hoff:=alN hoff;subst hoff;obtain⟨us,sets,hC,hl,hs⟩:=ih hB;obtain⟨hj,hK⟩:=hC;have hj:j∉keys sets:=λhm=>by rw[<-qj]at hm;rw[hm]at hj;cases hj
     refine⟨_,_,hK,by simp[hl],λ{S w ι H'} vals M ha hr=>?_⟩
     have hob':=(ha j (by simp[keys])).trans hob
     obtain⟨S1,M1,K1,T1,F1⟩:=M.freeze (c':=d) hob' d2 (λj hj=>by intro S w ι v hr;exact d3 j hj hr)
     obtain⟨S2,M2,K2,T2,R2⟩:=hs (λi=>vals (i+1)) M1 (λj' hj'=>by
      rw[aW,if_neg (λ(e:j'=j)=>hj (by subst e;exact hj'))]
      exact ha j' (by simp only[keys,List.map_cons,am2];exact .inr hj')) (λi hi=>by have:=(hr (i+1) (by simpa using hi)).mono K1 _ (.refl _);simpa [aG]using this)
     refine⟨S2,M2,K1.trans K2,λp=>(T1 p).trans (T2 p),λi hi=>?_⟩;cases i with
     |succ i=>simpa [aG]using R2 i (by simpa using hi)
     |zero=>
      simp only[aG];have h0:=(hr 0 qqS).mono K1 _ (.refl _);simp only[aG]at h0;refine Rep.mono K2 (ι:=noI) ?_ _ (.refl _);generalize vals 0=v0 at h0
      cases h0 with
      |rsl _ _ _ _ b cap hk hc _=>
       have:=o7 (S:=S1) (w:=w) (c:=d) (b:=b) (off:=0) (λj hj=>by rw[alO];exact(F1 b hk j hj).1) (λj hj=>by rw[alO];exact(F1 b hk j hj).2) (x:=0) (y:=n) qqO hn (cap:=cap) qqO noI
       simpa using this
      |rslz _ _ _ b o hk=>
       exact lN _ (by rw[jU _ qqO]) (.inr ⟨b,o,rfl⟩) noI
   ·exact h.elim
  ·split at h
   ·rename_i q hq
    rw[bO]at h;obtain⟨us,sets,hK,hl,hs⟩:=ih h;refine⟨_,_,hK,by simp[hl],λ{S w ι H'} vals M ha hr=>?_⟩
    obtain⟨S2,M2,K2,T2,R2⟩:=hs (λi=>vals (i+1)) M ha (λi hi=>by have:=hr (i+1) (by simpa using hi);simpa [aG]using this)
    refine⟨S2,M2,K2,T2,λi hi=>?_⟩;cases i with
    |succ i=>simpa [aG]using R2 i (by simpa using hi)
    |zero=>simpa [aG]using(jE hq (hr 0 qqS)).mono K2 _ (.refl _)
   ·exact h.elim
theorem wJ (H:Hp):∀(a b:List (Nat × AO)),bE H (a++b)=bE (bE H a) b:=by
 intro a;induction a generalizing H with
 |nil=>intro b;rfl
 |cons x a ih=>intro b;obtain⟨k,o⟩:=x;simp only[List.cons_append,bE,ih]
theorem IV (pre post:List AO) (o o':AO) (k:Nat):av (aP (dz (pre++o::post)) pre.length o') k=av (dz (pre++o'::post)) k:=by
 rw[aW,gG,gG];by_cases h:k=pre.length
 ·subst h;simp
 ·rw[if_neg h]
  rcases alq k pre.length with h1|h1
  ·rw[anm h1,anm h1]
  ·rw[amB h1,amB h1]
   obtain⟨j,hj⟩:∃j,k-pre.length=j+1:=⟨k-pre.length-1,qqO⟩;rw[hj];rfl
theorem Cc {P:Program} {g:FuncId} {args vs:List PV} {objs' pre post:List AO} {n:Nat} {rc:RC} (he:Enters P g)
 (h:∀(l:List Nat) (rc':RC),rc'.kin rc->l.length=n->l.Nodup->(∀i,i<n->rc'.at (l.getD i 0)=rc.at i)->dN P g args (pre++ .mat l l rc'::post) vs objs'):
 dN P g args (pre++ .pmat n rc::post) vs objs':=by
 refine⟨he,λS w ι us hb M hr=>?_⟩;have hk:av (dz (pre++AO.pmat n rc::post)) pre.length=some (.pmat n rc):=by rw[gG];simp
 obtain⟨all,l,rc',h1',h2,h3,h4,h6,h5⟩:=M.obj _ _ hk;have hmem:∀b,b∈all↔b∈l:=λb=>⟨h6 b,λhb=>by
  obtain⟨i,hi,rfl⟩:=alG hb;obtain⟨b0,arr,e,_,_,_,_,_,_,_,h8⟩:=h1';have:=(h8 i hi).1;rw[alC,alH hi]at this;exact this⟩
 have h1:iK S w ι pre.length l l rc':=by
  obtain⟨b0,arr,e,g1,g2,g3,g4,g5,g6,g7,g8⟩:=h1';exact⟨b0,arr,e,g1,g2,g3,g4,λh=>g5 ((hmem _).2 h),λb'=>by rw[g6 b',hmem],λr hr=>g7 r ((hmem r).2 hr),λi hi=>⟨(hmem _).1 (g8 i hi).1,(g8 i hi).2⟩⟩
 obtain⟨M1,T1⟩:=M.stay (o':=.mat l l rc') hk rfl rfl rfl (.refl _) (.refl _ _) (λ_ _=>rfl) (λb hb=>hb) h1;have hg:=IV pre post (.pmat n rc) (.mat l l rc');refine CallsIn.mono ((h l rc' h2 h3 h4 h5).2 S w ι us hb (M1.congr hg) hr) ?_
 rintro e w' ⟨val,S',ι',e1,M',R',T'⟩
 refine⟨val,S',ι',e1,M',R',?_⟩;have e2:(pre++AO.pmat n rc::post).length=(pre++AO.mat l l rc'::post).length:=qqS;rw[e2];exact((T1 _).congr' hg).trans T'
theorem Ce {P:Program} {g:FuncId} {args vs:List PV} {objs' pre post:List AO} {n:Nat} {q:IntKind} {c:Nat->List Int} (he:Enters P g)
 (h:∀(l:List Nat) (c':Nat->List Int),l.length=n->l.Nodup->(∀i,i<n->c' (l.getD i 0)=c i)->dN P g args (pre++ .mat l l (.ints q c')::post) vs objs'):
 dN P g args (pre++ .pmat n (.ints q c)::post) vs objs':=by
 refine Cc he λl rc' hk hl hn hc=>?_;cases rc' with
 |ints q' c'=>
  cases hk
  exact h l c' hl hn (λi hi=>by have:=hc i hi;simp only[RC.at]at this;injection this)
 |recs m c'=>exact hk.elim
 |fn e m c'=>exact hk.elim
theorem F7 {P:Program} {g:FuncId} {args vs:List PV} {objs' pre post:List AO} {n e m:Nat} {c:Nat->Nat->List PV} (he:Enters P g)
 (h:∀(l:List Nat) (c':Nat->Nat->List PV),l.length=n->l.Nodup->(∀i,i<n->c' (l.getD i 0)=c i)->dN P g args (pre++ .mat l l (.fn e m c')::post) vs objs'):
 dN P g args (pre++ .pmat n (.fn e m c)::post) vs objs':=by
 refine Cc he λl rc' hk hl hn hc=>?_;cases rc' with
 |ints q' c'=>exact hk.elim
 |recs q c'=>exact hk.elim
 |fn e' m' c'=>
  cases hk
  exact h l c' hl hn (λi hi=>by have:=hc i hi;simp only[RC.at]at this;injection this)
section
variable {P:Program} {r:Option Nat} {τ:TypeId->Option TE} {B:Imm->World->Prop} {p:Nat}
end
end Go.Eng
namespace Go.Eng
open Go.RowKit Go.Sort
set_option linter.unusedSimpArgs false
set_option linter.unusedVariables false
theorem Mem.write' {S:Imm} {w w':World} {ι:Ix} {H:Hp} (M:Mem S w ι H) {k b:Nat} {c c':CL} {arr arr':Array Value} {e:TypeId}
 (ho:av H k=some (.cells c false)) (hk:ι.o k=some b) (h:w.heap[b]? =some (.cells arr e (0,0))) (below:Bel w w') (other:∀b',b'<w.heap.size->b'≠b->w'.heap[b']? =w.heap[b']?) (here:w'.heap[b]? =some (.cells arr' e (0,0))) (hsz:arr.size≤arr'.size)
 (hn:c'.ncell≤arr'.size) (hc:∀j,j<c'.ncell->Rep S w ι (c'.get j) (arr'.getD j undef)):
 Mem S w' ι (aP H k (.cells c' false))/\Keeps S w S w'/\∀p,Tr p S w ι H S w' ι (aP H k (.cells c' false)):=by
 obtain⟨b0,arr0,e0,h1,h2,h3,h4,h5⟩:=M.obj k _ ho;rw[hk]at h1;cases h1
 have hlt:∀b' j,(rd w b' j).isSome->b'<w.heap.size:=λb' j hs=>by
  rcases alq b' w.heap.size with h6|h6
  ·exact h6
  ·unfold rd at hs;rw[alr h6]at hs;simp at hs
 have hkeep:Keeps S w S w':=⟨λb' j hs=>⟨hs,dH (other b' (hlt b' j (M.imm b' j hs)) (λe=>by subst e;exact h5 j hs)) j⟩,λb' j hs=>by
  by_cases eb:b'=b
  ·subst eb
   rw[aL h]at hs;rw[aL here];have:j<arr.size:=by
    rcases alq j arr.size with h1|h1
    ·exact h1
    ·rw[alr h1]at hs;simp at hs
   rw[alv qqO];rfl
  ·rw[dH (other b' (hlt b' j hs) eb) j];exact hs⟩
 have ht:ι.t k=none:=by
  cases et:ι.t k with
  |none=>rfl
  |some x=>obtain⟨o,g1,g2⟩:=M.liveT k x et;rw[ho]at g1;cases g1;simp[AO.isTok]at g2
 have:=M.step (S':=S) (w':=w') (ι':=ι) (k:=k) (o':=.cells c' false) (b:=b) below other hkeep (λb' j h=>.inl h) (λj hs=>absurd hs (h5 j)) (.refl _) (λ_ _=>rfl) (λ_ _=>rfl)
  rfl (.inr ⟨_,ho,rfl,hk⟩) (λb'=>by simp[AO.has,hk,eq_comm]) (by simp[AO.isTok]) (λ_=>ht) ⟨b,arr',e,hk,here,hn,λj hj=>(hc j hj).mono hkeep _ (.refl _),h5⟩
 exact⟨this.1,hkeep,this.2⟩
end Go.Eng
namespace Go.Eng
open Go.RowKit
set_option linter.unusedSimpArgs false
set_option linter.unusedVariables false
section
variable {P:Program} {r:Option Nat} {B:Imm->World->Prop} {p:Nat}
theorem At.freeze {S0:Imm} {w0:World} {ι0:Ix} {H0 H:Hp} {env:Env} {a:Act} {w:World} (h:At B p S0 w0 ι0 H0 env H a w) (hB:BOK B) {k:Nat} {x d:CL} (hx:av H k=some (.cells x false)) (hn:d.ncell=x.ncell)
 (hc:∀j,j<x.ncell->∀{S:Imm} {w:World} {ι:Ix} {v:Value},Rep S w ι (x.get j) v->Rep S w noI (d.get j) v):At B p S0 w0 ι0 H0 env (aP H k (.cells d true)) a w:=by
 obtain⟨S,ι,hb,M,R,D,D',T⟩:=h.ex;obtain⟨S',M',K',T',_⟩:=M.freeze hx hn hc;exact⟨S',ι,hB _ _ _ _ K' (.refl _) hb,M',R.mono K' (.refl _),D.tr (T' p),D',T.trans (T' p)⟩
end
theorem TH {w:World} {b j:Nat} (hs:(rd w b j).isSome):b<w.heap.size:=by
 rcases alq b w.heap.size with h|h
 ·exact h
 ·unfold rd at hs;rw[alr h]at hs;simp at hs
theorem Qd {S:Imm} {w w':World} {v:PV} {val:Value} (himm:∀b j,S b j->(rd w b j).isSome) (hB:Below w.heap.size w w') (hr:Rep S w noI v val):Xo S w v val S w':=by
 have hk:Keeps S w S w':=⟨λb j hs=>⟨hs,dH (hB.block b (TH (himm b j hs))) j⟩,λb j hs=>by rw[dH (hB.block b (TH hs)) j];exact hs⟩
 refine⟨λb j hs=>by rw[(hk.imm b j hs).2];exact himm b j hs,hk,hr.mono hk _ (.refl _),⟨hB.os,hB.tape,hB.output,hB.size,λb hb=>gM (hB.block b hb)⟩,hB.block,λb j _ hs=>hs⟩
theorem mH {P:Program} {g:FuncId} {xs:List PV} {u:PV} (hent:Enters P g)
 (h:∀(S:Imm) (w:World) (vs:Array Value),gB S w->(∀b j,S b j->(rd w b j).isSome)->bH S w noI xs vs->∃val,Rep S w noI u val/\Calls P g vs w λe w'=>e=.returned val/\Below w.heap.size w w'):aB P g xs u:=by
 refine⟨hent,λS w vs hg himm hA=>?_⟩;obtain⟨val,hr,hc⟩:=h S w vs hg himm hA;refine(callsIn_wide.2 hc).mono ?_
 rintro e w' ⟨rfl,hB⟩
 exact⟨val,S,rfl,Qd himm hB hr⟩
theorem fT {P:Program} {g:FuncId} {xs:List PV} {u:PV} (hent:Enters P g)
 (h:∀(S:Imm) (w:World) (vs:Array Value),(∀b j,S b j->(rd w b j).isSome)->bH S w noI xs vs->∃val,Rep S w noI u val/\Calls P g vs w λe w'=>e=.returned val/\Below w.heap.size w w'):aB P g xs u:=
 mH hent λS w vs _=>h S w vs
def DJ (C:PSp):CT:=λargs n H K=>uy H args λus sets=>C us λv=>K v sets (keys sets) []
theorem Qe {P:Program} {g:FuncId} {C:PSp} (h:POK P g C):COK P g (DJ C):=by
 intro args n H K hk;unfold DJ at hk;obtain⟨us,sets,hk,hl,hs⟩:=Cb hk;obtain⟨v,hk,hent,hv⟩:=h _ _ hk;refine⟨v,_,_,[],hk,.inl ⟨hent,λS w ι H' vs hgb M hr ha _=>?_⟩⟩;obtain⟨S1,M1,K1,T1,R1⟩:=hs (λi=>vs.getD i undef) M (λj hj=>ha j hj) (λi hi=>hr.2 i hi);have hA:bH S1 w noI us vs:=⟨hl.trans hr.1,λi hi=>R1 i hi⟩;refine(hv S1 w vs (oV K1 (.refl _) hgb) M1.imm hA).mono ?_
 rintro ex w' ⟨val,S',rfl,o⟩
 have hno:∀k' ob b,av (bE H' sets) k'=some ob->ob.has ι k' b->b<w.heap.size:=λk' ob b ho hb=>(M1.obj k' ob ho).lt hb;have T3:∀p,Tr p S1 w ι (bE H' sets) S' w' ι (bE H' sets):=λp=>
  ⟨o.below,λb hb _=>o.same b hb,o.keeps,λb j hb hs=>.inl (o.immN b j hb hs),λb h=>.inl h,λ_ _ _ h=>h,λ_ _ b n h=>⟨b,n,h,.inl ⟨rfl,alo _⟩⟩⟩
 exact⟨val,S',ι,rfl,⟨λk' ob ho=>(M1.obj k' ob ho).mono o.keeps (.refl _) o.below (λb hb=>o.same b (hno k' ob b ho hb)) (λ_=>rfl) rfl (λb j hb hs=>o.immN b j (hno k' ob b ho hb) hs),M1.liveO,M1.liveT,M1.dist,o.imm⟩,
  .refl _,K1.trans o.keeps,o.rep.up ι,λp=>(T1 p).trans (T3 p)⟩
theorem F8 {P:Program} {g:FuncId} {args as:List PV} {H:Hp} {v:PV} (ha:jP args=some as) (h:aB P g as v):iX P g args H v [] [] []:=by
 obtain⟨hent,h⟩:=h;refine .inl ⟨hent,λS w ι H' vs hgb M hr _ _=>?_⟩;obtain⟨h1,h2⟩:=iD ha;refine(h S w vs hgb M.imm ⟨h1.trans hr.1,λi hi=>h2 i qqO (hr.2 i qqO)⟩).mono ?_
 rintro e w' ⟨val,S',rfl,o⟩
 have hno:∀k ob b,av H' k=some ob->ob.has ι k b->b<w.heap.size:=λk ob b ho hb=>(M.obj k ob ho).lt hb;refine⟨val,S',ι,rfl,⟨λk ob ho=>(M.obj k ob ho).mono o.keeps (.refl _) o.below (λb hb=>o.same b (hno k ob b ho hb)) (λ_=>rfl) rfl (λb j hb hs=>o.immN b j (hno k ob b ho hb) hs),M.liveO,M.liveT,M.dist,o.imm⟩,
  .refl _,o.keeps,o.rep.up ι,λp=>⟨o.below,λb hb _=>o.same b hb,o.keeps,λb j hb hs=>.inl (o.immN b j hb hs),λb h=>.inl h,λ_ _ _ h=>h,λ_ _ b n h=>⟨b,n,h,.inl ⟨rfl,alo _⟩⟩⟩⟩
def Z8 (C:PSp):CT:=λargs n H K=>match jP args with|some xs=>cB xs λas=>C as λv=>K v [] [] []|none=>False
theorem IW {P:Program} {g:FuncId} {C:PSp} (h:POK P g C):COK P g (Z8 C):=by
 intro args n H K hk;unfold Z8 at hk;split at hk
 ·rename_i as ha
  rw[bN]at hk;obtain⟨v,hK,hs⟩:=h _ _ hk;exact⟨v,[],[],[],hK,F8 ha hs⟩
 ·exact hk.elim
def wkE:PV->PV
 |.int k n=>.int k n
 |.bool b=>.bool b
 |.bp b=>.bp b
 |.str s=>.str s
 |_=>.any
def af6:List PV->List PV
 | []=>[]
 |x::xs=>wkE x::af6 xs
def wk1:PV->PV
 |.agg cs=>.agg (af6 cs)
 |p=>wkE p
def yc:List Nat->List Nat->Bool
 | [],_=>true
 |k::r,l=>match iB k l with|true=>false|false=>yc r l
theorem wK {a b:List Nat} (h:yc a b=true):∀k∈a,k∉b:=by
 induction a with
 |nil=>intro k hk;simp at hk
 |cons x a ih=>
  unfold yc at h;split at h
  ·cases h
  ·rename_i hx
   intro k hk;rcases am2.1 hk with rfl|hk
   ·intro hm;rw[<-qj]at hm;rw[hm]at hx;cases hx
   ·exact ih h k hk
def DK (H:Hp):List PV->(List PV->List (Nat × AO)->Prop)->Prop
 | [],K=>K [] []
 |p::r,K=>match p with
  |.rp k off=>bR H k λo=>match o with
   |.cells c fz=>match fz with
    |true=>False
    |false=>match c with
     |.pv ds=>uy H ds λus s1=>DK H r λws s2=>ifK ((match iB k (keys s1)with|true=>false|false=>true)&&yc (keys s1++[k]) (keys s2)) (K (.ip (.pv us) off::ws) (s1++(k,.cells (.pv us) true)::s2))
     |_=>False
   |_=>False
  |.agg ds=>uy H ds λus s1=>DK H r λws s2=>ifK (yc (keys s1) (keys s2)) (K (.agg us::ws) (s1++s2))
  |p=>uy H [p] λus s1=>DK H r λws s2=>ifK (yc (keys s1) (keys s2)) (K (us++ws) (s1++s2))
theorem nC:∀(a b:List (Nat × AO)),keys (a++b)=keys a++keys b
 | [],_=>rfl
 |x::a,b=>congrArg (x.1:: ·) (nC a b)
def nR (H:Hp) (ps us:List PV) (sets:List (Nat × AO)):Prop:=
 us.length=ps.length/\∀{S:Imm} {w:World} {ι:Ix} {H':Hp} (vals:Nat->Value),Mem S w ι H'->(∀j∈keys sets,av H' j=av H j)->(∀i,i<ps.length->Rep S w ι (aG ps i) (vals i))->
  ∃S',Mem S' w ι (bE H' sets)/\Keeps S w S' w/\(∀p,Tr p S w ι H' S' w ι (bE H' sets))/\∀i,i<us.length->Rep S' w noI (aG us i) (vals i)
theorem nR.app {H:Hp} {ps us qs ws:List PV} {s1 s2:List (Nat × AO)} (h1:nR H ps us s1) (h2:nR H qs ws s2) (hd:∀k∈keys s1,k∉keys s2):nR H (ps++qs) (us++ws) (s1++s2):=by
 refine⟨by simp[h1.1,h2.1],λ{S w ι H'} vals M ha hr=>?_⟩
 have gl:∀(a b:List PV) i,aG (a++b) i=if i<a.length then aG a i else aG b (i-a.length):=by
  intro a;induction a with
  |nil=>intro b i;simp
  |cons x a ih=>intro b i;cases i with
   |zero=>simp[aG]
   |succ i=>simp[aG,ih]
 obtain⟨S1,M1,K1,T1,R1⟩:=h1.2 vals M (λj hj=>ha j (by rw[nC];simp[hj])) (λi hi=>by have:=hr i (by simp;omega);rw[gl,if_pos hi]at this;exact this)
 obtain⟨S2,M2,K2,T2,R2⟩:=h2.2 (λi=>vals (i+ps.length)) M1 (λj hj=>by
  rw[kg (λhm=>hd j hm hj)];exact ha j (by rw[nC];simp[hj])) (λi hi=>by
  have:=(hr (i+ps.length) (by simp;omega)).mono K1 _ (.refl _)
  rw[gl,if_neg qqO,Nat.add_sub_cancel]at this;exact this)
 refine⟨S2,by rw[wJ];exact M2,K1.trans K2,λp=>by rw[wJ];exact(T1 p).trans (T2 p),λi hi=>?_⟩
 rw[gl];split
 ·rename_i hi';exact(R1 i hi').mono K2 _ (.refl _)
 ·have:=R2 (i-us.length) (by simp at hi;omega)
  rw[h1.1]at this⊢;rw[Nat.sub_add_cancel (by have:=h1.1;omega)]at this
  exact this
theorem DL {H:Hp} {ds:List PV} {K:List PV->List (Nat × AO)->Prop} (h:uy H ds K):∃us sets,K us sets/\nR H ds us sets:=by
 obtain⟨us,sets,hk,hl,hs⟩:=Cb h;exact⟨us,sets,hk,hl,hs⟩
theorem ab8 {H:Hp} {k off:Nat} {ds us:List PV} {s1:List (Nat × AO)} (hob:av H k=some (.cells (.pv ds) false)) (h:nR H ds us s1) (hkm:k∉keys s1):nR H [.rp k off] [.ip (.pv us) off] (s1++[(k,.cells (.pv us) true)]):=by
 obtain⟨hl,hs⟩:=h;refine⟨rfl,λ{S w ι H'} vals M ha hr=>?_⟩;have hob':=(ha k (by rw[nC];simp[keys])).trans hob
 obtain⟨b,arr,e,g1,g2,g3,g4,g5⟩:=M.obj k _ hob';obtain⟨S1,M1,K1,T1,R1⟩:=hs (λi=>arr.getD i undef) M (λj hj=>ha j (by rw[nC];simp[hj])) (λi hi=>g4 i hi)
 have hk1:av (bE H' s1) k=some (.cells (.pv ds) false):=by rw[kg hkm];exact hob'
 obtain⟨b',arr',e',q1,q2,q3,q4,q5⟩:=M1.obj k _ hk1;rw[g1]at q1;cases q1
 rw[g2]at q2;cases q2
 let S2:Imm:=λb' j=>S1 b' j∨(b'=b/\j<us.length)
 have hk2:Keeps S1 w S2 w:=⟨λb' j hs=>⟨.inl hs,rfl⟩,λb' j hs=>hs⟩;have hus:us.length≤arr.size:=by rw[hl];exact g3
 have rdb:∀j,rdv w b j=arr.getD j undef:=λj=>by rw[rdv,aL g2,alz]
 have hlie:∀j,j<(CL.pv us).ncell->S2 b j/\Rep S2 w noI ((CL.pv us).get j) (rdv w b j):=λj hj=>⟨.inr ⟨rfl,hj⟩,by rw[rdb];exact(R1 j hj).mono hk2 _ (.refl _)⟩
 obtain⟨M2,T2⟩:=M1.step1 (S':=S2) (w':=w) (ι':=ι) (k:=k) (o':=.cells (.pv us) true) (b:=b) (Bel.refl _) (λ_ _ _=>rfl) hk2 (λb' j hs=>by rcases hs with h|⟨h,_⟩;exact .inl h;exact .inr h)
  (λj hs=>by
    rcases hs with h|⟨_,h⟩
    ·exact absurd h (q5 j)
    ·rw[aL g2,alv qqO];rfl) (.refl _) (λ_ _=>rfl) (λ_ _=>rfl) rfl (.inr ⟨_,hk1,rfl,g1⟩) (λb' h=>h.elim) (by simp[AO.isTok]) (λ_=>M1.cells_t hk1 rfl)
  ⟨b,g1,hlie⟩
 have hput:bE H' (s1++[(k,.cells (.pv us) true)])=aP (bE H' s1) k (.cells (.pv us) true):=by rw[wJ];rfl
 rw[hput];refine⟨S2,M2,K1.trans hk2,λp=>(T1 p).trans (T2 p),λi hi=>?_⟩;have hi0:i=0:=by simp at hi;exact hi
 subst hi0;have h0:=hr 0 qqS;simp only[aG]at h0⊢;generalize vals 0=v0 at h0
 cases h0 with
 |rp _ _ _ b2 hb2=>
  rw[g1]at hb2;cases hb2
  have:=Rep.ip (S:=S2) (w:=w) noI (.pv us) off b 0 (λj hj=>by rw[alO];exact(hlie j hj).1) (λj hj=>by rw[alO];exact(hlie j hj).2)
  rwa [alO]at this
theorem ab9 {H:Hp} {ds us:List PV} {s1:List (Nat × AO)} (h:nR H ds us s1):nR H [.agg ds] [.agg us] s1:=by
 obtain⟨hl,hs⟩:=h;refine⟨rfl,λ{S w ι H'} vals M ha hr=>?_⟩;have h0:=hr 0 qqS;simp only[aG]at h0;generalize hv:vals 0=v0 at h0
 cases h0 with
 |agg _ _ vs hl' hh=>
  obtain⟨S1,M1,K1,T1,R1⟩:=hs (λi=>vs.getD i undef) M ha (λi hi=>hh i hi);refine⟨S1,M1,K1,T1,λi hi=>?_⟩;have hi0:i=0:=by simp at hi;exact hi
  subst hi0;rw[hv];exact .agg _ _ _ (hl.trans hl') R1
theorem acd {H:Hp}:∀{ps:List PV} {K:List PV->List (Nat × AO)->Prop},DK H ps K->∃us sets,K us sets/\nR H ps us sets:=by
 intro ps;induction ps with
 |nil=>intro K h;exact⟨_,_,h,rfl,λvals M _ _=>⟨_,M,.refl _ _,λp=>.refl _ _ _ _ _,λi hi=>by simp at hi⟩⟩
 |cons p r ih=>
  intro K h;unfold DK at h;split at h
  ·rename_i k off
   rw[bD]at h;obtain⟨ob,hob,h⟩:=h;split at h
   ·split at h
    ·exact h.elim
    ·split at h
     ·rename_i ds
      obtain⟨us,s1,h,h1⟩:=DL h;obtain⟨ws,s2,h,h2⟩:=ih h;rw[aK,alM]at h;obtain⟨⟨hm,hd⟩,h⟩:=h;have hkm:k∉keys s1:=λhm'=>by rw[<-qj]at hm';rw[hm']at hm;cases hm
      have hA:=(ab8 (off:=off) hob h1 hkm).app h2 (λj hj=>wK hd j (by rw[nC]at hj;exact hj))
      refine⟨_,_,h,?_⟩;rw[List.append_assoc]at hA;exact hA
     ·exact h.elim
   ·exact h.elim
  ·rename_i ds
   obtain⟨us,s1,h,h1⟩:=DL h;obtain⟨ws,s2,h,h2⟩:=ih h;rw[aK]at h;exact⟨_,_,h.2,(ab9 h1).app h2 (wK h.1)⟩
  ·obtain⟨us,s1,h,h1⟩:=DL h
   obtain⟨ws,s2,h,h2⟩:=ih h;rw[aK]at h;exact⟨_,_,h.2,h1.app h2 (wK h.1)⟩
def nS (C:PSp):CT:=λargs n H K=>DK H args λus sets=>cB (fF us) λus=>C us λv=>K v sets (keys sets) []
theorem kC {P:Program} {g:FuncId} {C:PSp} (h:POK P g C):COK P g (nS C):=by
 intro args n H K hk;unfold nS at hk;obtain⟨us,sets,hk,hl,hs⟩:=acd hk;rw[bN]at hk;obtain⟨v,hk,hent,hv⟩:=h _ _ hk;refine⟨v,_,_,[],hk,.inl ⟨hent,λS w ι H' vs hgb M hr ha _=>?_⟩⟩;obtain⟨S1,M1,K1,T1,R1⟩:=hs (λi=>vs.getD i undef) M (λj hj=>ha j hj) (λi hi=>hr.2 i hi);have hA:bH S1 w noI (fF us) vs:=⟨(bV us).1.trans (hl.trans hr.1),λi hi=>(bV us).2 i (R1 i (by rw[(bV us).1]at hi;omega))⟩
 refine(hv S1 w vs (oV K1 (.refl _) hgb) M1.imm hA).mono ?_
 rintro ex w' ⟨val,S',rfl,o⟩
 have hno:∀k' ob b,av (bE H' sets) k'=some ob->ob.has ι k' b->b<w.heap.size:=λk' ob b ho hb=>(M1.obj k' ob ho).lt hb;have T3:∀p,Tr p S1 w ι (bE H' sets) S' w' ι (bE H' sets):=λp=>
  ⟨o.below,λb hb _=>o.same b hb,o.keeps,λb j hb hs=>.inl (o.immN b j hb hs),λb h=>.inl h,λ_ _ _ h=>h,λ_ _ b n h=>⟨b,n,h,.inl ⟨rfl,alo _⟩⟩⟩
 exact⟨val,S',ι,rfl,⟨λk' ob ho=>(M1.obj k' ob ho).mono o.keeps (.refl _) o.below (λb hb=>o.same b (hno k' ob b ho hb)) (λ_=>rfl) rfl (λb j hb hs=>o.immN b j (hno k' ob b ho hb) hs),M1.liveO,M1.liveT,M1.dist,o.imm⟩,
  .refl _,K1.trans o.keeps,o.rep.up ι,λp=>(T1 p).trans (T3 p)⟩
section
variable {P:Program} {τ:TypeId->Option TE} {B:Imm->World->Prop}
end
def Ix.setx (ι:Ix) (k:Nat) (X:Nat->Prop):Ix:=⟨ι.o,ι.t,λk'=>if k'=k then X else ι.x k'⟩
theorem MH (ι:Ix) (k:Nat) (X:Nat->Prop):ι.le (ι.setx k X):=⟨λ_ _ h=>h,λ_ b n h=>⟨b,n,h,.inl ⟨rfl,alo _⟩⟩⟩
theorem Mem.bldStep {S:Imm} {w w':World} {ι:Ix} {H:Hp} (M:Mem S w ι H) {k t e b:Nat} {s s':ByteArray} {p p' v v':Value} (hk:av H k=some (.bld t e s)) (hb:ι.o k=some b)
 (h0:w.heap[b]? =some (.cells #[p,v] t (0,0))) (below:Bel w w') (here:w'.heap[b]? =some (.cells #[p',v'] t (0,0))) (hp:p'=.pointer none∨p'=.pointer (some ⟨b,0,none⟩)) (hne:v'.ownBlock≠some b)
 (own:w'.ownsRowF 0 e 1 v' s'.size (Lib.strCells s')) (hv:∀g,v'.ownBlock=some g->v.ownBlock=some g∨w.heap.size≤g)
 (other:∀b',b'<w.heap.size->b'≠b->v.ownBlock≠some b'->w'.heap[b']? =w.heap[b']?) (cells:∀b' j,(rd w b' j).isSome->(rd w' b' j).isSome):
 Mem S w' (ι.setx k λb'=>b'=b∨v'.ownBlock=some b') (aP H k (.bld t e s'))/\Keeps S w S w'/\∀pp,Tr pp S w ι H S w' (ι.setx k λb'=>b'=b∨v'.ownBlock=some b') (aP H k (.bld t e s')):=by
 obtain⟨b1,p1,v1,h1,h2,h3,h4,h5,h6,h7⟩:=M.obj k _ hk;rw[hb]at h1;cases h1
 obtain⟨rfl,rfl⟩:p=p1/\v=v1:=by
  rw[h0]at h2;simp at h2;exact h2
 have hnS:∀b' j,(b'=b∨v.ownBlock=some b')->¬S b' j:=λb' j h=>h4 b' j ((h7 b').2 h);have keeps:Keeps S w S w':=⟨λb' j hs=>⟨hs,dH (other b' (eZ (M.imm b' j hs)) (λe=>hnS b' j (.inl e) hs) (λe=>hnS b' j (.inr e) hs)) j⟩,cells⟩;have hg:av (aP H k (.bld t e s')) k=some (.bld t e s'):=by rw[aW];simp
 have hx:(ι.setx k λb'=>b'=b∨v'.ownBlock=some b').x k=λb'=>b'=b∨v'.ownBlock=some b':=by simp[Ix.setx]
 have:=M.multi (w':=w') (ι':=ι.setx k λb'=>b'=b∨v'.ownBlock=some b') (H':=aP H k (.bld t e s')) (λk'=>k'=k) below keeps (MH _ _ _)
  (λk' h=>by rw[aW,if_neg h]) (λ_ _=>rfl) (λ_ _=>rfl) (λk' h=>by simp[Ix.setx,h])
  (λb' hb' hno=>other b' hb' (λe=>hno k _ rfl hk rfl ((h7 b').2 (.inl e))) (λe=>hno k _ rfl hk rfl ((h7 b').2 (.inr e))))
  (λk' o2 ek h=>by
    subst ek;rw[hg]at h;cases h
    refine⟨b,p',v',hb,here,hp,λb' j hb'=>?_,hne,own,λb'=>by rw[hx]⟩
    rw[hx]at hb';rcases hb' with h|h
    ·exact hnS b' j (.inl h)
    ·rcases hv b' h with h|h
     ·exact hnS b' j (.inr h)
     ·exact λhs=>by have:=eZ (M.imm b' j hs);omega)
  (λk' o2 b' ek h hb'=>by
    subst ek;rw[hg]at h;cases h
    have hb':b'=b∨v'.ownBlock=some b':=by
     have:(ι.setx k' λb'=>b'=b∨v'.ownBlock=some b').x k' b':=hb';rw[hx]at this;exact this
    rcases hb' with h|h
    ·exact .inr ⟨k',_,rfl,hk,rfl,(h7 b').2 (.inl h)⟩
    ·rcases hv b' h with h|h
     ·exact .inr ⟨k',_,rfl,hk,rfl,(h7 b').2 (.inr h)⟩
     ·exact .inl h)
  (λk' b' ek _=>by subst ek;exact⟨_,hg,rfl⟩)
  (λk' x ek h=>by
    subst ek;obtain⟨o3,g1,g2⟩:=M.liveT k' x h;rw[hk]at g1;cases g1;cases g2)
  (λk1 k2 _ _ _ e1 e2 _ _ _ _=>e1.trans e2.symm)
 exact⟨this.1,keeps,this.2⟩
theorem Qf {w:World} {g:Nat} {old cs:Array Value} {t:TypeId} {fr:Nat × Nat} (hg:w.heap[g]? =some (.cells old t fr)) (hs:cs.size=old.size) (b:Nat):bsz (w.setRow g cs) b=bsz w b:=by
 by_cases e:b=g
 ·subst e;unfold bsz;rw[setRow_heap w b old cs t fr hg,hg];simp[hs]
 ·exact gM (setRow_other w g b cs e)
theorem Qg {P:Program} (w:World) (t u ty e:TypeId) (i:TypeInfo) (ht:P.underlying t=some (.slice e)) (hu:P.underlying u=some .string) (hi:P.info? e=some i) (hz:i.zero=some (.int .u8 0))
 (hsize:i.size=1) (hby:i.bytes=1) (v:Value) (n:Nat) (xs:List Value) (hown:w.ownsRowF 0 e 1 v n xs) (s:ByteArray) (h63:n+s.size≤maxLen) (hbytes:n+s.size≤140737488355328):
 ∃v' w',(Builtin.append_ #[t,u] ty #[v,.string s]).run P w=.ok v' w'/\w'.ownsRowF 0 e 1 v' (n+s.size) (xs++Lib.strCells s)/\w.grownBy w' v.ownBlock/\
  (∀b,b<w.heap.size->bsz w' b=bsz w b)/\∀g,v'.ownBlock=some g->v.ownBlock=some g∨w.heap.size≤g:=by
 obtain⟨v',w',hr,h2,h3,h4⟩:=Lib.run_append_own_stringF (P:=P) w 0 t u ty e i ht hu hi hz hsize hby v n xs hown s h63 hbytes (aml _);refine⟨v',w',hr,h2,h3,?_⟩;rcases hown.2 with⟨rfl,rfl⟩|⟨g,cap,cur,fz,rfl,hbg,hg,hfz,hnc,hcm,hcs,htake⟩
 ·refine⟨λb hb=>gM (h3.block b hb (by simp[Value.ownBlock])),λg hg=>.inr ?_⟩
  obtain⟨v2,w2,r2,k2,_⟩:=Lib.run_append_own_stringF (P:=P) w w.heap.size t u ty e i ht hu hi hz hsize hby (.slice none 0 0) 0 xs ⟨hown.1,.inl ⟨rfl,rfl⟩⟩ s h63 hbytes (alo _);rw[hr]at r2;cases r2
  exact(k2.lt g hg).1
 ·have hxl:xs.length=n:=by simpa using hown.1
  by_cases hroom:n+s.size≤cap
  ·have r2:=Lib.run_append_room_stringF (P:=P) w t u ty e i ht hu hi hsize g n cap cur fz hg (by simpa using hfz) s hroom qqO
   rw[hr]at r2;cases r2
   refine⟨λb hb=>Qf hg ?_ b,λg' hg'=>.inl hg'⟩;simp only[List.size_toArray,List.length_append,amh,List.length_drop,Array.length_toList,Lib.strCells_length];omega
  ·have r2:=Lib.run_append_grow_string (P:=P) w t u ty e i (.int .u8 0) ht hu hi hz ⟨g,0,none⟩ n cap xs (by rw[hsize];simpa using hxl) (hown.cells (g:=g) rfl) s qqO (by simp only[maxLen]at h63;omega) (by rw[hby];exact growslice_fits qqO qqO)
   rw[hr]at r2;cases r2
   refine⟨λb hb=>gM (Lib.alloc_old w.drew _ b hb),λg' hg'=>.inr ?_⟩;simp[Value.ownBlock]at hg';exact Nat.le_of_eq hg'
theorem af7 {w:World} {b j:Nat}:(rd w b j).isSome↔∃n,bsz w b=some n/\j<n:=by
 unfold rd bsz;split
 ·rename_i c t f h
  constructor
  ·intro hs
   refine⟨_,rfl,?_⟩;rcases alq j c.size with h1|h1
   ·exact h1
   ·rw[alr h1]at hs;cases hs
  ·rintro⟨n,h1,h2⟩
   cases h1
   rw[alv h2];rfl
 ·simp
structure wL (t e:TypeId) (b:Nat) (v:Value) (w w':World) (s':ByteArray) (v':Value):Prop where
 here:∃p',w'.heap[b]? =some (.cells #[p',v'] t (0,0))/\(p'=.pointer none∨p'=.pointer (some ⟨b,0,none⟩))
 ne:v'.ownBlock≠some b
 own:w'.ownsRowF 0 e 1 v' s'.size (Lib.strCells s')
 new:∀g,v'.ownBlock=some g->v.ownBlock=some g∨w.heap.size≤g
 os:w'.os=w.os
 tape:w'.tape=w.tape
 output:w'.output=w.output
 size:w.heap.size≤w'.heap.size
 other:∀b',b'<w.heap.size->b'≠b->v.ownBlock≠some b'->w'.heap[b']? =w.heap[b']?
 len:∀b',b'<w.heap.size->bsz w' b'=bsz w b'
theorem wL.bel {t e:TypeId} {b:Nat} {v v':Value} {w w':World} {s':ByteArray} (h:wL t e b v w w' s' v'):Bel w w':=⟨h.os,h.tape,h.output,h.size,h.len⟩
theorem wL.cells {t e:TypeId} {b:Nat} {v v':Value} {w w':World} {s':ByteArray} (h:wL t e b v w w' s' v') (b' j:Nat) (hs:(rd w b' j).isSome):(rd w' b' j).isSome:=by
 have hl:=eZ hs;rw[af7]at hs⊢;rw[h.len b' hl];exact hs
theorem IX {P:Program} {g:FuncId} (hent:∀vs w,(callFunc g vs).run P w=.ok (.enter g vs) w) {k t e:Nat} {s s':ByteArray} {args:List PV} {u:PV} {H:Hp} (hob:av H k=some (.bld t e s))
 (hc:∀(S:Imm) (w:World) (ι:Ix) (vs:Array Value) (b:Nat) (p v:Value),bH S w ι args vs->ι.o k=some b->w.heap[b]? =some (.cells #[p,v] t (0,0))->(p=.pointer none∨p=.pointer (some ⟨b,0,none⟩))->v.ownBlock≠some b->w.ownsRowF 0 e 1 v s.size (Lib.strCells s)->
   Calls P g vs w λex w'=>∃val v',ex=.returned val/\wL t e b v w w' s' v'/\∀S' ι',Rep S' w' ι' u val):
 iX P g args H u [(k,.bld t e s')] [k] []:=by
 refine .inl ⟨hent,λS w ι H' vs hgb M hr ha _=>?_⟩;have hob':=(ha k qqS).trans hob;obtain⟨b,p,v,h1,h2,h3,h4,h5,h6,h7⟩:=M.obj k _ hob';refine(callsIn_wide.2 (hc S w ι vs b p v hr h1 h2 h3 h5 h6)).mono ?_
 rintro ex w' ⟨val,v',rfl,B,hrep⟩
 obtain⟨p',g1,g2⟩:=B.here;obtain⟨M',K',T'⟩:=M.bldStep hob' h1 h2 B.bel g1 g2 B.ne B.own B.new B.other B.cells;exact⟨val,S,_,rfl,M',MH _ _ _,K',hrep _ _,T'⟩
theorem IY {S:Imm} {w:World} {ι:Ix} {p:PV} {vs:Array Value} (h:bH S w ι [p] vs):∃v,vs= #[v]/\Rep S w ι p v:=by
 have h0:=h.2 0 qqS;have hsz:vs.size=1:=h.1.symm;refine⟨vs.getD 0 undef,?_,h0⟩;apply amR (by simp[hsz])
 intro i h1 h2;have:i=0:=qqO;subst this;simp[alz,h1]
theorem uz {S:Imm} {w:World} {ι:Ix} {p q:PV} {vs:Array Value} (h:bH S w ι [p,q] vs):∃v u,vs= #[v,u]/\Rep S w ι p v/\Rep S w ι q u:=by
 have h0:=h.2 0 qqS;have h1:=h.2 1 qqS;have hsz:vs.size=2:=h.1.symm;refine⟨vs.getD 0 undef,vs.getD 1 undef,?_,h0,h1⟩;apply amR (by simp[hsz])
 intro i h1 h2;have:i=0∨i=1:=qqO;rcases this with rfl|rfl<;>simp[alz,h1]
def af8 (S:Imm) (ι:Ix) (H:Hp) (a:List Nat):Imm:=λb j=>S b j∨∃k c fz,k∈a/\av H k=some (.cells c fz)/\ι.o k=some b/\j<c.ncell
structure Lk (S:Imm) (w:World) (ι:Ix) (H0 H:Hp) (a:List Nat) (S':Imm) (w':World):Prop where
 ag:∀k∈a,av H k=av H0 k
 mem:Mem S w ι H
 old:∀b j,b<w.heap.size->S' b j->af8 S ι H a b j
 rd:∀b j,af8 S ι H a b j->rd w' b j=rd w b j
def af9 (f:Nat->Bool):Nat->Env->Env
 |_,[]=>[]
 |i,v::r=>(match f i with|true=>.any|false=>v)::af9 f (i+1) r
def stX (c:Code) (f:Nat->Bool) (env:Env) (us:List (Nat × PV)):Env:=Xz (af9 f 0 (Xy 0 env (dstsOf c))) us
def btw (a b i:Nat):Bool:=match alJ a i with|true=>alJ i b|false=>false
section
variable {P:Program} {r:Option Nat} {τ:TypeId->Option TE} {B:Imm->World->Prop} {p:Nat}
theorem gy {X:Type} (f:Nat->Bool) (I:X->Prop) (us:X->List (Nat × PV)) (hs:X->List (Nat × AO)) (μ:X->Nat) (x0:X) {md rf CP YP} (W:Walk P r B τ CP YP)
 {c:Code} {n:Nat} {Q:Exit->Env->Hp->Prop} {env:Env} {H:Hp} (hok:eU c=true) (hI:I x0)
 (h0:iA (hs x0) H λH1=>cB (stX c f env (us x0)) λenv1=>iE (lH [] H 0 H1) λσ=>oI σ p env H env1 H1 Ok)
 (hb:∀x,I x->iA (hs x) H λH1=>cB (stX c f env (us x)) λenv1=>ev P r B p τ md rf CP YP c n env1 H1 λe env' H' _=>match e with
   |.normal=>Nx (∃(x':X) (extra:Sg),(I x'/\μ x'<μ x)/\iA (hs x') H λH1=>cB (stX c f env (us x')) λenv1=>iE (lH extra H' 0 H1) λσ=>oI σ p env' H' env1 H1 Ok)
   |e=>Q e env' H'):Lp md rf CP YP n (AW P r B p (.loop c) Q env H):=by
 refine⟨MC (X:={x:X // I x}) (λx=>(stX c f env (us x.1),bE H (hs x.1))) (λx=>μ x.1) ⟨x0,hI⟩ ?_ λx=>?_⟩
 ·simp only[iV,bN,jo]at h0
  exact(jH h0).2
 ·have h:=hb x.1 x.2
  simp only[iV,bN,jo]at h;refine(kr W.hB W.hm W.hτ W.hC W.hY c hok _ _ _ _ h).mono ?_
  rintro e env' H' ⟨_,h⟩
  cases e with
  |normal=>
   obtain⟨x',extra,⟨h0,h1⟩,h2⟩:=h.get;exact⟨⟨x',h0⟩,h1,(jH h2).2⟩
  |_=>exact h
end
def IZ (P:Program) (g:FuncId) (C:PSp):Prop:=∀as K,C as K->∃v,K v/\∀(S:Imm) (w:World) (vs:Array Value),bH S w noI as vs->∃val,(callFunc g vs).run P w=.ok (.value val) w/\Rep S w noI v val
theorem oq {P:Program} {g:FuncId} {C:PSp} (h:IZ P g C):COK P g (aJ C):=by
 intro args n H K hk;unfold aJ BO at hk;split at hk
 ·rename_i as ha
  rw[bN]at hk;obtain⟨v,hK,hs⟩:=h _ _ hk;refine⟨v,[],[],[],hK,.inr ⟨rfl,λS w ι vs hr=>?_⟩⟩;obtain⟨h1,h2⟩:=iD ha;obtain⟨val,r1,r2⟩:=hs S w vs ⟨(bV as).1.trans (h1.trans hr.1),λi hi=>(bV as).2 i (h2 i (by rw[(bV as).1]at hi;omega) (hr.2 i (by rw[(bV as).1]at hi;omega)))⟩
  exact⟨val,r1,r2.up ι⟩
 ·exact hk.elim
theorem I4 {P:Program} {g:FuncId} {args as bs:List PV} {H:Hp} {v:PV} (ha:jP args=some as) (hb:bs.length=as.length/\∀i {S:Imm} {w:World} {ι:Ix} {v:Value},Rep S w ι (aG as i) v->Rep S w ι (aG bs i) v) (h:aB P g bs v):iX P g args H v [] [] []:=by
 obtain⟨hent,h⟩:=h;refine .inl ⟨hent,λS w ι H' vs hg M hr _ _=>?_⟩;obtain⟨h1,h2⟩:=iD ha;refine(h S w vs hg M.imm ⟨hb.1.trans (h1.trans hr.1),λi hi=>hb.2 i (h2 i (by rw[hb.1]at hi;omega) (hr.2 i (by rw[hb.1]at hi;omega)))⟩).mono ?_
 rintro e w' ⟨val,S',rfl,o⟩
 have hno:∀k ob b,av H' k=some ob->ob.has ι k b->b<w.heap.size:=λk ob b ho hb=>(M.obj k ob ho).lt hb;refine⟨val,S',ι,rfl,⟨λk ob ho=>(M.obj k ob ho).mono o.keeps (.refl _) o.below (λb hb=>o.same b (hno k ob b ho hb)) (λ_=>rfl) rfl (λb j hb hs=>o.immN b j (hno k ob b ho hb) hs),M.liveO,M.liveT,M.dist,o.imm⟩,
  .refl _,o.keeps,o.rep.up ι,λp=>⟨o.below,λb hb _=>o.same b hb,o.keeps,λb j hb hs=>.inl (o.immN b j hb hs),λb h=>.inl h,λ_ _ _ h=>h,λ_ _ b n h=>⟨b,n,h,.inl ⟨rfl,alo _⟩⟩⟩⟩
def Gt:PV->PV
 |.isl c _=>.isl c .none
 |.bool b=>.bp b
 |p=>p
def wM:List PV->List PV
 | []=>[]
 |x::xs=>Gt x::wM xs
def XG:PV->PV
 |.agg cs=>.agg (wM cs)
 |p=>Gt p
def Cg:List PV->List PV
 | []=>[]
 |x::xs=>XG x::Cg xs
theorem EZ {S:Imm} {w:World} {ι:Ix} {p:PV} {v:Value} (h:Rep S w ι p v):Rep S w ι (Gt p) v:=by
 unfold Gt;split
 ·exact h.drop
 ·cases h;exact .bp _ _
 ·exact h
theorem uD:∀(ps:List PV),(wM ps).length=ps.length/\∀i {S:Imm} {w:World} {ι:Ix} {v:Value},Rep S w ι (aG ps i) v->Rep S w ι (aG (wM ps) i) v:=by
 intro ps;induction ps with
 |nil=>exact⟨rfl,λi _ _ _ _ h=>h⟩
 |cons p ps ih=>exact⟨by simp[wM,ih.1],λi _ _ _ _ h=>by cases i with|zero=>exact EZ h|succ i=>exact ih.2 i h⟩
theorem XH {S:Imm} {w:World} {ι:Ix} {p:PV} {v:Value} (h:Rep S w ι p v):Rep S w ι (XG p) v:=by
 unfold XG;split
 ·cases h with|agg _ _ vs hl hh=>exact .agg _ _ _ ((uD _).1.trans hl) (λi hi=>(uD _).2 i (hh i (by rw[(uD _).1]at hi;exact hi)))
 ·exact EZ h
theorem TI:∀(ps:List PV),(Cg ps).length=ps.length/\∀i {S:Imm} {w:World} {ι:Ix} {v:Value},Rep S w ι (aG ps i) v->Rep S w ι (aG (Cg ps) i) v:=by
 intro ps;induction ps with
 |nil=>exact⟨rfl,λi _ _ _ _ h=>h⟩
 |cons p ps ih=>exact⟨by simp[Cg,ih.1],λi _ _ _ _ h=>by cases i with|zero=>exact XH h|succ i=>exact ih.2 i h⟩
def aU (C:PSp):CT:=λargs n H K=>match jP args with|some xs=>cB (Cg xs) λas=>C as λv=>K v [] [] []|none=>False
theorem aF {P:Program} {g:FuncId} {C:PSp} (h:POK P g C):COK P g (aU C):=by
 intro args n H K hk;unfold aU at hk;split at hk
 ·rename_i as ha
  rw[bN]at hk;obtain⟨v,hK,hs⟩:=h _ _ hk;exact⟨v,[],[],[],hK,I4 ha (TI as) hs⟩
 ·exact hk.elim
section
variable {P:Program} {r:Option Nat} {τ:TypeId->Option TE} {B:Imm->World->Prop} {p:Nat}
theorem DN {md rf CP YP} (W:Walk P r B τ CP YP) {c:Code} {n:Nat} {Q:Exit->Env->Hp->Prop} {env:Env} {H H':Hp}
 (hs:∀S w ι,Mem S w ι H->∃S' ι',Mem S' w ι' H'/\ι.le ι'/\Keeps S w S' w/\∀p,Tr p S w ι H S' w ι' H')
 (h:Lp md rf CP YP n (AW P r B p c Q env H')):Lp md rf CP YP n (AW P r B p c Q env H):=by
 refine⟨λS0 w0 ι0 H0 a w hA=>?_⟩;obtain⟨S,ι,hB,M,hR,hD,hd,T⟩:=hA.ex;obtain⟨S',ι',M',le,K,T'⟩:=hs S w ι M;exact h.get S0 w0 ι0 H0 a w ⟨S',ι',W.hB S w S' w K (.refl _) hB,M',hR.mono K le,hD.tr (T' p),hd,T.trans (T' p)⟩
theorem MI {md rf CP YP} {c:Code} {n:Nat} {Q:Exit->Env->Hp->Prop} {env:Env} {H:Hp} (k:Nat) {m:Nat} {rc:RC} (hk:av H k=some (.pmat m rc))
 (h:∀(l:List Nat) (rc':RC),rc'.kin rc->l.length=m->l.Nodup->(∀i,i<m->rc'.at (l.getD i 0)=rc.at i)->jv H k (.mat l l rc') λH'=>Lp md rf CP YP n (AW P r B p c Q env H')):
 Lp md rf CP YP n (AW P r B p c Q env H):=by
 refine⟨λS0 w0 ι0 H0 a w hA=>?_⟩;obtain⟨S,ι,hB,M,hR,hD,hd,T⟩:=hA.ex;obtain⟨all,l,rc',h1',h2,h3,h4,h6,h5⟩:=M.obj _ _ hk;have hmem:∀b,b∈all↔b∈l:=λb=>⟨h6 b,λhb=>by
  obtain⟨i,hi,rfl⟩:=alG hb;obtain⟨b0,arr,e,_,_,_,_,_,_,_,h8⟩:=h1';have:=(h8 i hi).1;rw[alC,alH hi]at this;exact this⟩
 have h1:iK S w ι k l l rc':=by
  obtain⟨b0,arr,e,g1,g2,g3,g4,g5,g6,g7,g8⟩:=h1';exact⟨b0,arr,e,g1,g2,g3,g4,λh=>g5 ((hmem _).2 h),λb'=>by rw[g6 b',hmem],λr hr=>g7 r ((hmem r).2 hr),λi hi=>⟨(hmem _).1 (g8 i hi).1,(g8 i hi).2⟩⟩
 obtain⟨M1,T1⟩:=M.stay (o':=.mat l l rc') hk rfl rfl rfl (.refl _) (.refl _ _) (λ_ _=>rfl) (λb hb=>hb) h1;have h:=h l rc' h2 h3 h4 h5;rw[lD]at h;exact h.get S0 w0 ι0 H0 a w ⟨S,ι,hB,M1,hR,hD.tr (T1 p),hd,T.trans (T1 p)⟩
theorem I5 {md rf CP YP} {c:Code} {n:Nat} {Q:Exit->Env->Hp->Prop} {env:Env} {H:Hp} (k:Nat) {m:Nat} {q:IntKind} {g:Nat->List Int} (hk:av H k=some (.pmat m (.ints q g)))
 (h:∀(l:List Nat) (g':Nat->List Int),l.length=m->l.Nodup->(∀i,i<m->g' (l.getD i 0)=g i)->jv H k (.mat l l (.ints q g')) λH'=>Lp md rf CP YP n (AW P r B p c Q env H')):
 Lp md rf CP YP n (AW P r B p c Q env H):=by
 refine MI k hk λl rc' hkin hl hn hc=>?_;cases rc' with
 |recs m' c'=>exact hkin.elim
 |fn e' m' c'=>exact hkin.elim
 |ints q' c'=>
  cases hkin
  exact h l c' hl hn (λi hi=>by have:=hc i hi;simp only[RC.at]at this;injection this)
theorem Ch {md rf CP YP} {c:Code} {n:Nat} {Q:Exit->Env->Hp->Prop} {env:Env} {H:Hp} (k:Nat) {m e q:Nat} {g:Nat->Nat->List PV} (hk:av H k=some (.pmat m (.fn e q g)))
 (h:∀(l:List Nat) (g':Nat->Nat->List PV),l.length=m->l.Nodup->(∀i,i<m->g' (l.getD i 0)=g i)->jv H k (.mat l l (.fn e q g')) λH'=>Lp md rf CP YP n (AW P r B p c Q env H')):
 Lp md rf CP YP n (AW P r B p c Q env H):=by
 refine MI k hk λl rc' hkin hl hn hc=>?_;cases rc' with
 |ints q c'=>exact hkin.elim
 |recs q c'=>exact hkin.elim
 |fn e' m' c'=>
  cases hkin
  exact h l c' hl hn (λi hi=>by have:=hc i hi;simp only[RC.at]at this;injection this)
structure gW (c d:CL):Prop where
 cnt:d.cnt=c.cnt
 esz:d.esz=c.esz
 get:∀j,j<c.ncell->d.get j=c.get j
theorem gu.cells {S:Imm} {w:World} {ι:Ix} {k n:Nat} {f:Nat->Nat} {c c':Nat->CL} (h:gu S w ι k n f c) (hc:∀i,i<n->f i=2->gW (c i) (c' i)):gu S w ι k n f c':=by
 obtain⟨b,arr,e,l,h1,h2,h3,h4,h5,h6,h7,h8⟩:=h;refine⟨b,arr,e,l,h1,h2,h3,h4,h5,λi hi hf=>?_,h7,h8⟩;obtain⟨g1,⟨arr2,e2,q1,q2,q3,q4⟩,g3,cap,g4,g5,g6⟩:=h6 i hi hf;have hs:=hc i hi hf;have hn:(c' i).ncell=(c i).ncell:=by rw[bI,bI,hs.cnt,hs.esz]
 exact⟨g1,⟨arr2,e2,q1,qqO,λj hj=>by rw[hs.get j qqO];exact q3 j qqO,q4⟩,by rw[hs.esz];exact g3,cap,by rw[hs.cnt];exact g4,by rw[hs.esz];exact g5,by rw[hs.cnt];exact g6⟩
theorem gW.rfl' (c:CL):gW c c:=⟨rfl,rfl,λ_ _=>rfl⟩
theorem aiQ {md rf CP YP} (W:Walk P r B τ CP YP) {c:Code} {n:Nat} {Q:Exit->Env->Hp->Prop} {env:Env} {H:Hp} (k:Nat) {m:Nat} {f:Nat->Nat} {g:Nat->CL} (rc:RC) (hk:av H k=some (.qmat m f g)) (hf:∀i,i<m->f i=2/\gW (g i) (rc.at i))
 (h:jv H k (.pmat m rc) λH'=>Lp md rf CP YP n (AW P r B p c Q env H')):Lp md rf CP YP n (AW P r B p c Q env H):=by
 rw[lD]at h;refine DN W (λS w ι M=>?_) h;have ho:gu S w ι k m f g:=M.obj _ _ hk;obtain⟨M1,T1⟩:=M.stay (o':=.pmat m rc) hk rfl rfl rfl (.refl _) (.refl _ _) (λ_ _=>rfl) (λb hb=>hb) (wE (ho.cells (c':=rc.at) (λi hi _=>(hf i hi).2)) (λi hi=>⟨(hf i hi).1,rfl⟩));exact⟨S,ι,M1,.refl _,.refl _ _,T1⟩
end
theorem Mem.freezeX {S:Imm} {w:World} {ι:Ix} {H:Hp} (M:Mem S w ι H) {k b0:Nat} {o:AO} {c:CL} (hk:av H k=some o) (hx:o.excl=true) (hT:o.isTok=false) (hb:ι.o k=some b0) (F:Nat->Nat->Prop)
 (hF:∀b j,F b j->o.has ι k b/\(rd w b j).isSome) (h0:∀j,j<c.ncell->F b0 j) (hrep:Keeps S w (λb j=>S b j∨F b j) w->∀j,j<c.ncell->Rep (λb j=>S b j∨F b j) w noI (c.get j) (rdv w b0 j)):
 Mem (λb j=>S b j∨F b j) w ι (aP H k (.cells c true))/\Keeps S w (λb j=>S b j∨F b j) w/\∀p,Tr p S w ι H (λb j=>S b j∨F b j) w ι (aP H k (.cells c true)):=by
 have hkp:Keeps S w (λb j=>S b j∨F b j) w:=⟨λb j hs=>⟨.inl hs,rfl⟩,λb j hs=>hs⟩;have get:∀k' o',av (aP H k (.cells c true)) k'=some o'->(k'=k/\o'=.cells c true)∨(k'≠k/\av H k'=some o'):=λk' o' h=>by
  rw[aW]at h;by_cases e:k'=k
  ·rw[if_pos e]at h;cases h;exact .inl ⟨e,rfl⟩
  ·rw[if_neg e]at h;exact .inr ⟨e,h⟩
 have gk:av (aP H k (.cells c true)) k=some (.cells c true):=by rw[aW,if_pos rfl]
 have go:∀k',k'≠k->av (aP H k (.cells c true)) k'=av H k':=λk' e=>by rw[aW,if_neg e]
 refine⟨⟨λk' o' h=>?_,λk' b h=>?_,λk' x h=>?_,λk1 k2 o1 o2 b h1 h2 b1 b2=>?_,λb j hs=>?_⟩,hkp,λp=>⟨.refl _,λ_ _ _=>rfl,hkp,λb j _ hs=>?_,?_,λ_ _ _ h=>h,λ_ _ b n h=>⟨b,n,h,.inl ⟨rfl,alo _⟩⟩⟩⟩
 ·rcases get k' o' h with⟨rfl,rfl⟩|⟨hne,h⟩
  ·exact⟨b0,hb,λj hj=>⟨.inr (h0 j hj),hrep hkp j hj⟩⟩
  ·refine(M.obj k' o' h).mono hkp (.refl _) (.refl _) (λ_ _=>rfl) (λ_=>rfl) rfl (λb j hb' hs=>?_)
   rcases hs with hs|hs
   ·exact hs
   ·exact absurd (M.dist k' k o' o b h hk hb' (hF b j hs).1) hne
 ·by_cases e:k'=k
  ·subst e;exact⟨_,gk,rfl⟩
  ·rw[go k' e];exact M.liveO k' b h
 ·by_cases e:k'=k
  ·subst e
   have:=M.tok_none hk hT;rw[this]at h;cases h
  ·rw[go k' e];exact M.liveT k' x h
 ·rcases get k1 o1 h1 with⟨rfl,rfl⟩|⟨_,h1⟩
  ·exact b1.elim
  ·rcases get k2 o2 h2 with⟨rfl,rfl⟩|⟨_,h2⟩
   ·exact b2.elim
   ·exact M.dist k1 k2 o1 o2 b h1 h2 b1 b2
 ·rcases hs with hs|hs
  ·exact M.imm b j hs
  ·exact(hF b j hs).2
 ·rcases hs with hs|hs
  ·exact .inl hs
  ·exact .inr ⟨k,o,hk,hx,(hF b j hs).1⟩
 ·rintro b ⟨k',o',h1,h2,h3⟩
  rcases get k' o' h1 with⟨rfl,rfl⟩|⟨_,h1⟩
  ·exact h3.elim
  ·exact .inl ⟨k',o',h1,h2,h3⟩
theorem pX.rd {S:Imm} {w:World} {c:CL} {b:Nat} (h:pX S w c b):∀j,j<c.ncell->(rd w b j).isSome/\Rep S w noI (c.get j) (rdv w b j):=λj hj=>by
 obtain⟨arr,e,h1,h2,h3,h4⟩:=h;have:=h3 j hj;rw[alz]at this;rw[rdv,aL h1];exact⟨by rw[alv qqO];rfl,this⟩
theorem Mem.freezeP {S:Imm} {w:World} {ι:Ix} {H:Hp} (M:Mem S w ι H) {k m:Nat} {rc:RC} (hk:av H k=some (.pmat m rc)):
 ∃S',Mem S' w ι (aP H k (.cells (.gen m λi=>.isl (rc.at i) .none) true))/\Keeps S w S' w/\∀p,Tr p S w ι H S' w ι (aP H k (.cells (.gen m λi=>.isl (rc.at i) .none) true)):=by
 obtain⟨all,l,rc',⟨b,arr,e,h1,h2,h3,h4,h5,h6,h7,h8⟩,g2,g3,g4,g6,g5⟩:=M.obj _ _ hk;refine⟨_,M.freezeX (c:=.gen m λi=>.isl (rc.at i) .none) hk rfl rfl h1 (λb' j=>(b'=b/\j<m)∨(b'∈all/\j<(rc'.at b').ncell)) (λb' j hF=>?_) (λj hj=>.inl ⟨rfl,hj⟩) (λhkp j hj=>?_)⟩
 ·rcases hF with⟨rfl,hj⟩|⟨hb,hj⟩
  ·exact⟨(h6 _).2 (.inl rfl),by rw[aL h2,alv qqO];rfl⟩
  ·exact⟨(h6 _).2 (.inr hb),((h7 b' hb).rd j hj).1⟩
 ·have hj:j<m:=hj
  obtain⟨q1,cap,q2,q3⟩:=h8 j qqO;have hrow:=(h7 _ q1).rd;rw[g5 j hj]at q2 q3 hrow;have e1:rdv w b j=.slice (some ⟨l.getD j 0,0,none⟩) (rc.at j).cnt cap:=by
   rw[rdv,aL h2,<-q3,alz]
  rw[e1];refine .isl _ _ _ _ _ _ q2 (λi hi=>.inr (.inr ⟨q1,by rw[g5 j hj,alO];exact hi⟩)) (λi hi=>?_) (λh=>by cases h) (λk h=>by cases h)
  rw[alO];exact(hrow i hi).2.mono hkp _ (.refl _)
section
variable {P:Program} {r:Option Nat} {τ:TypeId->Option TE} {B:Imm->World->Prop} {p:Nat}
theorem Qh {md rf CP YP} (W:Walk P r B τ CP YP) {c:Code} {n:Nat} {Q:Exit->Env->Hp->Prop} {env:Env} {H:Hp} (k:Nat) {m:Nat} {rc:RC} (hk:av H k=some (.pmat m rc))
 (h:jv H k (.cells (.gen m λi=>.isl (rc.at i) .none) true) λH'=>Lp md rf CP YP n (AW P r B p c Q env H')):Lp md rf CP YP n (AW P r B p c Q env H):=by
 rw[lD]at h;refine DN W (λS w ι M=>?_) h;obtain⟨S',M',K,T⟩:=M.freezeP hk;exact⟨S',ι,M',.refl _,K,T⟩
end
theorem qx {P:Program} {g:FuncId} {args vs:List PV} {objs' pre post:List AO} {m:Nat} {f:Nat->Nat} {c:Nat->CL} (rc:RC) (hf:∀i,i<m->f i=2/\gW (c i) (rc.at i))
 (h:dN P g args (pre++ .pmat m rc::post) vs objs'):dN P g args (pre++ .qmat m f c::post) vs objs':=by
 refine⟨h.1,λS w ι us hb M hr=>?_⟩;have hk:av (dz (pre++AO.qmat m f c::post)) pre.length=some (.qmat m f c):=by rw[gG];simp
 have ho:gu S w ι pre.length m f c:=M.obj _ _ hk;obtain⟨M1,T1⟩:=M.stay (o':=.pmat m rc) hk rfl rfl rfl (.refl _) (.refl _ _) (λ_ _=>rfl) (λb hb=>hb) (wE (ho.cells (c':=rc.at) (λi hi _=>(hf i hi).2)) (λi hi=>⟨(hf i hi).1,rfl⟩));have hg:=IV pre post (.qmat m f c) (.pmat m rc);refine CallsIn.mono (h.2 S w ι us hb (M1.congr hg) hr) ?_
 rintro e w' ⟨val,S',ι',e1,M',R',T'⟩
 refine⟨val,S',ι',e1,M',R',?_⟩;have e2:(pre++AO.qmat m f c::post).length=(pre++AO.pmat m rc::post).length:=qqS;rw[e2];exact((T1 _).congr' hg).trans T'
def I6 (C:PSp):CT:=λargs n H K=>match args with
 | [p]=>match p with
  |.rsl k off r=>bR H k λo=>match o with
   |.pmat m rc=>r≤m/\ifK (alI off 0) (C [.isl (.gen r λi=>.isl (rc.at i) .none) .none] λv=>K v [(k,.cells (.gen m λi=>.isl (rc.at i) .none) true)] [k] [])
   |_=>False
  |.nils=>C [.isl (.gen 0 λ_=>.nils) .none] λv=>K v [] [] []
  |_=>False
 |_=>False
theorem TJ {P:Program} {g:FuncId} {C:PSp} (h:POK P g C):COK P g (I6 C):=by
 intro args n H K hk;unfold I6 at hk;split at hk
 ·split at hk
  ·rename_i k off r
   rw[bD]at hk;obtain⟨ob,hob,hk⟩:=hk;split at hk
   ·rename_i m rc
    rw[aK]at hk;obtain⟨hm,hoff,hk⟩:=hk;have hoff:=alN hoff;subst hoff;obtain⟨v,hk,hent,hv⟩:=h _ _ hk;refine⟨v,_,_,[],hk,.inl ⟨hent,λS w ι H' vs hgb M hr ha _=>?_⟩⟩;have hob':=(ha k qqS).trans hob;obtain⟨S1,M1,K1,T1⟩:=M.freezeP hob';have hA:bH S1 w noI [.isl (.gen r λi=>.isl (rc.at i) .none) .none] vs:=by
     refine⟨hr.1,λi hi=>?_⟩;have hi0:i=0:=by simp at hi;exact hi
     subst hi0;have h0:=(hr.2 0 qqS).mono K1 _ (.refl _);simp only[aG]at h0⊢;generalize vs.getD 0 undef=v0 at h0
     cases h0 with
     |rsl _ _ _ _ b cap hk hc _=>
      obtain⟨b',e1,e2⟩:=M1.obj k (.cells (.gen m λi=>.isl (rc.at i) .none) true) (by rw[aW,if_pos rfl])
      rw[hk]at e1;cases e1
      refine .isl _ _ _ _ _ _ hc (λj hj=>?_) (λj hj=>?_) (λh=>by cases h) (λk h=>by cases h)
      ·rw[alO];exact(e2 j (alp hj hm)).1
      ·rw[alO];exact(e2 j (alp hj hm)).2
     |rslz _ _ _ b o hk=>exact .islnil _ _ _ rfl
    refine(hv S1 w vs (oV K1 (.refl _) hgb) M1.imm hA).mono ?_
    rintro ex w' ⟨val,S',rfl,o⟩
    generalize AO.cells (.gen m λi=>.isl (rc.at i) .none) true=od at*
    have hno:∀k' ob b,av (aP H' k od) k'=some ob->ob.has ι k' b->b<w.heap.size:=λk' ob b ho hb=>(M1.obj k' ob ho).lt hb;have T3:∀p,Tr p S1 w ι (aP H' k od) S' w' ι (aP H' k od):=λp=>
     ⟨o.below,λb hb _=>o.same b hb,o.keeps,λb j hb hs=>.inl (o.immN b j hb hs),λb h=>.inl h,λ_ _ _ h=>h,λ_ _ b n h=>⟨b,n,h,.inl ⟨rfl,alo _⟩⟩⟩
    exact⟨val,S',ι,rfl,⟨λk' ob ho=>(M1.obj k' ob ho).mono o.keeps (.refl _) o.below (λb hb=>o.same b (hno k' ob b ho hb)) (λ_=>rfl) rfl (λb j hb hs=>o.immN b j (hno k' ob b ho hb) hs),M1.liveO,M1.liveT,M1.dist,o.imm⟩,
     .refl _,K1.trans o.keeps,o.rep.up ι,λp=>(T1 p).trans (T3 p)⟩
   ·exact hk.elim
  ·obtain⟨v,hk,hent,hv⟩:=h _ _ hk
   refine⟨v,_,_,[],hk,.inl ⟨hent,λS w ι H' vs hgb M hr ha _=>?_⟩⟩;have hA:bH S w noI [.isl (.gen 0 λ_=>.nils) .none] vs:=by
    refine⟨hr.1,λi hi=>?_⟩;have hi0:i=0:=by simp at hi;exact hi
    subst hi0;have h0:=hr.2 0 qqS;simp only[aG]at h0⊢;generalize vs.getD 0 undef=v0 at h0
    cases h0
    exact .islnil _ _ _ rfl
   refine(hv S w vs hgb M.imm hA).mono ?_
   rintro ex w' ⟨val,S',rfl,o⟩
   have hno:∀k' ob b,av H' k'=some ob->ob.has ι k' b->b<w.heap.size:=λk' ob b ho hb=>(M.obj k' ob ho).lt hb;have T3:∀p,Tr p S w ι H' S' w' ι H':=λp=>
    ⟨o.below,λb hb _=>o.same b hb,o.keeps,λb j hb hs=>.inl (o.immN b j hb hs),λb h=>.inl h,λ_ _ _ h=>h,λ_ _ b n h=>⟨b,n,h,.inl ⟨rfl,alo _⟩⟩⟩
   exact⟨val,S',ι,rfl,⟨λk' ob ho=>(M.obj k' ob ho).mono o.keeps (.refl _) o.below (λb hb=>o.same b (hno k' ob b ho hb)) (λ_=>rfl) rfl (λb j hb hs=>o.immN b j (hno k' ob b ho hb) hs),M.liveO,M.liveT,M.dist,o.imm⟩,
    .refl _,o.keeps,o.rep.up ι,T3⟩
  ·exact hk.elim
 ·exact hk.elim
end Go.Eng
