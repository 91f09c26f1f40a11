/- An engine that walks through a function of the program with symbolic values, and the proofs that it is sound. No condition. -/
import Derived.RangeFuncLeaves
import Derived.RangeFuncCalls
import Derived.Below
import Derived.Lib.FrozenHead
import Derived.Laws.BytesArg
import Derived.ChangeKeysEq
open Array renaming getElem?_eq_some_iff→alh,getElem?_extract→alm,getElem?_eq_none→alr,getElem?_push→alu,getElem?_eq_getElem→alv,getElem?_modify→alx,getD_eq_getD_getElem?→alz
open BitVec renaming ofInt→alK
open Bool renaming and_eq_true→alM
open List renaming length_nil→alf,cons_append→ali,length_cons→alj,range→alA,getD_eq_getElem?_getD→alC,mem_append→alD,mem_append_left→alE,mem_append_right→alF,getElem_of_mem→alG,getElem?_eq_getElem→alH,replicate→alL
open Nat renaming add_zero→alg,add_assoc→alk,succ_mul→aln,le_refl→alo,lt_of_lt_of_le→alp,lt_or_ge→alq,le_trans→als,beq→alI,ble→alJ,eq_of_beq_eq_true→alN,zero_add→alO,mul_comm→alP,mul_add_div→alQ,div_eq_of_lt→alR,mul_add_mod→alS,mod_eq_of_lt→alT,le_of_ble_eq_true→alU,mul_one→alV
open Option renaming map_some→aly,isSome_iff_exists→alB
theorem qqO {p:Prop} (h:p:=by omega):p:=h
theorem qqR {p:Prop} (h:p:=by rfl):p:=h
theorem qqD {p:Prop} (h:p:=by decide):p:=h
theorem qqV {p:Prop} (h:p:=by decide+kernel):p:=h
theorem qqA {p:Prop} (h:p:=by assumption):p:=h
theorem qqS {p:Prop} (h:p:=by simp):p:=h
namespace Go.Eng
inductive Tok where
 |none
 |full
 |own (k:Nat)
mutual
inductive PV where
 |any
 |int (k:IntKind) (n:Int)
 |bool (b:Bool)
 |bp (b:Bool)
 |str (s:ByteArray)
 |agg (cs:List PV)
 |tup (vs:List PV)
 |fn (f:Fn) (first caps:List PV)
 |fv (f:Fn) (us vs:Array Value)
 |nilf
 |nils
 |nilp
 |nilm
 |nili
 |isl (c:CL) (t:Tok)
 |rsl (k off n:Nat)
 |ip (c:CL) (off:Nat)
 |ipe (c:CL) (i j:Nat)
 |rp (k off:Nat)
 |rpe (k m i j:Nat)
 |rm (k:Nat)
 |yld (k:Nat)
 |row (k b n:Nat)
 |rowp (k b m i j:Nat)
 |ifc (t:Nat) (v:PV)
 |nnl (c:CL)
 |rsc (k es n:Nat)
 |sln (n:Nat)
inductive CL where
 |pv (cs:List PV)
 |ints (k:IntKind) (xs:List Int)
 |bools (xs:List Bool)
 |strs (xs:List ByteArray)
 |rows (k:IntKind) (xss:List (List Int))
 |recs (m:Nat) (rs:List (List PV))
 |gen (n:Nat) (f:Nat->PV)
 |genr (m n:Nat) (f:Nat->List PV)
end
instance:Inhabited PV:=⟨.any⟩
def aG:List PV->Nat->PV
 | [],_=>.any
 |x::_,0=>x
 |_::xs,n+1=>aG xs n
def CL.cnt:CL->Nat
 |.pv cs=>cs.length
 |.ints _ xs=>xs.length
 |.bools xs=>xs.length
 |.strs xs=>xs.length
 |.rows _ xss=>xss.length
 |.recs _ rs=>rs.length
 |.gen n _=>n
 |.genr _ n _=>n
def CL.esz:CL->Nat
 |.recs m _=>m
 |.genr m _ _=>m
 |_=>1
def CL.ncell:CL->Nat
 |.pv cs=>cs.length
 |.ints _ xs=>xs.length
 |.bools xs=>xs.length
 |.strs xs=>xs.length
 |.rows _ xss=>xss.length
 |.recs m rs=>rs.length*m
 |.gen n _=>n
 |.genr m n _=>n*m
def CL.get:CL->Nat->PV
 |.pv cs,i=>aG cs i
 |.ints k xs,i=>.int k (xs.getD i 0)
 |.bools xs,i=>.bp (xs.getD i false)
 |.strs xs,i=>.str (xs.getD i .empty)
 |.rows k xss,i=>.isl (.ints k (xss.getD i [])) .none
 |.recs m rs,i=>aG (rs.getD (i / m) []) (i % m)
 |.gen _ f,i=>f i
 |.genr m _ f,i=>aG (f (i / m)) (i % m)
def CL.rcd:CL->Nat->List PV
 |.recs _ rs,i=>rs.getD i []
 |.genr _ _ f,i=>f i
 |_,_=>[]
inductive RC where
 |ints (k:IntKind) (c:Nat->List Int)
 |recs (m:Nat) (c:Nat->List (List PV))
 |fn (e n:Nat) (f:Nat->Nat->List PV)
def RC.at:RC->Nat->CL
 |.ints k c,b=>.ints k (c b)
 |.recs m c,b=>.recs m (c b)
 |.fn e n f,b=>.genr e n (f b)
def RC.kin:RC->RC->Prop
 |.ints k _,b=>match b with|.ints k' _=>k=k'|_=>False
 |.recs m _,b=>match b with|.recs m' _=>m=m'|_=>False
 |.fn e n _,b=>match b with|.fn e' n' _=>(e,n)=(e',n')|_=>False
def RC.join (a:RC) (all:List Nat) (b:RC):RC:=
 match a with
 |.ints k c=>match b with|.ints _ c'=>.ints k (λx=>if x∈all then c x else c' x)|_=>a
 |.recs m c=>match b with|.recs _ c'=>.recs m (λx=>if x∈all then c x else c' x)|_=>a
 |.fn e n c=>match b with|.fn _ _ c'=>.fn e n (λx=>if x∈all then c x else c' x)|_=>a
theorem RC.join_at {a b:RC} (h:a.kin b) (all:List Nat) (x:Nat):(a.join all b).at x=if x∈all then a.at x else b.at x:=by
 cases a<;>cases b<;>first|exact h.elim|(cases h;simp only[RC.join,RC.at];split<;>rfl)
theorem RC.join_kin {a b:RC} (h:a.kin b) (all:List Nat):(a.join all b).kin a:=by
 cases a<;>cases b<;>first|exact h.elim|rfl
theorem RC.kin_refl (a:RC):a.kin a:=by cases a<;>rfl
theorem RC.kin_trans {a b c:RC} (h:a.kin b) (g:b.kin c):a.kin c:=by
 cases a<;>cases b<;>cases c<;>first|exact h.elim|exact g.elim|exact Eq.trans h g
theorem RC.kin_symm {a b:RC} (h:a.kin b):b.kin a:=by
 cases a<;>cases b<;>first|exact h.elim|exact Eq.symm h
def bA {α:Type} (c:Nat->α) (b:Nat) (x:α):Nat->α:=λb'=>if b'=b then x else c b'
inductive AO where
 |cells (c:CL) (fz:Bool)
 |tok (esz n:Nat)
 |map (es:List (PV × PV))
 |dfr
 |loop (st:LoopState) (pend:Option Code) (ps:List Tmp) (asg body:Code) (env:List PV) (d:Nat)
 |ext (G:List PV->(Nat->Prop)->(Nat->Nat->Prop)->World->Prop) (pre:List PV)
 |mat (all l:List Nat) (rc:RC)
 |pmat (n:Nat) (rc:RC)
 |bld (t e:Nat) (s:ByteArray)
 |qmat (n:Nat) (f:Nat->Nat) (c:Nat->CL)
 |rowo (c:CL)
abbrev Env:=List PV
abbrev Hp:=List (Option AO)
inductive CK where
 |int (k:IntKind)
 |bool
 |str
structure TE where
 und:TypeDesc
 zero:Value
 size:Nat
 bytes:Nat
 cmp:Option (List CK)
 meths:List Method
def TE.isAgg (t:TE):Bool:=match t.und with|.struct _=>true|.array _ _=>true|_=>false
def av:Hp->Nat->Option AO
 | [],_=>none
 |o::_,0=>o
 |_::hs,n+1=>av hs n
def aP:Hp->Nat->AO->Hp
 | [],0,a=>[some a]
 | [],n+1,a=>none::aP [] n a
 |_::hs,0,a=>some a::hs
 |h::hs,n+1,a=>h::aP hs n a
def bE (H:Hp):List (Nat × AO)->Hp
 | []=>H
 |(k,a)::r=>bE (aP H k a) r
def bP (p:PV) (k:PV->Prop):Prop:=
 match p with
 |.any=>k .any
 |.int a b=>k (.int a b)
 |.bool b=>k (.bool b)
 |.bp b=>k (.bp b)
 |.str s=>k (.str s)
 |.agg cs=>k (.agg cs)
 |.tup cs=>k (.tup cs)
 |.fn a b c=>k (.fn a b c)
 |.fv a b c=>k (.fv a b c)
 |.nilf=>k .nilf
 |.nils=>k .nils
 |.nilp=>k .nilp
 |.nilm=>k .nilm
 |.nili=>k .nili
 |.isl a b=>k (.isl a b)
 |.rsl a b c=>k (.rsl a b c)
 |.ip a b=>k (.ip a b)
 |.ipe a b c=>k (.ipe a b c)
 |.rp a b=>k (.rp a b)
 |.rpe a b c d=>k (.rpe a b c d)
 |.rm a=>k (.rm a)
 |.yld a=>k (.yld a)
 |.row a b c=>k (.row a b c)
 |.rowp a b c d e=>k (.rowp a b c d e)
 |.ifc a b=>k (.ifc a b)
 |.nnl c=>k (.nnl c)
 |.rsc a b c=>k (.rsc a b c)
 |.sln a=>k (.sln a)
theorem bO (p:PV) (k:PV->Prop):bP p k=k p:=by cases p<;>rfl
def cB (l:List PV) (k:List PV->Prop):Prop:=
 match l with
 | []=>k []
 |x::xs=>bP x λy=>cB xs λys=>k (y::ys)
theorem bN (l:List PV):∀k,cB l k=k l:=by
 induction l with
 |nil=>intro k;rfl
 |cons x xs ih=>intro k;simp only[cB,bO,ih]
def ru:List PV->Nat->PV->(List PV->Prop)->Prop
 | [],_,_,k=>k []
 |_::xs,0,v,k=>k (v::xs)
 |x::xs,n+1,v,k=>ru xs n v (λys=>k (x::ys))
theorem mR (l:List PV):∀n v k,ru l n v k=k (l.set n v):=by
 induction l with
 |nil=>intro n v k;rfl
 |cons x xs ih=>
  intro n v k;cases n with
  |zero=>rfl
  |succ n=>simp only[ru,ih,List.set_cons_succ]
def bR:Hp->Nat->(AO->Prop)->Prop
 | [],_,_=>False
 |o::_,0,k=>match o with|some a=>k a|none=>False
 |_::hs,n+1,k=>bR hs n k
theorem bD (H:Hp):∀n k,bR H n k↔∃a,av H n=some a/\k a:=by
 induction H with
 |nil=>intro n k;simp[bR,av]
 |cons o hs ih=>
  intro n k;cases n with
  |zero=>cases o<;>simp[bR,av]
  |succ n=>simp only[bR,av,ih]
def jv:Hp->Nat->AO->(Hp->Prop)->Prop
 | [],0,a,k=>k [some a]
 | [],n+1,a,k=>jv [] n a (λh=>k (none::h))
 |_::hs,0,a,k=>k (some a::hs)
 |h::hs,n+1,a,k=>jv hs n a (λr=>k (h::r))
theorem SC (n:Nat):∀a k,jv [] n a k=k (aP [] n a):=by
 induction n with
 |zero=>intro a k;rfl
 |succ n ih=>intro a k;simp only[jv,aP,ih]
theorem lD (H:Hp):∀n a k,jv H n a k=k (aP H n a):=by
 induction H with
 |nil=>exact SC
 |cons o hs ih=>
  intro n a k;cases n with
  |zero=>rfl
  |succ n=>simp only[jv,aP,ih]
def iA:List (Nat × AO)->Hp->(Hp->Prop)->Prop
 | [],H,k=>k H
 |(i,a)::r,H,k=>jv H i a λH'=>iA r H' k
theorem iV (l:List (Nat × AO)):∀H k,iA l H k=k (bE H l):=by
 induction l with
 |nil=>intro H k;rfl
 |cons x xs ih=>intro H k;obtain⟨i,a⟩:=x;simp only[iA,lD,ih,bE]
theorem G9 (n m:Nat) (a:AO):av (aP [] n a) m=if m=n then some a else none:=by
 induction n generalizing m with
 |zero=>cases m<;>simp[aP,av]
 |succ n ih=>cases m with
  |zero=>simp[aP,av]
  |succ m=>simp[aP,av,ih]
theorem aW (H:Hp):∀(n m:Nat) (a:AO),av (aP H n a) m=if m=n then some a else av H m:=by
 induction H with
 |nil=>intro n m a;rw[G9];rfl
 |cons o hs ih=>
  intro n m a;cases n with
  |zero=>cases m<;>simp[aP,av]
  |succ n=>cases m with
   |zero=>simp[aP,av]
   |succ m=>simp[aP,av,ih]
theorem FP (n m:Nat) (a b:AO) (h:n≠m):aP (aP [] n a) m b=aP (aP [] m b) n a:=by
 induction n generalizing m with
 |zero=>cases m with
  |zero=>exact absurd rfl h
  |succ m=>simp[aP]
 |succ n ih=>cases m with
  |zero=>simp[aP]
  |succ m=>simp[aP,ih m qqO]
theorem SE (H:Hp):∀(n m:Nat) (a b:AO),n≠m->aP (aP H n a) m b=aP (aP H m b) n a:=by
 induction H with
 |nil=>exact λn m a b h=>FP n m a b h
 |cons o hs ih=>
  intro n m a b h;cases n with
  |zero=>cases m with
   |zero=>exact absurd rfl h
   |succ m=>simp[aP]
  |succ n=>cases m with
   |zero=>simp[aP]
   |succ m=>simp[aP,ih n m a b qqO]
def ofV:Value->PV
 |.int k n=>.int k n
 |.bool b=>.bool b
 |.string s=>.str s
 |.slice none 0 0=>.nils
 |.pointer none=>.nilp
 |.map none=>.nilm
 |.nilFunc=>.nilf
 |.nilIface=>.nili
 |_=>.any
def mU:List Value->List PV
 | []=>[]
 |v::vs=>ofV v::mU vs
theorem pW (l:List PV):∀(n m:Nat) (v:PV),aG (l.set n v) m=if m=n/\n<l.length then v else aG l m:=by
 induction l with
 |nil=>intro n m v;simp[aG]
 |cons x xs ih=>
  intro n m v;cases n with
  |zero=>cases m<;>simp[aG]
  |succ n=>cases m with
   |zero=>simp[aG]
   |succ m=>simp[aG,ih]
def nZ:List Int:=[1,10,100,1000,10000,100000,1000000,10000000,100000000,1000000000,10000000000,100000000000,1000000000000,10000000000000,100000000000000,1000000000000000,10000000000000000,100000000000000000,1000000000000000000,10000000000000000000]
def He:List Int:=[0,1,28,2,29,14,24,3,30,22,20,15,25,17,4,8,31,27,13,23,21,19,16,7,26,12,18,6,11,5,10,9]
def Hf:List Int:=[0,1,56,2,57,49,28,3,61,58,42,50,38,29,17,4,62,47,59,36,45,43,51,22,53,39,33,30,24,18,12,5,63,55,48,27,60,41,37,16,46,35,44,21,52,32,23,11,54,26,40,15,34,20,31,10,25,14,19,9,13,8,7,6]
def xQ:Nat->Option CL
 |8=>some (.ints .u8 He)
 |7=>some (.ints .u64 nZ)
 |9=>some (.ints .u8 Hf)
 |_=>none
def aiM:Option CL->PV
 |some c=>.ip c 0
 |none=>.any
def eo (env:Env):Operand->PV
 |.tmp t=>aG env t
 |.const v=>ofV v
 |.global g=>aiM (xQ g)
 |.func f=>.fn (.func f) [] []
end Go.Eng
namespace Go.Eng
open Go.RowKit
set_option linter.unusedSimpArgs false
set_option linter.unusedVariables false
theorem WW (x y:ByteArray):(x.toList==y.toList)=decide (x=y):=by
 rw[ByteArray.toList_eq,ByteArray.toList_eq];by_cases h:x=y
 ·subst h;simp
 ·rw[decide_eq_false h]
  simp only[beq_eq_false_iff_ne,ne_eq];exact λe=>h (Go.WideShapes.bytes_inj e)
def CK.fits:CK->Value->Prop
 |.int k,v=>∃n,v=.int k n
 |.bool,v=>∃b,v=.bool b
 |.str,v=>∃s,v=.string s
def dW (ks:List CK) (xs:Array Value) (off:Nat):Prop:=
 match ks with
 | []=>off≤xs.size
 |k::r=>(∃v,xs[off]? =some v/\k.fits v)/\dW r xs (off+1)
def fu (ks:List CK) (xs ys:Array Value) (off:Nat):Prop:=
 match ks with
 | []=>True
 |_::r=>xs[off]? =ys[off]? /\fu r xs ys (off+1)
theorem vH {ks ls:List CK}:∀{xs:Array Value} {off:Nat},dW (ks++ls) xs off↔(dW ks xs off/\dW ls xs (off+ks.length)):=by
 induction ks with
 |nil=>
  intro xs off;simp only[List.nil_append,dW,alf,alg];refine⟨λh=>⟨?_,h⟩,λh=>h.2⟩;cases ls with
  |nil=>exact h
  |cons l r=>
   obtain⟨⟨v,hv,_⟩,_⟩:=h;have:=(alh.1 hv).1;omega
 |cons k r ih=>
  intro xs off;simp only[ali,dW,ih,alj,and_assoc];rw[show off+1+r.length=off+(r.length+1) by omega]
theorem vI {ks ls:List CK}:∀{xs ys:Array Value} {off:Nat},fu (ks++ls) xs ys off↔(fu ks xs ys off/\fu ls xs ys (off+ks.length)):=by
 induction ks with
 |nil=>intro xs ys off;simp[fu]
 |cons k r ih=>
  intro xs ys off;simp only[ali,fu,ih,alj,and_assoc];rw[show off+1+r.length=off+(r.length+1) by omega]
theorem AY {ks:List CK} {xs:Array Value} {a n:Nat}:∀{off:Nat},off+ks.length≤n->dW ks xs (a+off)->dW ks (xs.extract a (a+n)) off:=by
 induction ks with
 |nil=>intro off h g;simp only[dW]at*;simp only[Array.size_extract,alf]at*;omega
 |cons k r ih=>
  intro off h g;simp only[alj]at h;obtain⟨⟨v,hv,hf⟩,g⟩:=g;refine⟨⟨v,?_,hf⟩,ih qqO (by rw[<-alk];exact g)⟩
  have hl:=(alh.1 hv).1;rw[alm,if_pos qqO];exact hv
theorem OH {ks:List CK} {xs ys:Array Value} {a n:Nat}:∀{off:Nat},off+ks.length≤n->dW ks xs (a+off)->dW ks ys (a+off)->(fu ks (xs.extract a (a+n)) (ys.extract a (a+n)) off↔fu ks xs ys (a+off)):=by
 induction ks with
 |nil=>intro off h g g';simp[fu]
 |cons k r ih=>
  intro off h g g';simp only[alj]at h;obtain⟨⟨v,hv,hf⟩,g⟩:=g;obtain⟨⟨v',hv',hf'⟩,g'⟩:=g';have hl:=(alh.1 hv).1;have hl':=(alh.1 hv').1;simp only[fu];rw[alm,alm,if_pos qqO,if_pos qqO,ih qqO (by rw[<-alk];exact g) (by rw[<-alk];exact g'),alk]
def EqT (P:Program) (t:TypeId) (ks:List CK) (n:Nat):Prop:=
 ∀(w:World) (d:Nat) (xs ys:Array Value) (off:Nat),n≤d->dW ks xs off->dW ks ys off->
  ∃a b r,(part t xs off).run P w=.ok a w/\(part t ys off).run P w=.ok b w/\(Op.equalIn d t a b).run P w=.ok r w/\(r=true↔fu ks xs ys off)
def EqA (P:Program) (t:TypeId) (ks:List CK) (n:Nat):Prop:=
 ∀(w:World) (d:Nat) (xs ys:Array Value),n≤d->dW ks xs 0->dW ks ys 0->
  ∃r,(Op.equalIn d t (.agg xs) (.agg ys)).run P w=.ok r w/\(r=true↔fu ks xs ys 0)
theorem EqT.leaf {P:Program} {t:TypeId} {k:CK} (h:match k with|.int k=>P.underlying t=some (.int k)|.bool=>P.underlying t=some .bool|.str=>P.underlying t=some .string):EqT P t [k] 1:=by
 intro w d xs ys off hd hx hy;obtain⟨⟨v,hv,hf⟩,_⟩:=hx;obtain⟨⟨u,hu,hg⟩,_⟩:=hy;obtain⟨d,rfl⟩:∃d',d=d'+1:=⟨d-1,qqO⟩;have hp:∀{zs:Array Value} {z:Value},zs[off]? =some z->(part t zs off).run P w=.ok z w:=by
  intro zs z hz;cases k<;>simp only at h<;>simp[part,isAgg,run_underlying h,hz]
 cases k with
 |int k=>
  obtain⟨m,rfl⟩:=hf;obtain⟨n,rfl⟩:=hg;exact⟨_,_,_,hp hv,hp hu,run_equalIn_int w d t k k m n h,by simp[fu,hv,hu]⟩
 |bool=>
  obtain⟨m,rfl⟩:=hf;obtain⟨n,rfl⟩:=hg;exact⟨_,_,_,hp hv,hp hu,run_equalIn_bool' w d t m n h,by simp[fu,hv,hu]⟩
 |str=>
  obtain⟨m,rfl⟩:=hf;obtain⟨n,rfl⟩:=hg;refine⟨_,_,_,hp hv,hp hu,run_equalIn_string w d t m n h,?_⟩;rw[WW];simp[fu,hv,hu]
theorem EqA.part {P:Program} {t:TypeId} {ks:List CK} {n:Nat} (h:EqA P t ks n) (ha:∃u,P.underlying t=some u/\(match u with|.struct _|.array _ _=>true|_=>false)=true) (hs:P.cellsOf t=ks.length):EqT P t ks n:=by
 intro w d xs ys off hd hx hy;obtain⟨u,hu,ha⟩:=ha;obtain⟨i,hi⟩:=info_of_underlying hu;have hp:∀zs:Array Value,(Go.part t zs off).run P w=.ok (.agg (zs.extract off (off+ks.length))) w:=by
  intro zs;cases u<;>simp only[Bool.false_eq_true]at ha<;>simp[Go.part,isAgg,run_underlying hu,run_sizeOf w hi,hs]
 obtain⟨r,h1,h2⟩:=h w d _ _ hd (AY (off:=0) (a:=off) (n:=ks.length) qqO hx) (AY (off:=0) (a:=off) (n:=ks.length) qqO hy);exact⟨_,_,r,hp xs,hp ys,h1,h2.trans (OH (off:=0) qqO hx hy)⟩
def vN (P:Program) (n:Nat):List Field->Nat->List CK->Prop
 | [],_,ks=>ks=[]
 |f::fs,off,ks=>f.name≠ "_" /\f.offset=off/\∃kf rest,ks=kf++rest/\EqT P f.type kf n/\vN P n fs (off+kf.length) rest
theorem WX {P:Program} {n:Nat} (fs:List Field):∀{off:Nat} {ks:List CK} (h:vN P n fs off ks) (w:World) (d:Nat) (xs ys:Array Value),n≤d->dW ks xs off->dW ks ys off->
 ∃r,(Op.eqFields d xs ys fs).run P w=.ok r w/\(r=true↔fu ks xs ys off):=by
 induction fs with
 |nil=>intro off ks h w d xs ys hd hx hy;cases h;exact⟨true,by simp[Op.eqFields],by simp[fu]⟩
 |cons f fs ih=>
  intro off ks h w d xs ys hd hx hy;obtain⟨h1,rfl,kf,rest,rfl,h3,h4⟩:=h;rw[vH]at hx hy;obtain⟨a,b,r,e1,e2,e3,e4⟩:=h3 w d xs ys _ hd hx.1 hy.1;obtain⟨r',e5,e6⟩:=ih h4 w d xs ys hd hx.2 hy.2;rw[Op.eqFields,if_pos h1];simp only[Sem.run_bind,e1,e2,e3,Result.andThen_ok];rw[vI,<-e4,<-e6];cases r with
  |false=>exact⟨false,qqS,qqS⟩
  |true=>exact⟨r',by simp[e5],qqS⟩
theorem EqA.struct {P:Program} {t:TypeId} {fs:Array Field} {ks:List CK} {n:Nat} (ht:P.underlying t=some (.struct fs)) (hp:P.stoodInHeld t=false) (h:vN P n fs.toList 0 ks):EqA P t ks (n+1):=by
 intro w d xs ys hd hx hy;obtain⟨d,rfl⟩:∃d',d=d'+1:=⟨d-1,qqO⟩;have hfs:P.fieldsOf t=fs:=by simp[Program.fieldsOf,ht]
 rw[run_equalIn_struct w d t xs ys (by rw[hfs];exact ht) hp,hfs]
 exact WX _ h w d xs ys qqO hx hy
def vO (ks:List CK):Nat->List CK
 |0=>[]
 |n+1=>ks++vO ks n
theorem KM {P:Program} {e:TypeId} {ke:List CK} {n:Nat} (h:EqT P e ke n) (hc:P.cellsOf e=ke.length) (m:Nat):∀(s:Nat) (w:World) (d:Nat) (xs ys:Array Value),n≤d->dW (vO ke m) xs (s*ke.length)->dW (vO ke m) ys (s*ke.length)->
 ∃r,(Op.eqItems d e (P.cellsOf e) xs ys (List.range' s m)).run P w=.ok r w/\(r=true↔fu (vO ke m) xs ys (s*ke.length)):=by
 induction m with
 |zero=>intro s w d xs ys hd hx hy;exact⟨true,by simp[Op.eqItems],by simp[fu,vO]⟩
 |succ m ih=>
  intro s w d xs ys hd hx hy;rw[vO,vH]at hx hy;rw[<-aln]at hx hy;obtain⟨a,b,r,e1,e2,e3,e4⟩:=h w d xs ys _ hd hx.1 hy.1;obtain⟨r',e5,e6⟩:=ih (s+1) w d xs ys hd hx.2 hy.2;rw[List.range'_succ,Op.eqItems];rw[hc]at e5⊢;simp only[Sem.run_bind,e1,e2,e3,Result.andThen_ok];rw[vO,vI,<-e4,<-aln,<-e6];cases r with
  |false=>exact⟨false,qqS,qqS⟩
  |true=>exact⟨r',by simp[e5],qqS⟩
theorem EqA.array {P:Program} {t e:TypeId} {m:Nat} {ke:List CK} {n:Nat} (ht:P.underlying t=some (.array m e)) (h:EqT P e ke n) (hc:P.cellsOf e=ke.length) (he:∃u,P.underlying e=some u):EqA P t (vO ke m) (n+1):=by
 intro w d xs ys hd hx hy;obtain⟨d,rfl⟩:∃d',d=d'+1:=⟨d-1,qqO⟩;obtain⟨u,hu⟩:=he;obtain⟨i,hi⟩:=info_of_underlying hu;rw[run_equalIn_array w d xs ys ht hi,List.range_eq_range'];have:=KM h hc m 0 w d xs ys qqO;simp only[Nat.zero_mul]at this;exact this hx hy
def Gf (P:Program) (t:TypeId) (ks:List CK):Prop:=P.eqGuardType P.depth t=false/\∃n,n≤9000/\EqA P t ks n
def rd (w:World) (b o:Nat):Option Value:=match w.heap[b]? with|some (.cells c _ _)=>c[o]? |_=>none
def rdv (w:World) (b o:Nat):Value:=(rd w b o).getD undef
structure Ix where
 o:Nat->Option Nat
 t:Nat->Option (Nat × Nat)
 x:Nat->Nat->Prop
def noI:Ix:=⟨λ_=>none,λ_=>none,λ_ _=>False⟩
abbrev Imm:=Nat->Nat->Prop
structure Ix.le (ι ι':Ix):Prop where
 o:∀k b,ι.o k=some b->ι'.o k=some b
 t:∀k b n,ι.t k=some (b,n)->∃b' n',ι'.t k=some (b',n')/\((b'=b/\n≤n')∨n<n')
theorem Ix.le.refl (ι:Ix):ι.le ι:=⟨λ_ _ h=>h,λ_ b n h=>⟨b,n,h,.inl ⟨rfl,alo _⟩⟩⟩
theorem Ix.le.trans {a b c:Ix} (h:a.le b) (g:b.le c):a.le c:=
 ⟨λk x hx=>g.o k x (h.o k x hx),λk x n hx=>by
  obtain⟨x1,n1,h1,h2⟩:=h.t k x n hx;obtain⟨x2,n2,g1,g2⟩:=g.t k x1 n1 h1;refine⟨x2,n2,g1,?_⟩;rcases h2 with⟨rfl,h2⟩|h2
  ·rcases g2 with⟨rfl,g2⟩|g2
   ·exact .inl ⟨rfl,qqO⟩
   ·exact .inr qqO
  ·rcases g2 with⟨rfl,g2⟩|g2
   ·exact .inr qqO
   ·exact .inr qqO⟩
inductive Rep (S:Imm) (w:World):Ix->PV->Value->Prop where
 |any (ι) (v:Value):Rep S w ι .any v
 |int (ι) (k:IntKind) (n:Int):Rep S w ι (.int k n) (.int k n)
 |bool (ι) (b:Bool):Rep S w ι (.bool b) (.bool b)
 |bp (ι) (b:Bool):Rep S w ι (.bp b) (.bool b)
 |str (ι) (s:ByteArray):Rep S w ι (.str s) (.string s)
 |agg (ι) (cs:List PV) (vs:Array Value) (hl:cs.length=vs.size) (h:∀i,i<cs.length->Rep S w ι (aG cs i) (vs.getD i undef)):Rep S w ι (.agg cs) (.agg vs)
 |tup (ι) (cs:List PV) (vs:Array Value) (hl:cs.length=vs.size) (h:∀i,i<cs.length->Rep S w ι (aG cs i) (vs.getD i undef)):Rep S w ι (.tup cs) (.tuple vs)
 |fn (ι) (f:Fn) (fs cs:List PV) (us vs:Array Value) (hk:fs.length=us.size) (hl:cs.length=vs.size)
  (h:∀i,i<fs.length->Rep S w ι (aG fs i) (us.getD i undef)) (h':∀i,i<cs.length->Rep S w ι (aG cs i) (vs.getD i undef)):Rep S w ι (.fn f fs cs) (.func f us vs)
 |fv (ι) (f:Fn) (us vs:Array Value):Rep S w ι (.fv f us vs) (.func f us vs)
 |nilf (ι):Rep S w ι .nilf .nilFunc
 |nils (ι):Rep S w ι .nils (.slice none 0 0)
 |nilp (ι):Rep S w ι .nilp (.pointer none)
 |nilm (ι):Rep S w ι .nilm (.map none)
 |nili (ι):Rep S w ι .nili .nilIface
 |islnil (ι) (c:CL) (t:Tok) {a:Option Addr} (h:c.cnt=0):Rep S w ι (.isl c t) (.slice a 0 0)
 |isl (ι) (c:CL) (t:Tok) (b off cap:Nat) (hc:c.cnt≤cap) (hs:∀j,j<c.ncell->S b (off+j)) (h:∀j,j<c.ncell->Rep S w noI (c.get j) (rdv w b (off+j)))
  (hf:t=.full->cap=c.cnt) (ho:∀k,t=.own k->cap=0∨∃b1 n,ι.t k=some (b1,n)/\c.cnt≤n/\((b1=b/\off=0/\∀j,j<cap*c.esz->(rd w b j).isSome)∨c.cnt<n)):Rep S w ι (.isl c t) (.slice (some ⟨b,off,none⟩) c.cnt cap)
 |rsl (ι) (k off n b cap:Nat) (hk:ι.o k=some b) (hc:n≤cap) (hr:off=0->∀j,j<cap->(rd w b j).isSome):Rep S w ι (.rsl k off n) (.slice (some ⟨b,off,none⟩) n cap)
 |rslz (ι) (k off b o:Nat) (hk:ι.o k=some b):Rep S w ι (.rsl k off 0) (.slice (some ⟨b,o,none⟩) 0 0)
 |ip (ι) (c:CL) (off b o:Nat) (hs:∀j,j<c.ncell->S b (o+j)) (h:∀j,j<c.ncell->Rep S w noI (c.get j) (rdv w b (o+j))):Rep S w ι (.ip c off) (.pointer (some ⟨b,o+off,none⟩))
 |ipe (ι) (c:CL) (i j b o:Nat) (hs:∀j,j<c.ncell->S b (o+j)) (h:∀j,j<c.ncell->Rep S w noI (c.get j) (rdv w b (o+j))):Rep S w ι (.ipe c i j) (.pointer (some ⟨b,o+(i*c.esz+j),none⟩))
 |rp (ι) (k off b:Nat) (hk:ι.o k=some b):Rep S w ι (.rp k off) (.pointer (some ⟨b,off,none⟩))
 |rpe (ι) (k m i j b:Nat) (hk:ι.o k=some b):Rep S w ι (.rpe k m i j) (.pointer (some ⟨b,i*m+j,none⟩))
 |rm (ι) (k b:Nat) (hk:ι.o k=some b):Rep S w ι (.rm k) (.map (some b))
 |yld (ι) (k b:Nat) (hk:ι.o k=some b):Rep S w ι (.yld k) (.func (.yield b) #[] #[])
 |row (ι) (k b n cap:Nat) (hc:n≤cap):Rep S w ι (.row k b n) (.slice (some ⟨b,0,none⟩) n cap)
 |ifc (ι) (t:Nat) (p:PV) (v:Value) (h:Rep S w ι p v):Rep S w ι (.ifc t p) (.iface t v)
 |nnl0 (ι) (c:CL) (h:c.cnt=0):Rep S w ι (.nnl c) (.slice none 0 0)
 |nnl1 (ι) (c:CL) (b off cap:Nat) (h0:0<c.cnt) (hc:c.cnt≤cap) (hs:∀j,j<c.ncell->S b (off+j)) (h:∀j,j<c.ncell->Rep S w noI (c.get j) (rdv w b (off+j))):Rep S w ι (.nnl c) (.slice (some ⟨b,off,none⟩) c.cnt cap)
 |rowp (ι) (k b m i j:Nat):Rep S w ι (.rowp k b m i j) (.pointer (some ⟨b,i*m+j,none⟩))
 |rsc (ι) (k es n b cap:Nat) (hk:ι.o k=some b) (hc:n≤cap) (he:0<es) (hr:∀j,j<cap*es->(rd w b j).isSome):Rep S w ι (.rsc k es n) (.slice (some ⟨b,0,none⟩) n cap)
 |sln (ι) (n cap:Nat) (a:Option Addr):Rep S w ι (.sln n) (.slice a n cap)
structure Keeps (S:Imm) (w:World) (S':Imm) (w':World):Prop where
 imm:∀b j,S b j->S' b j/\rd w' b j=rd w b j
 cells:∀b j,(rd w b j).isSome->(rd w' b j).isSome
theorem Keeps.refl (S:Imm) (w:World):Keeps S w S w:=⟨λ_ _ h=>⟨h,rfl⟩,λ_ _ h=>h⟩
theorem Keeps.trans {S S' S'':Imm} {w w' w'':World} (h:Keeps S w S' w') (g:Keeps S' w' S'' w''):Keeps S w S'' w'':=
 ⟨λb j hs=>let⟨a,e⟩:=h.imm b j hs;let⟨a',e'⟩:=g.imm b j a;⟨a',e'.trans e⟩,λb j hs=>g.cells b j (h.cells b j hs)⟩
theorem Rep.mono {S S':Imm} {w w':World} (hk:Keeps S w S' w') {ι:Ix} {p:PV} {v:Value} (h:Rep S w ι p v):
 ∀ι':Ix,ι.le ι'->Rep S' w' ι' p v:=by
 induction h with
 |any ι v=>exact λι' _=>.any _ _
 |int ι k n=>exact λι' _=>.int _ _ _
 |bool ι b=>exact λι' _=>.bool _ _
 |bp ι b=>exact λι' _=>.bp _ _
 |str ι s=>exact λι' _=>.str _ _
 |agg ι cs vs hl h ih=>exact λι' hi=>.agg _ _ _ hl λi hlt=>ih i hlt ι' hi
 |tup ι cs vs hl h ih=>exact λι' hi=>.tup _ _ _ hl λi hlt=>ih i hlt ι' hi
 |fn ι f fs cs us vs hk hl h h' ih ih'=>exact λι' hi=>.fn _ _ _ _ _ _ hk hl (λi hlt=>ih i hlt ι' hi) (λi hlt=>ih' i hlt ι' hi)
 |fv ι f us vs=>exact λι' _=>.fv _ _ _ _
 |nilf ι=>exact λι' _=>.nilf _
 |nils ι=>exact λι' _=>.nils _
 |nilp ι=>exact λι' _=>.nilp _
 |nilm ι=>exact λι' _=>.nilm _
 |nili ι=>exact λι' _=>.nili _
 |islnil ι c t h=>exact λι' _=>.islnil _ _ _ h
 |isl ι c t b off cap hc hs h hf ho ih=>
  exact λι' hi=>.isl _ _ _ _ _ _ hc (λj hj=>(hk.imm _ _ (hs j hj)).1) (λj hj=>by
   have:=ih j hj noI (.refl _);simp only[rdv,(hk.imm _ _ (hs j hj)).2]at this⊢;exact this) hf (λk hk'=>by
   rcases ho k hk' with h0|⟨b1,n,h1,h2,h3⟩
   ·exact .inl h0
   refine .inr ?_;obtain⟨b2,n',g1,g2⟩:=hi.t _ _ _ h1;refine⟨b2,n',g1,qqO,?_⟩;rcases h3 with⟨e1,e2,e3⟩|h3
   ·rcases g2 with⟨e4,g2⟩|g2
    ·exact .inl ⟨e4.trans e1,e2,λj hj=>hk.cells _ _ (e3 j hj)⟩
    ·exact .inr qqO
   ·exact .inr qqO)
 |rslz ι k off b o hk'=>exact λι' hi=>.rslz _ _ _ _ _ (hi.o _ _ hk')
 |rsl ι k off n b cap hk' hc hr=>exact λι' hi=>.rsl _ _ _ _ _ _ (hi.o _ _ hk') hc (λh0 j hj=>hk.cells _ _ (hr h0 j hj))
 |ip ι c off b o hs h ih=>
  exact λι' hi=>.ip _ _ _ _ _ (λj hj=>(hk.imm _ _ (hs j hj)).1) (λj hj=>by
   have:=ih j hj noI (.refl _);simp only[rdv,(hk.imm _ _ (hs j hj)).2]at this⊢;exact this)
 |ipe ι c i j b o hs h ih=>
  exact λι' hi=>.ipe _ _ _ _ _ _ (λj hj=>(hk.imm _ _ (hs j hj)).1) (λj hj=>by
   have:=ih j hj noI (.refl _);simp only[rdv,(hk.imm _ _ (hs j hj)).2]at this⊢;exact this)
 |rp ι k off b hk'=>exact λι' hi=>.rp _ _ _ _ (hi.o _ _ hk')
 |rpe ι k m i j b hk'=>exact λι' hi=>.rpe _ _ _ _ _ _ (hi.o _ _ hk')
 |rm ι k b hk'=>exact λι' hi=>.rm _ _ _ (hi.o _ _ hk')
 |yld ι k b hk'=>exact λι' hi=>.yld _ _ _ (hi.o _ _ hk')
 |row ι k b n cap hc=>exact λι' hi=>.row _ _ _ _ _ hc
 |ifc ι t p v h ih=>exact λι' hi=>.ifc _ _ _ _ (ih ι' hi)
 |rowp ι k b m i j=>exact λι' hi=>.rowp _ _ _ _ _ _
 |rsc ι k es n b cap hk' hc he hr=>exact λι' hi=>.rsc _ _ _ _ _ _ (hi.o _ _ hk') hc he (λj hj=>hk.cells _ _ (hr j hj))
 |sln ι n cap a=>exact λι' hi=>.sln _ _ _ _
 |nnl0 ι c h=>exact λι' _=>.nnl0 _ _ h
 |nnl1 ι c b off cap h0 hc hs h ih=>
  exact λι' hi=>.nnl1 _ _ _ _ _ h0 hc (λj hj=>(hk.imm _ _ (hs j hj)).1) (λj hj=>by
   have:=ih j hj noI (.refl _);simp only[rdv,(hk.imm _ _ (hs j hj)).2]at this⊢;exact this)
theorem Rep.dropC {S:Imm} {w:World} {ι:Ix} {k es n:Nat} {v:Value} (h:Rep S w ι (.rsc k es n) v):Rep S w ι (.rsl k 0 n) v:=by
 cases h with|rsc _ _ _ _ b cap hk hc he hr=>exact .rsl _ _ _ _ _ _ hk hc (λ_ j hj=>hr j (alp hj (Nat.le_mul_of_pos_right _ he)))
def bH (S:Imm) (w:World) (ι:Ix) (ps:List PV) (vs:Array Value):Prop:=
 ps.length=vs.size/\∀i,i<ps.length->Rep S w ι (aG ps i) (vs.getD i undef)
theorem bH.mono {S S':Imm} {w w':World} (hk:Keeps S w S' w') {ι ι':Ix} {ps:List PV} {vs:Array Value} (h:bH S w ι ps vs)
 (hi:ι.le ι'):bH S' w' ι' ps vs:=⟨h.1,λi hlt=>(h.2 i hlt).mono hk ι' hi⟩
def bsz (w:World) (b:Nat):Option Nat:=match w.heap[b]? with|some (.cells c _ _)=>some c.size|_=>none
theorem gM {w w':World} {b:Nat} (h:w'.heap[b]? =w.heap[b]?):bsz w' b=bsz w b:=by unfold bsz;rw[h]
theorem afU {w:World} {b n:Nat} (h:bsz w b=some n):b<w.heap.size:=by
 rcases alq b w.heap.size with h'|h'
 ·exact h'
 ·unfold bsz at h;rw[alr h']at h;cases h
structure Bel (w w':World):Prop where
 os:w'.os=w.os
 tape:w'.tape=w.tape
 output:w'.output=w.output
 size:w.heap.size≤w'.heap.size
 len:∀b,b<w.heap.size->bsz w' b=bsz w b
theorem Bel.refl (w:World):Bel w w:=⟨rfl,rfl,rfl,alo _,λ_ _=>rfl⟩
theorem Bel.trans {a b c:World} (h:Bel a b) (k:Bel b c):Bel a c:=⟨k.os.trans h.os,k.tape.trans h.tape,k.output.trans h.output,als h.size k.size,λx hx=>(k.len x (alp hx h.size)).trans (h.len x hx)⟩
def Unf (o:Option Obj):Prop:=∀a:Nat,(match o with|some (.cells _ _ (lo,hi))=>(lo≤a&&a<hi:Bool)|_=>false)=false
theorem jy:Unf none:=λ_=>rfl
theorem eu (c:Array Value) (t:TypeId):Unf (some (.cells c t (0,0))):=λa=>qqS
theorem Bel.block {w w':World} (b:Nat) (os:w'.os=w.os) (tape:w'.tape=w.tape) (output:w'.output=w.output) (size:w.heap.size≤w'.heap.size) (other:∀b',b'≠b->w'.heap[b']? =w.heap[b']?)
 (h:Unf w.heap[b]?) (h':Unf w'.heap[b]?) (hl:b<w.heap.size->bsz w' b=bsz w b:=by exact λh=>absurd h (Nat.lt_irrefl _)):Bel w w':=by
 refine⟨os,tape,output,size,λx hx=>?_⟩;by_cases e:x=b
 ·subst e;exact hl hx
 ·exact gM (other _ e)
def gB:Imm->World->Prop:=λS w=>∀g c,xQ g=some c->bsz w g=some c.ncell/\∀j,j<c.ncell->S g j/\Rep S w noI (c.get j) (rdv w g j)
theorem oV {S S':Imm} {w w':World} (hk:Keeps S w S' w') (hb:Bel w w') (h:gB S w):gB S' w':=λg c hg=>by
 obtain⟨h0,h⟩:=h g c hg;refine⟨(hb.len g (afU h0)).trans h0,λj hj=>?_⟩;obtain⟨h1,h2⟩:=h j hj;refine⟨(hk.imm _ _ h1).1,?_⟩;have:=h2.mono hk noI (.refl _);simp only[rdv,(hk.imm _ _ h1).2]at this⊢;exact this
def AO.has (ι:Ix) (k:Nat):AO->Nat->Prop
 |.cells _ fz,b=>(match fz with|true=>False|false=>ι.o k=some b)
 |.tok _ _,b=>∃n,ι.t k=some (b,n)
 |.ext _ _,b=>ι.x k b
 |.mat _ _ _,b=>ι.x k b
 |.pmat _ _,b=>ι.x k b
 |.bld _ _ _,b=>ι.x k b
 |.qmat _ _ _,b=>ι.x k b
 |_,b=>ι.o k=some b
def AO.isTok:AO->Bool
 |.tok _ _=>true
 |_=>false
def AO.isExt:AO->Bool
 |.ext _ _=>true
 |.mat _ _ _=>true
 |.pmat _ _=>true
 |.bld _ _ _=>true
 |.qmat _ _ _=>true
 |_=>false
def vP (G:List PV->(Nat->Prop)->Imm->World->Prop):Prop:=
 ∀pre D S w S' w',Keeps S w S' w'->Bel w w'->(∀b,D b->w'.heap[b]? =w.heap[b]?)->(∀b j,D b->S' b j->S b j)->G pre D S w->G pre D S' w'
def pX (S:Imm) (w:World) (c:CL) (b:Nat):Prop:=
 ∃arr e,w.heap[b]? =some (.cells arr e (0,0))/\c.ncell≤arr.size/\(∀j,j<c.ncell->Rep S w noI (c.get j) (arr.getD j undef))/\∀j,¬S b j
def iK (S:Imm) (w:World) (ι:Ix) (k:Nat) (all l:List Nat) (rc:RC):Prop:=
 ∃b arr e,ι.o k=some b/\w.heap[b]? =some (.cells arr e (0,0))/\l.length≤arr.size/\(∀j,¬S b j)/\b∉all/\(∀b',ι.x k b'↔(b'=b∨b'∈all))/\
  (∀r,r∈all->pX S w (rc.at r) r)/\
  ∀i,i<l.length->l.getD i 0∈all/\∃cap,(rc.at (l.getD i 0)).cnt≤cap/\arr.getD i undef=.slice (some ⟨l.getD i 0,0,none⟩) (rc.at (l.getD i 0)).cnt cap
def gu (S:Imm) (w:World) (ι:Ix) (k n:Nat) (f:Nat->Nat) (c:Nat->CL):Prop:=
 ∃b arr e,∃l:Nat->Nat,ι.o k=some b/\w.heap[b]? =some (.cells arr e (0,0))/\n≤arr.size/\(∀j,¬S b j)/\(∀b',ι.x k b'↔(b'=b∨∃i,i<n/\f i=2/\l i=b'))/\
  (∀i,i<n->f i=2->l i≠b/\pX S w (c i) (l i)/\0<(c i).esz/\∃cap,(c i).cnt≤cap/\(∀j,j<cap*(c i).esz->(rd w (l i) j).isSome)/\arr.getD i undef=.slice (some ⟨l i,0,none⟩) (c i).cnt cap)/\
  (∀i,i<n->f i=1->arr.getD i undef=.slice none 0 0)/\
  ∀i j,i<n->j<n->f i=2->f j=2->l i=l j->i=j
def mV (S:Imm) (w:World) (ι:Ix) (k t e:Nat) (s:ByteArray):Prop:=
 ∃b p v,ι.o k=some b/\w.heap[b]? =some (.cells #[p,v] t (0,0))/\(p=.pointer none∨p=.pointer (some ⟨b,0,none⟩))/\(∀b' j,ι.x k b'->¬S b' j)/\v.ownBlock≠some b/\
  w.ownsRowF 0 e 1 v s.size (Lib.strCells s)/\∀b',ι.x k b'↔(b'=b∨v.ownBlock=some b')
def gY (S:Imm) (w:World) (ι:Ix) (k:Nat):AO->Prop
 |.cells c fz=>(match fz with
  |true=>∃b,ι.o k=some b/\∀j,j<c.ncell->S b j/\Rep S w noI (c.get j) (rdv w b j)
  |false=>∃b arr e,ι.o k=some b/\w.heap[b]? =some (.cells arr e (0,0))/\c.ncell≤arr.size/\
   (∀j,j<c.ncell->Rep S w ι (c.get j) (arr.getD j undef))/\∀j,¬S b j)
 |.tok esz n=>(n=0->ι.t k=none)/\(0<n->∃b arr e,ι.t k=some (b,n)/\w.heap[b]? =some (.cells arr e (0,0))/\∀j,S b j->j<n*esz)
 |.map es=>∃b ents clock,ι.o k=some b/\w.heap[b]? =some (.map ents clock)/\ents.size=es.length/\
  ∀i (h:i<es.length) (h':i<ents.size),Rep S w ι es[i].1 ents[i].key/\Rep S w ι es[i].2 ents[i].val
 |.dfr=>∃b,ι.o k=some b/\w.heap[b]? =some (.deferred (some []))
 |.loop st pend ps asg body env d=>∃b fn tmps db,ι.o k=some b/\w.heap[b]? =some (.loop {state:=st,pending:=pend,fn:=fn,tmps:=tmps,params:=ps.toArray,assign:=asg,body:=body,defers:=db})/\
  bH S w ι env tmps
 |.ext G pre=>(∀b,ι.x k b->b<w.heap.size)/\vP G/\G pre (ι.x k) S w
 |.mat all l rc=>iK S w ι k all l rc
 |.pmat n rc=>∃all l rc',iK S w ι k all l rc'/\rc'.kin rc/\l.length=n/\l.Nodup/\(∀b,b∈all->b∈l)/\∀i,i<n->rc'.at (l.getD i 0)=rc.at i
 |.bld t e s=>mV S w ι k t e s
 |.qmat n f c=>gu S w ι k n f c
 |.rowo c=>∃b,ι.o k=some b/\pX S w c b
def AO.excl:AO->Bool
 |.cells _ fz=>!fz
 |_=>true
structure Mem (S:Imm) (w:World) (ι:Ix) (H:Hp):Prop where
 obj:∀k o,av H k=some o->gY S w ι k o
 liveO:∀k b,ι.o k=some b->∃o,av H k=some o/\o.isTok=false
 liveT:∀k x,ι.t k=some x->∃o,av H k=some o/\o.isTok=true
 dist:∀k k' o o' b,av H k=some o->av H k'=some o'->o.has ι k b->o'.has ι k' b->k=k'
 imm:∀b j,S b j->(rd w b j).isSome
def owned (ι:Ix) (H:Hp) (b:Nat):Prop:=∃k o,av H k=some o/\o.excl=true/\o.has ι k b
structure Tr (p:Nat) (S:Imm) (w:World) (ι:Ix) (H:Hp) (S':Imm) (w':World) (ι':Ix) (H':Hp):Prop where
 below:Bel w w'
 same:∀b,b<w.heap.size->¬owned ι H b->w'.heap[b]? =w.heap[b]?
 keeps:Keeps S w S' w'
 immN:∀b j,b<w.heap.size->S' b j->S b j∨owned ι H b
 own:∀b,owned ι' H' b->owned ι H b∨w.heap.size≤b
 protO:∀k,k<p->∀b,ι.o k=some b->ι'.o k=some b
 protT:∀k,k<p->∀b n,ι.t k=some (b,n)->∃b' n',ι'.t k=some (b',n')/\((b'=b/\n≤n')∨n<n')
theorem Tr.refl (p:Nat) (S:Imm) (w:World) (ι:Ix) (H:Hp):Tr p S w ι H S w ι H:=
 ⟨Bel.refl _,λ_ _ _=>rfl,Keeps.refl _ _,λ_ _ _ h=>.inl h,λ_ h=>.inl h,λ_ _ _ h=>h,λ_ _ b n h=>⟨b,n,h,.inl ⟨rfl,alo _⟩⟩⟩
theorem Tr.trans {p:Nat} {S S' S'':Imm} {w w' w'':World} {ι ι' ι'':Ix} {H H' H'':Hp}
 (h:Tr p S w ι H S' w' ι' H') (g:Tr p S' w' ι' H' S'' w'' ι'' H''):Tr p S w ι H S'' w'' ι'' H'':=by
 have hsz:=h.below.size;refine⟨h.below.trans g.below,λb hb ho=>?_,h.keeps.trans g.keeps,λb j hb hs=>?_,λb ho=>?_,λk hk b hi=>g.protO k hk b (h.protO k hk b hi),λk hk b n hi=>?_⟩
 ·rw[g.same b qqO (λho'=>?_)]
  ·exact h.same b hb ho
  ·rcases h.own b ho' with h1|h1
   ·exact ho h1
   ·omega
 ·rcases g.immN b j qqO hs with h1|h1
  ·exact h.immN b j hb h1
  ·rcases h.own b h1 with h2|h2
   ·exact .inr h2
   ·omega
 ·rcases g.own b ho with h1|h1
  ·exact h.own b h1
  ·exact .inr qqO
 ·obtain⟨x1,n1,h1,h2⟩:=h.protT k hk b n hi
  obtain⟨x2,n2,g1,g2⟩:=g.protT k hk x1 n1 h1;refine⟨x2,n2,g1,?_⟩;rcases h2 with⟨rfl,h2⟩|h2
  ·rcases g2 with⟨rfl,g2⟩|g2
   ·exact .inl ⟨rfl,qqO⟩
   ·exact .inr qqO
  ·rcases g2 with⟨rfl,g2⟩|g2
   ·exact .inr qqO
   ·exact .inr qqO
theorem eZ {w:World} {b j:Nat} (h:(rd w b j).isSome):b<w.heap.size:=by
 unfold rd at h;rcases alq b w.heap.size with h1|h1
 ·exact h1
 ·rw[alr h1]at h;simp at h
theorem aL {w:World} {b:Nat} {arr:Array Value} {e:TypeId} {f:Nat × Nat} (h:w.heap[b]? =some (.cells arr e f)) (j:Nat):rd w b j=arr[j]? :=by
 simp[rd,h]
theorem dH {w w':World} {b:Nat} (h:w'.heap[b]? =w.heap[b]?) (j:Nat):rd w' b j=rd w b j:=by
 simp[rd,h]
theorem pX.mono {S S':Imm} {w w':World} (hk:Keeps S w S' w') {c:CL} {b:Nat} (h:pX S w c b) (hb:w'.heap[b]? =w.heap[b]?) (hs:∀j,S' b j->S b j):pX S' w' c b:=by
 obtain⟨arr,e,h1,h2,h3,h4⟩:=h;exact⟨arr,e,hb.trans h1,h2,λj hj=>(h3 j hj).mono hk _ (.refl _),λj hj=>h4 j (hs j hj)⟩
theorem iK.mono {S S':Imm} {w w':World} (hk:Keeps S w S' w') {ι ι':Ix} (hi:ι.le ι') {k:Nat} {all l:List Nat} {rc:RC} (h:iK S w ι k all l rc)
 (hb:∀b,ι.x k b->w'.heap[b]? =w.heap[b]?) (hx:ι'.x k=ι.x k) (hs:∀b j,ι.x k b->S' b j->S b j):iK S' w' ι' k all l rc:=by
 obtain⟨b,arr,e,h1,h2,h3,h4,h5,h6,h7,h8⟩:=h;have hx0:ι.x k b:=(h6 b).2 (.inl rfl);refine⟨b,arr,e,hi.o _ _ h1,(hb b hx0).trans h2,h3,λj hj=>h4 j (hs b j hx0 hj),h5,λb'=>by rw[hx];exact h6 b',λr hr=>?_,h8⟩
 have hxr:ι.x k r:=(h6 r).2 (.inr hr);exact(h7 r hr).mono hk (hb r hxr) (λj hj=>hs r j hxr hj)
theorem mW {w w':World} {e:TypeId} {v:Value} {n:Nat} {xs:List Value} (h:w.ownsRowF 0 e 1 v n xs) (hb:∀b,v.ownBlock=some b->w'.heap[b]? =w.heap[b]?):w'.ownsRowF 0 e 1 v n xs:=by
 refine⟨h.1,?_⟩;rcases h.2 with h1|⟨g,cap,cur,fz,h1,h2,h3,h4⟩
 ·exact .inl h1
 ·exact .inr ⟨g,cap,cur,fz,h1,h2,(hb g (by subst h1;rfl)).trans h3,h4⟩
theorem mV.mono {S S':Imm} {w w':World} {ι ι':Ix} (hi:ι.le ι') {k t e:Nat} {s:ByteArray} (h:mV S w ι k t e s)
 (hb:∀b,ι.x k b->w'.heap[b]? =w.heap[b]?) (hx:ι'.x k=ι.x k) (hs:∀b j,ι.x k b->S' b j->S b j):mV S' w' ι' k t e s:=by
 obtain⟨b,p,v,h1,h2,h3,h4,h5,h6,h7⟩:=h;refine⟨b,p,v,hi.o _ _ h1,(hb b ((h7 b).2 (.inl rfl))).trans h2,h3,λb' j hx' hs'=>?_,h5,mW h6 (λb' hb'=>hb b' ((h7 b').2 (.inr hb'))),λb'=>by rw[hx];exact h7 b'⟩
 rw[hx]at hx';exact h4 b' j hx' (hs b' j hx' hs')
theorem mV.cong {S:Imm} {w:World} {ι ι1:Ix} {k k1 t e:Nat} {s:ByteArray} (h:mV S w ι k t e s) (ho:ι1.o k1=ι.o k) (hx:ι1.x k1=ι.x k):mV S w ι1 k1 t e s:=by
 obtain⟨b,p,v,h1,h2,h3,h4,h5,h6,h7⟩:=h;exact⟨b,p,v,ho.trans h1,h2,h3,by rw[hx];exact h4,h5,h6,λb'=>by rw[hx];exact h7 b'⟩
theorem mV.lt {S:Imm} {w:World} {ι:Ix} {k t e:Nat} {s:ByteArray} (h:mV S w ι k t e s) {b:Nat} (hb:ι.x k b):b<w.heap.size:=by
 obtain⟨b0,p,v,h1,h2,h3,h4,h5,h6,h7⟩:=h;rcases(h7 b).1 hb with rfl|h
 ·rcases alq b w.heap.size with g|g
  ·exact g
  ·rw[alr g]at h2;cases h2
 ·exact(h6.lt b h).2
theorem gu.mono {S S':Imm} {w w':World} (hk:Keeps S w S' w') {ι ι':Ix} (hi:ι.le ι') {k n:Nat} {f:Nat->Nat} {c:Nat->CL} (h:gu S w ι k n f c)
 (hb:∀b,ι.x k b->w'.heap[b]? =w.heap[b]?) (hx:ι'.x k=ι.x k) (hs:∀b j,ι.x k b->S' b j->S b j):gu S' w' ι' k n f c:=by
 obtain⟨b,arr,e,l,h1,h2,h3,h4,h5,h6,h7,h8⟩:=h;have hx0:ι.x k b:=(h5 b).2 (.inl rfl);refine⟨b,arr,e,l,hi.o _ _ h1,(hb b hx0).trans h2,h3,λj hj=>h4 j (hs b j hx0 hj),λb'=>by rw[hx];exact h5 b',λi hi hf=>?_,h7,h8⟩
 obtain⟨g1,g2,g3,cap,g4,g5,g6⟩:=h6 i hi hf;have hxr:ι.x k (l i):=(h5 _).2 (.inr ⟨i,hi,hf,rfl⟩);exact⟨g1,g2.mono hk (hb _ hxr) (λj hj=>hs _ j hxr hj),g3,cap,g4,λj hj=>hk.cells _ _ (g5 j hj),g6⟩
theorem gu.cong {S:Imm} {w:World} {ι ι1:Ix} {k k1 n:Nat} {f:Nat->Nat} {c:Nat->CL} (h:gu S w ι k n f c) (ho:ι1.o k1=ι.o k) (hx:ι1.x k1=ι.x k):gu S w ι1 k1 n f c:=by
 obtain⟨b,arr,e,l,h1,h2,h3,h4,h5,h6⟩:=h;exact⟨b,arr,e,l,ho.trans h1,h2,h3,h4,λb'=>by rw[hx];exact h5 b',h6⟩
theorem gu.with {S:Imm} {w:World} {ι:Ix} {k n:Nat} {f f':Nat->Nat} {c c':Nat->CL} (h:gu S w ι k n f c) (hf:∀i,i<n->f i=f' i) (hc:∀i,i<n->f' i=2->c i=c' i):gu S w ι k n f' c':=by
 obtain⟨b,arr,e,l,h1,h2,h3,h4,h5,h6,h7,h8⟩:=h;refine⟨b,arr,e,l,h1,h2,h3,h4,λb'=>(h5 b').trans (or_congr Iff.rfl ⟨λ⟨i,hi,g,e⟩=>⟨i,hi,(hf i hi).symm.trans g,e⟩,λ⟨i,hi,g,e⟩=>⟨i,hi,(hf i hi).trans g,e⟩⟩),λi hi g=>?_,λi hi g=>h7 i hi ((hf i hi).trans g),λi j hi hj gi gj=>h8 i j hi hj ((hf i hi).trans gi) ((hf j hj).trans gj)⟩;rw[<-hc i hi g];exact h6 i hi ((hf i hi).trans g)
theorem gu.lt {S:Imm} {w:World} {ι:Ix} {k n:Nat} {f:Nat->Nat} {c:Nat->CL} (h:gu S w ι k n f c) {b:Nat} (hb:ι.x k b):b<w.heap.size:=by
 obtain⟨b0,arr,e,l,h1,h2,h3,h4,h5,h6,_⟩:=h;have key:∀{x:Nat} {o:Obj},w.heap[x]? =some o->x<w.heap.size:=λ{x o} hx=>by
  rcases alq x w.heap.size with g|g
  ·exact g
  ·rw[alr g]at hx;cases hx
 rcases(h5 b).1 hb with rfl|⟨i,hi,hf,rfl⟩
 ·exact key h2
 ·obtain⟨_,⟨arr2,e2,g2,_⟩,_⟩:=h6 i hi hf
  exact key g2
theorem gY.mono {S S':Imm} {w w':World} (hk:Keeps S w S' w') {ι ι':Ix} (hi:ι.le ι') {k:Nat} {o:AO} (h:gY S w ι k o)
 (hbw:Bel w w') (hb:∀b,o.has ι k b->w'.heap[b]? =w.heap[b]?) (hn:o.isTok=true->ι'.t k=ι.t k) (hx:ι'.x k=ι.x k) (hs:∀b j,o.has ι k b->S' b j->S b j):gY S' w' ι' k o:=by
 cases o with
 |cells c fz=>
  cases fz with
  |true=>
   obtain⟨b,h1,h2⟩:=h;refine⟨b,hi.o _ _ h1,λj hj=>⟨(hk.imm _ _ (h2 j hj).1).1,?_⟩⟩;have:=(h2 j hj).2.mono hk _ (.refl _);simp only[rdv,(hk.imm _ _ (h2 j hj).1).2]at this⊢;exact this
  |false=>
   obtain⟨b,arr,e,h1,h2,h3,h4,h5⟩:=h;exact⟨b,arr,e,hi.o _ _ h1,(hb b h1).trans h2,h3,λj hj=>(h4 j hj).mono hk _ hi,λj hj=>h5 j (hs b j h1 hj)⟩
 |tok esz n=>
  obtain⟨h1,h2⟩:=h;have ht:=hn rfl;refine⟨λhz=>ht.trans (h1 hz),λhz=>?_⟩;obtain⟨b,arr,e,h3,h4,h5⟩:=h2 hz;have hbl:(AO.tok esz n).has ι k b:=⟨_,h3⟩;exact⟨b,arr,e,ht.trans h3,(hb b hbl).trans h4,λj hj=>h5 j (hs b j hbl hj)⟩
 |map es=>
  obtain⟨b,ents,clock,h1,h2,h3,h4⟩:=h;exact⟨b,ents,clock,hi.o _ _ h1,(hb b h1).trans h2,h3,λi hl hl'=>⟨(h4 i hl hl').1.mono hk _ hi,(h4 i hl hl').2.mono hk _ hi⟩⟩
 |dfr=>
  obtain⟨b,h1,h2⟩:=h;exact⟨b,hi.o _ _ h1,(hb b h1).trans h2⟩
 |loop st pend ps asg body env d=>
  obtain⟨b,fn,tmps,db,h1,h2,h3⟩:=h;exact⟨b,fn,tmps,db,hi.o _ _ h1,(hb b h1).trans h2,h3.mono hk hi⟩
 |ext G pre=>
  obtain⟨h1,h2,h3⟩:=h;refine⟨λb hb'=>?_,h2,?_⟩
  ·rw[hx]at hb';have:=h1 b hb';have:=hbw.size;omega
  ·rw[hx];exact h2 _ _ _ _ _ _ hk hbw hb hs h3
 |mat all l rc=>exact iK.mono hk hi h hb hx hs
 |pmat n rc=>
  obtain⟨all,l,rc',h1,h2⟩:=h;exact⟨all,l,rc',iK.mono hk hi h1 hb hx hs,h2⟩
 |bld t e s=>exact mV.mono hi h hb hx hs
 |qmat n f c=>exact gu.mono hk hi h hb hx hs
 |rowo c=>
  obtain⟨b,h1,h2⟩:=h;exact⟨b,hi.o _ _ h1,h2.mono hk (hb b h1) (λj hj=>hs b j h1 hj)⟩
def Fw (r:Option Nat):Fence:={Fence.wide with round:=r}
structure xR (w:World) (ι:Ix) (H:Hp) (ds:List Deferred):Prop where
 all:∀d∈ds,∃b,d.target=.collected b/\w.heap[b]? =some (.deferred (some []))/\¬owned ι H b
 nodup:ds.Pairwise λd d'=>∀b b',d.target=.collected b->d'.target=.collected b'->b≠b'
theorem xR.nil (w:World) (ι:Ix) (H:Hp):xR w ι H []:=⟨λ_ h=>by simp at h,.nil⟩
theorem xR.tr {p:Nat} {S S':Imm} {w w':World} {ι ι':Ix} {H H':Hp} {ds:List Deferred} (h:xR w ι H ds) (t:Tr p S w ι H S' w' ι' H'):xR w' ι' H' ds:=by
 refine⟨λd hd=>?_,h.nodup⟩;obtain⟨b,h1,h2,h3⟩:=h.all d hd;have hb:b<w.heap.size:=by
  rcases alq b w.heap.size with h4|h4
  ·exact h4
  ·rw[alr h4]at h2;simp at h2
 refine⟨b,h1,(t.same b hb h3).trans h2,λho=>?_⟩;rcases t.own b ho with h4|h4
 ·exact h3 h4
 ·omega
theorem lt_of_heap {w:World} {b:Nat} {o:Obj} (h:w.heap[b]? =some o):b<w.heap.size:=by
 rcases alq b w.heap.size with h1|h1
 ·exact h1
 ·rw[alr h1]at h;simp at h
theorem iK.lt {S:Imm} {w:World} {ι:Ix} {k:Nat} {all l:List Nat} {rc:RC} (h:iK S w ι k all l rc) {b:Nat} (hb:ι.x k b):b<w.heap.size:=by
 obtain⟨b0,arr,e,h1,h2,_,_,_,h6,h7,_⟩:=h;rcases(h6 b).1 hb with rfl|hr
 ·exact lt_of_heap h2
 ·obtain⟨_,_,g1,_⟩:=h7 b hr;exact lt_of_heap g1
theorem gY.lt {S:Imm} {w:World} {ι:Ix} {k:Nat} {o:AO} (h:gY S w ι k o) {b:Nat} (hb:o.has ι k b):b<w.heap.size:=by
 cases o with
 |cells c fz=>cases fz with
  |true=>exact hb.elim
  |false=>obtain⟨b',arr,e,h1,h2,_⟩:=h;simp only[AO.has]at hb;rw[h1]at hb;cases hb;exact lt_of_heap h2
 |tok esz n=>
  obtain⟨h1,h2⟩:=h;obtain⟨m,hb⟩:=hb;rcases Nat.eq_zero_or_pos n with hz|hz
  ·rw[h1 hz]at hb;simp at hb
  ·obtain⟨b',arr,e,h3,h4,_⟩:=h2 hz
   rw[h3]at hb;cases hb;exact lt_of_heap h4
 |map es=>obtain⟨b',ents,cl,h1,h2,_⟩:=h;simp only[AO.has]at hb;rw[h1]at hb;cases hb;exact lt_of_heap h2
 |dfr=>obtain⟨b',h1,h2⟩:=h;simp only[AO.has]at hb;rw[h1]at hb;cases hb;exact lt_of_heap h2
 |loop st pend ps asg body env d=>obtain⟨b',fn,tmps,db,h1,h2,_⟩:=h;simp only[AO.has]at hb;rw[h1]at hb;cases hb;exact lt_of_heap h2
 |ext G pre=>exact h.1 b hb
 |mat all l rc=>exact iK.lt h hb
 |pmat n rc=>obtain⟨_,_,_,h,_⟩:=h;exact iK.lt h hb
 |bld t e s=>exact mV.lt h hb
 |qmat n f c=>exact gu.lt h hb
 |rowo c=>
  obtain⟨b',h1,arr,e,h2,_⟩:=h;have hb:ι.o k=some b:=hb;rw[h1]at hb;cases hb;exact lt_of_heap h2
theorem Mem.step1 {S:Imm} {w:World} {ι:Ix} {H:Hp} (M:Mem S w ι H) {S':Imm} {w':World} {ι':Ix} {k:Nat} {o':AO} {b:Nat}
 (below:Bel w w') (other:∀b',b'<w.heap.size->b'≠b->w'.heap[b']? =w.heap[b']?) (keeps:Keeps S w S' w')
 (hS:∀b' j,S' b' j->S b' j∨b'=b) (himm:∀j,S' b j->(rd w' b j).isSome)
 (hle:ι.le ι') (hio:∀k',k'≠k->ι'.o k'=ι.o k') (hit:∀k',k'≠k->ι'.t k'=ι.t k') (hix:ι'.x=ι.x)
 (hb:w.heap.size≤b∨∃o,av H k=some o/\o.excl=true/\o.has ι k b)
 (hk:∀b',o'.has ι' k b'->b'=b) (hoT:o'.isTok=true->ι'.o k=none) (hoO:o'.isTok=false->ι'.t k=none)
 (hobj:gY S' w' ι' k o'):Mem S' w' ι' (aP H k o')/\∀p,Tr p S w ι H S' w' ι' (aP H k o'):=by
 have hne:∀k' o b',k'≠k->av H k'=some o->o.has ι k' b'->b'<w.heap.size/\b'≠b:=by
  intro k' o b' hk' ho hbl;have hlt:=(M.obj k' o ho).lt hbl;refine⟨hlt,λe=>?_⟩;subst e;rcases hb with hb|⟨o2,h1,h2,h3⟩
  ·omega
  ·exact hk' (M.dist k' k o o2 b' ho h1 hbl h3)
 have hbl':∀k' o b',k'≠k->(AO.has ι' k' o b'↔AO.has ι k' o b'):=by
  intro k' o b' hk';cases o<;>simp[AO.has,hio k' hk',hit k' hk',hix]
 have hk:=λ{b'}=>hk b';refine⟨⟨?_,?_,?_,?_,?_⟩,λp=>⟨below,?_,keeps,?_,?_,?_,?_⟩⟩
 ·intro k' o ho
  rw[aW]at ho;by_cases hk':k'=k
  ·subst hk';simp at ho;subst ho;exact hobj
  ·rw[if_neg hk']at ho
   refine(M.obj k' o ho).mono keeps hle below (λb' hb'=>?_) (λ_=>hit k' hk') (by rw[hix]) (λb' j hb' hs=>?_)
   ·obtain⟨h1,h2⟩:=hne k' o b' hk' ho hb'
    exact other b' h1 h2
   ·rcases hS b' j hs with h1|h1
    ·exact h1
    ·exact absurd h1 (hne k' o b' hk' ho hb').2
 ·intro k' b' h
  rw[aW];by_cases hk':k'=k
  ·subst hk'
   refine⟨o',qqS,?_⟩;cases hT:o'.isTok with
   |false=>rfl
   |true=>rw[hoT hT]at h;simp at h
  ·rw[if_neg hk'];rw[hio k' hk']at h;exact M.liveO k' b' h
 ·intro k' x h
  rw[aW];by_cases hk':k'=k
  ·subst hk'
   refine⟨o',qqS,?_⟩;cases hT:o'.isTok with
   |true=>rfl
   |false=>rw[hoO hT]at h;simp at h
  ·rw[if_neg hk'];rw[hit k' hk']at h;exact M.liveT k' x h
 ·intro k1 k2 o1 o2 b' h1 h2 hb1 hb2
  rw[aW]at h1 h2;by_cases e1:k1=k
  ·by_cases e2:k2=k
   ·rw[e1,e2]
   ·subst e1;simp at h1;subst h1;rw[if_neg e2]at h2;rw[hbl' k2 o2 _ e2]at hb2
    have hb1:=hk hb1;exact absurd hb1 (hne k2 o2 _ e2 h2 hb2).2
  ·rw[if_neg e1]at h1;rw[hbl' k1 o1 _ e1]at hb1
   by_cases e2:k2=k
   ·subst e2;simp at h2;subst h2
    have hb2:=hk hb2;exact absurd hb2 (hne k1 o1 _ e1 h1 hb1).2
   ·rw[if_neg e2]at h2;rw[hbl' k2 o2 _ e2]at hb2
    exact M.dist k1 k2 o1 o2 b' h1 h2 hb1 hb2
 ·intro b' j hs
  by_cases e:b'=b
  ·subst e;exact himm j hs
  ·rcases hS b' j hs with h1|h1
   ·rw[(keeps.imm b' j h1).2];exact M.imm b' j h1
   ·exact absurd h1 e
 ·intro b' hlt ho
  refine other b' hlt (λe=>?_);subst e;rcases hb with hb|⟨o2,h1,h2,h3⟩
  ·omega
  ·exact ho ⟨k,o2,h1,h2,h3⟩
 ·intro b' j hlt hs
  rcases hS b' j hs with h1|h1
  ·exact .inl h1
  ·subst h1
   rcases hb with hb|⟨o2,h1,h2,h3⟩
   ·omega
   ·exact .inr ⟨k,o2,h1,h2,h3⟩
 ·rintro b' ⟨k',o,h1,h2,h3⟩
  rw[aW]at h1;by_cases e1:k'=k
  ·subst e1;simp at h1;subst h1;have h3:=hk h3;subst h3
   rcases hb with hb|⟨o2,g1,g2,g3⟩
   ·exact .inr hb
   ·exact .inl ⟨k',o2,g1,g2,g3⟩
  ·rw[if_neg e1]at h1;rw[hbl' k' o _ e1]at h3
   exact .inl ⟨k',o,h1,h2,h3⟩
 ·exact λk' _ b' h=>hle.o k' b' h
 ·exact λk' _ b' n h=>hle.t k' b' n h
theorem Mem.step {S:Imm} {w:World} {ι:Ix} {H:Hp} (M:Mem S w ι H) {S':Imm} {w':World} {ι':Ix} {k:Nat} {o':AO} {b:Nat}
 (below:Bel w w') (other:∀b',b'<w.heap.size->b'≠b->w'.heap[b']? =w.heap[b']?) (keeps:Keeps S w S' w')
 (hS:∀b' j,S' b' j->S b' j∨b'=b) (himm:∀j,S' b j->(rd w' b j).isSome)
 (hle:ι.le ι') (hio:∀k',k'≠k->ι'.o k'=ι.o k') (hit:∀k',k'≠k->ι'.t k'=ι.t k') (hix:ι'.x=ι.x)
 (hb:w.heap.size≤b∨∃o,av H k=some o/\o.excl=true/\o.has ι k b)
 (hk:∀b',o'.has ι' k b'↔b'=b) (hoT:o'.isTok=true->ι'.o k=none) (hoO:o'.isTok=false->ι'.t k=none)
 (hobj:gY S' w' ι' k o'):Mem S' w' ι' (aP H k o')/\∀p,Tr p S w ι H S' w' ι' (aP H k o'):=
 M.step1 below other keeps hS himm hle hio hit hix hb (λb'=>(hk b').1) hoT hoO hobj
def Ix.seto (ι:Ix) (k b:Nat):Ix:=⟨λk'=>if k'=k then some b else ι.o k',ι.t,ι.x⟩
def Ix.sett (ι:Ix) (k b n:Nat):Ix:=⟨ι.o,λk'=>if k'=k then some (b,n)else ι.t k',ι.x⟩
theorem Mem.none_o {S:Imm} {w:World} {ι:Ix} {H:Hp} (M:Mem S w ι H) {k:Nat} (h:av H k=none):ι.o k=none:=by
 cases e:ι.o k with
 |none=>rfl
 |some b=>obtain⟨o,h1,_⟩:=M.liveO k b e;rw[h]at h1;cases h1
theorem Mem.none_t {S:Imm} {w:World} {ι:Ix} {H:Hp} (M:Mem S w ι H) {k:Nat} (h:av H k=none):ι.t k=none:=by
 cases e:ι.t k with
 |none=>rfl
 |some b=>obtain⟨o,h1,_⟩:=M.liveT k b e;rw[h]at h1;cases h1
theorem jS {ι:Ix} {k b:Nat} (h:ι.o k=none):ι.le (ι.seto k b):=
 ⟨λk' b' h'=>by
  by_cases e:k'=k
  ·subst e;rw[h]at h';cases h'
  ·simp[Ix.seto,e,h'],λk' b' n h'=>⟨b',n,h',.inl ⟨rfl,alo _⟩⟩⟩
theorem iQ {w:World} {o:Obj} {b:Nat} (h:b<w.heap.size):({w with heap:=w.heap.push o}:World).heap[b]? =w.heap[b]? :=by
 simp only[alu];rw[if_neg qqO]
theorem gV (w:World) (o:Obj):({w with heap:=w.heap.push o}:World).heap[w.heap.size]? =some o:=qqS
theorem iW (w:World) (o:Obj) (ho:Unf (some o)):Bel w {w with heap:=w.heap.push o}:=
 .block w.heap.size rfl rfl rfl qqS (λb' hb'=>by simp only[alu];rw[if_neg hb']) (by rw[alr (alo _)];exact jy) (by rw[gV];exact ho)
theorem kG {S:Imm} {w:World} (hi:∀b j,S b j->(rd w b j).isSome) (o:Obj):Keeps S w S {w with heap:=w.heap.push o}:=by
 have:∀b j,(rd w b j).isSome->rd {w with heap:=w.heap.push o} b j=rd w b j:=λb j h=>dH (iQ (eZ h)) j;exact⟨λb j h=>⟨h,this b j (hi b j h)⟩,λb j h=>by rw[this b j h];exact h⟩
theorem Mem.new {S:Imm} {w:World} {ι:Ix} {H:Hp} (M:Mem S w ι H) {k:Nat} (hk:av H k=none) {c:CL} {arr:Array Value} {e:TypeId}
 (hn:c.ncell≤arr.size) (hc:∀j,j<c.ncell->Rep S w ι (c.get j) (arr.getD j undef)):
 Mem S {w with heap:=w.heap.push (.cells arr e)} (ι.seto k w.heap.size) (aP H k (.cells c false))/\
 ∀p,Tr p S w ι H S {w with heap:=w.heap.push (.cells arr e)} (ι.seto k w.heap.size) (aP H k (.cells c false)):=by
 have ho:=M.none_o hk;have hkeep:=kG M.imm (w:=w) (.cells arr e);have hnoS:∀j,¬S w.heap.size j:=λj hs=>by have:=eZ (M.imm _ _ hs);omega
 refine M.step (b:=w.heap.size) (iW _ _ (eu _ _)) (λb' hb' _=>iQ hb') hkeep (λb' j h=>.inl h) (λj h=>absurd h (hnoS j))
  (jS ho) (λk' h=>by simp[Ix.seto,h]) (λ_ _=>rfl) rfl (.inl (alo _)) (λb'=>by simp[AO.has,Ix.seto,eq_comm]) (by simp[AO.isTok]) (λ_=>M.none_t hk) ?_
 exact⟨w.heap.size,arr,e,by simp[Ix.seto],gV _ _,hn,λj hj=>(hc j hj).mono hkeep _ (jS ho),hnoS⟩
structure Upd (w w':World) (b:Nat) (arr':Array Value) (e:TypeId):Prop where
 below:Bel w w'
 other:∀b',b'≠b->w'.heap[b']? =w.heap[b']?
 here:w'.heap[b]? =some (.cells arr' e (0,0))
theorem Upd.keeps {S:Imm} {w w':World} {b:Nat} {arr arr':Array Value} {e:TypeId} (u:Upd w w' b arr' e) (h:w.heap[b]? =some (.cells arr e (0,0)))
 (hsz:arr.size≤arr'.size) (hS:∀j,S b j->arr'[j]? =arr[j]?):Keeps S w S w':=by
 refine⟨λb' j hs=>⟨hs,?_⟩,λb' j hs=>?_⟩
 ·by_cases eb:b'=b
  ·subst eb;rw[aL u.here,aL h];exact hS j hs
  ·exact dH (u.other b' eb) j
 ·by_cases eb:b'=b
  ·subst eb
   rw[aL h]at hs;rw[aL u.here];have:j<arr.size:=by
    rcases alq j arr.size with h1|h1
    ·exact h1
    ·rw[alr h1]at hs;simp at hs
   rw[alv qqO];rfl
  ·rw[dH (u.other b' eb) j];exact hs
theorem Mem.write {S:Imm} {w w':World} {ι:Ix} {H:Hp} (M:Mem S w ι H) {k b:Nat} {c c':CL} {arr arr':Array Value} {e:TypeId}
 (ho:av H k=some (.cells c false)) (hk:ι.o k=some b) (h:w.heap[b]? =some (.cells arr e (0,0))) (u:Upd w w' b arr' e) (hsz:arr.size≤arr'.size)
 (hn:c'.ncell≤arr'.size) (hc:∀j,j<c'.ncell->Rep S w ι (c'.get j) (arr'.getD j undef)):
 Mem S w' ι (aP H k (.cells c' false))/\∀p,Tr p S w ι H S w' ι (aP H k (.cells c' false)):=by
 obtain⟨b0,arr0,e0,h1,h2,h3,h4,h5⟩:=M.obj k _ ho;rw[hk]at h1;cases h1
 have hkeep:Keeps S w S w':=u.keeps h hsz (λj hs=>absurd hs (h5 j));have ht:ι.t k=none:=by
  cases et:ι.t k with
  |none=>rfl
  |some x=>obtain⟨o,g1,g2⟩:=M.liveT k x et;rw[ho]at g1;cases g1;simp[AO.isTok]at g2
 refine M.step (b:=b) u.below (λb' _ hb'=>u.other b' hb') hkeep (λb' j h=>.inl h) (λj hs=>absurd hs (h5 j)) (.refl _) (λ_ _=>rfl) (λ_ _=>rfl)
  rfl (.inr ⟨_,ho,rfl,hk⟩) (λb'=>by simp[AO.has,hk,eq_comm]) (by simp[AO.isTok]) (λ_=>ht) ?_
 exact⟨b,arr',e,hk,u.here,hn,λj hj=>(hc j hj).mono hkeep _ (.refl _),h5⟩
theorem jA {w:World} {b o:Nat}:w.cell? ⟨b,o,none⟩=rd w b o:=by
 unfold World.cell? rd;cases w.heap[b]? with
 |none=>rfl
 |some x=>cases x<;>rfl
theorem OI {w:World} {b o:Nat} {arr:Array Value} {e:TypeId} (h:w.heap[b]? =some (.cells arr e (0,0))):w.frozen? ⟨b,o,none⟩=false:=by
 simp[World.frozen?,h]
theorem zi {w:World} {b o:Nat} {arr:Array Value} {e:TypeId} (h:w.heap[b]? =some (.cells arr e (0,0))) (v:Value):
 Upd w (w.setCell ⟨b,o,none⟩ v) b (arr.setIfInBounds o v) e:=by
 have here:(w.setCell ⟨b,o,none⟩ v).heap[b]? =some (.cells (arr.setIfInBounds o v) e (0,0)):=by
  simp only[World.setCell,alx,if_true,h,aly];simp
 refine⟨.block b rfl rfl rfl (by simp[World.setCell]) (λb' hb'=>Below.heap_setCell w _ v b' hb') (by rw[h];exact eu _ _) (by rw[here];exact eu _ _) (λ_=>by simp[bsz,h,here]),λb' hb'=>Below.heap_setCell w _ v b' hb',?_⟩
 simp only[World.setCell,alx,if_true,h,aly];simp
theorem fQ (b o n:Nat):(⟨b,o,none⟩:Addr).add n=⟨b,o+n,none⟩:=by
 unfold Addr.add;split
 ·subst_vars;rfl
 ·rfl
def putRow (arr:Array Value):Nat->List Value->Array Value
 |_,[]=>arr
 |o,v::vs=>putRow (arr.setIfInBounds o v) (o+1) vs
theorem cK (vs:List Value):∀(arr:Array Value) (o:Nat),(putRow arr o vs).size=arr.size:=by
 induction vs with
 |nil=>intro arr o;rfl
 |cons v vs ih=>intro arr o;simp[putRow,ih]
theorem fP (vs:List Value):∀(arr:Array Value) (o j:Nat),o+vs.length≤arr.size->
 (putRow arr o vs).getD j undef=if o≤j/\j<o+vs.length then vs.getD (j-o) undef else arr.getD j undef:=by
 induction vs with
 |nil=>intro arr o j h;simp only[putRow,alf];rw[if_neg qqO]
 |cons v vs ih=>
  intro arr o j h;simp only[alj]at h;rw[putRow,ih _ _ _ (by simp;omega)]
  by_cases h1:j=o
  ·subst h1
   rw[if_neg qqO,if_pos (by simp only[alj];omega)]
   simp[alz,show j<arr.size by omega]
  ·by_cases h2:o+1≤j/\j<o+1+vs.length
   ·rw[if_pos h2,if_pos (by simp only[alj];omega)]
    obtain⟨d,rfl⟩:∃d,j=o+1+d:=⟨j-(o+1),qqO⟩;rw[show o+1+d-(o+1)=d by omega,show o+1+d-o=d+1 by omega];simp
   ·rw[if_neg h2,if_neg (by simp only[alj];omega)]
    simp[alz,Ne.symm h1]
theorem bT (P:Program) (vs:List Value):∀{w:World} {b o i:Nat} {arr:Array Value} {e:TypeId} (h:w.heap[b]? =some (.cells arr e (0,0)))
 (hv:∀v∈vs,v.oneCell'=true) (hsz:o+i+vs.length≤arr.size),∃w',(storeCells ⟨b,o,none⟩ vs i).run P w=.ok () w'/\Upd w w' b (putRow arr (o+i) vs) e:=by
 induction vs with
 |nil=>intro w b o i arr e h hv hsz;exact⟨w,rfl,⟨Bel.refl _,λ_ _=>rfl,h⟩⟩
 |cons v vs ih=>
  intro w b o i arr e h hv hsz;simp only[alj]at hsz;have u:=zi (o:=o+i) h v;obtain⟨w',h1,h2⟩:=ih (o:=o) (i:=i+1) u.here (λx hx=>hv x (List.mem_cons_of_mem _ hx)) (by simp;omega)
  refine⟨w',?_,⟨u.below.trans h2.below,λb' hb'=>(h2.other b' hb').trans (u.other b' hb'),?_⟩⟩
  ·rw[storeCells]
   have hcell:w.cell? ⟨b,o+i,none⟩=some arr[o+i]:=by rw[jA,aL h,alv qqO]
   simp only[Sem.run_bind,fQ,run_store P w _ v _ (hv v qqS),hcell,OI h,Result.andThen];simpa using h1
  ·have:=h2.here
   rw[show o+(i+1)=o+i+1 by omega]at this
   exact this
theorem run_loadCellsFrom (P:Program) {w:World} {b o:Nat} (n:Nat):∀(i:Nat) (acc:Array Value),(∀j,j<n->(rd w b (o+i+j)).isSome)->
 (loadCellsFrom ⟨b,o,none⟩ i n acc).run P w=.ok (acc++((alA n).map λj=>rdv w b (o+i+j)).toArray) w:=by
 induction n with
 |zero=>intro i acc h;simp[loadCellsFrom]
 |succ n ih=>
  intro i acc h;have h0:=h 0 qqO;obtain⟨v,hv⟩:=alB.1 h0;rw[loadCellsFrom];simp only[Sem.run_bind,fQ,run_load,jA];rw[show o+i=o+i+0 by omega,hv]
  simp only[Result.andThen];rw[ih (i+1) _ (λj hj=>by have:=h (j+1) qqO;rwa [show o+i+(j+1)=o+(i+1)+j by omega]at this)]
  congr 1
  rw[List.range_succ_eq_map];simp only[List.map_cons,List.map_map];have e1:rdv w b (o+i+0)=v:=by unfold rdv;rw[hv];rfl
  rw[e1];apply Array.ext';simp only[Array.toList_append,Array.toList_push,List.append_assoc,List.singleton_append];congr 2;apply List.map_congr_left;intro j hj;simp only[Function.comp];congr 1;omega
theorem run_loadCells (P:Program) {w:World} {b o n:Nat} (h:∀j,j<n->(rd w b (o+j)).isSome):
 (loadCells ⟨b,o,none⟩ n).run P w=.ok ((alA n).map λj=>rdv w b (o+j)).toArray w:=by
 have:=run_loadCellsFrom P (w:=w) (b:=b) (o:=o) n 0 #[] (by simpa using h)
 simpa [loadCells]using this
theorem Mem.multi {S:Imm} {w w':World} {ι ι':Ix} {H H':Hp} (M:Mem S w ι H) (C:Nat->Prop) (below:Bel w w') (keeps:Keeps S w S w') (le:ι.le ι')
 (hH:∀k,¬C k->av H' k=av H k) (ho:∀k,¬C k->ι'.o k=ι.o k) (ht:∀k,¬C k->ι'.t k=ι.t k) (hx:∀k,¬C k->ι'.x k=ι.x k)
 (other:∀b,b<w.heap.size->(∀k o,C k->av H k=some o->o.excl=true->¬o.has ι k b)->w'.heap[b]? =w.heap[b]?)
 (hobj:∀k o',C k->av H' k=some o'->gY S w' ι' k o')
 (hblk:∀k o' b,C k->av H' k=some o'->o'.has ι' k b->w.heap.size≤b∨∃k0 o0,C k0/\av H k0=some o0/\o0.excl=true/\o0.has ι k0 b)
 (liveO:∀k b,C k->ι'.o k=some b->∃o,av H' k=some o/\o.isTok=false) (liveT:∀k x,C k->ι'.t k=some x->∃o,av H' k=some o/\o.isTok=true)
 (dist:∀k1 k2 o1 o2 b,C k1->C k2->av H' k1=some o1->av H' k2=some o2->o1.has ι' k1 b->o2.has ι' k2 b->k1=k2):
 Mem S w' ι' H'/\∀p,Tr p S w ι H S w' ι' H':=by
 have hne:∀k o b,¬C k->av H k=some o->o.has ι k b->b<w.heap.size/\∀k0 o0,C k0->av H k0=some o0->o0.excl=true->¬o0.has ι k0 b:=by
  intro k o b hk h1 h2;refine⟨(M.obj k o h1).lt h2,λk0 o0 g1 g2 _ g4=>?_⟩;have:=M.dist k k0 o o0 b h1 g2 h2 g4;subst this;exact hk g1
 have hhas:∀k o b,¬C k->(AO.has ι' k o b↔AO.has ι k o b):=by
  intro k o b hk;cases o<;>simp[AO.has,ho k hk,ht k hk,hx k hk]
 have mixed:∀k1 k2 o1 o2 b,C k1->¬C k2->av H' k1=some o1->av H k2=some o2->o1.has ι' k1 b->o2.has ι k2 b->False:=by
  intro k1 k2 o1 o2 b c1 c2 h1 h2 b1 b2;obtain⟨hlt,hno⟩:=hne k2 o2 b c2 h2 b2;rcases hblk k1 o1 b c1 h1 b1 with h|⟨k0,o0,g1,g2,g3,g4⟩
  ·omega
  ·exact hno k0 o0 g1 g2 g3 g4
 refine⟨⟨λk o h=>?_,λk b h=>?_,λk x h=>?_,λk1 k2 o1 o2 b h1 h2 b1 b2=>?_,λb j hs=>?_⟩,λp=>⟨below,λb hb hno=>?_,keeps,λb j _ h=>.inl h,?_,λk _ b h=>le.o k b h,λk _ b n h=>le.t k b n h⟩⟩
 ·by_cases c:C k
  ·exact hobj k o c h
  ·rw[hH k c]at h
   refine(M.obj k o h).mono keeps le below (λb hb=>?_) (λ_=>ht k c) (hx k c) (λ_ _ _ h=>h);obtain⟨h1,h2⟩:=hne k o b c h hb;exact other b h1 h2
 ·by_cases c:C k
  ·exact liveO k b c h
  ·rw[hH k c];rw[ho k c]at h;exact M.liveO k b h
 ·by_cases c:C k
  ·exact liveT k x c h
  ·rw[hH k c];rw[ht k c]at h;exact M.liveT k x h
 ·by_cases c1:C k1
  ·by_cases c2:C k2
   ·exact dist k1 k2 o1 o2 b c1 c2 h1 h2 b1 b2
   ·rw[hH k2 c2]at h2;exact(mixed k1 k2 o1 o2 b c1 c2 h1 h2 b1 ((hhas _ _ _ c2).1 b2)).elim
  ·rw[hH k1 c1]at h1
   by_cases c2:C k2
   ·exact(mixed k2 k1 o2 o1 b c2 c1 h2 h1 b2 ((hhas _ _ _ c1).1 b1)).elim
   ·rw[hH k2 c2]at h2;exact M.dist k1 k2 o1 o2 b h1 h2 ((hhas _ _ _ c1).1 b1) ((hhas _ _ _ c2).1 b2)
 ·rw[(keeps.imm b j hs).2];exact M.imm b j hs
 ·exact other b hb (λk o _ h1 h2 h3=>hno ⟨k,o,h1,h2,h3⟩)
 ·rintro b ⟨k,o,h1,h2,h3⟩
  by_cases c:C k
  ·rcases hblk k o b c h1 h3 with h|⟨k0,o0,_,g2,g3,g4⟩
   ·exact .inr h
   ·exact .inl ⟨k0,o0,g2,g3,g4⟩
  ·rw[hH k c]at h1;exact .inl ⟨k,o,h1,h2,(hhas _ _ _ c).1 h3⟩
theorem Mem.stay {S:Imm} {w w':World} {ι:Ix} {H:Hp} (M:Mem S w ι H) {k:Nat} {o o':AO} (hk:av H k=some o) (hx:o.excl=true) (hT:o.isTok=false) (hT':o'.isTok=false) (below:Bel w w') (keeps:Keeps S w S w')
 (other:∀b,¬o.has ι k b->w'.heap[b]? =w.heap[b]?) (hhas:∀b,o'.has ι k b->o.has ι k b) (hobj:gY S w' ι k o'):Mem S w' ι (aP H k o')/\∀p,Tr p S w ι H S w' ι (aP H k o'):=by
 have hg:av (aP H k o') k=some o':=by rw[aW];simp
 refine M.multi (λk'=>k'=k) below keeps (.refl _) (λk' h=>by rw[aW,if_neg h]) (λ_ _=>rfl) (λ_ _=>rfl) (λ_ _=>rfl)
  (λb _ h=>other b (h k o rfl hk hx)) (λk' o2 e h=>?_) (λk' o2 b e h hb=>?_) (λk' b e _=>?_) (λk' x e h=>?_) (λk1 k2 _ _ _ e1 e2 _ _ _ _=>e1.trans e2.symm)
 ·subst e;rw[hg]at h;cases h;exact hobj
 ·subst e;rw[hg]at h;cases h;exact .inr ⟨k',o,rfl,hk,hx,hhas b hb⟩
 ·subst e;exact⟨_,hg,hT'⟩
 ·subst e
  obtain⟨o3,g1,g2⟩:=M.liveT k' x h;rw[hk]at g1;cases g1;rw[hT]at g2;cases g2
theorem Mem.matOrd {S:Imm} {w w':World} {ι:Ix} {H:Hp} (M:Mem S w ι H) {k b0:Nat} {all l l':List Nat} {rc:RC} (hk:av H k=some (.mat all l rc)) (hb0:ι.o k=some b0)
 {arr arr':Array Value} {e:TypeId} (h0:w.heap[b0]? =some (.cells arr e (0,0))) (u:Upd w w' b0 arr' e) (hsz:arr.size≤arr'.size) (hl:l'.length≤arr'.size)
 (hc:∀i,i<l'.length->l'.getD i 0∈all/\∃cap,(rc.at (l'.getD i 0)).cnt≤cap/\arr'.getD i undef=.slice (some ⟨l'.getD i 0,0,none⟩) (rc.at (l'.getD i 0)).cnt cap):
 Mem S w' ι (aP H k (.mat all l' rc))/\Keeps S w S w'/\∀p,Tr p S w ι H S w' ι (aP H k (.mat all l' rc)):=by
 obtain⟨b,arr0,e0,h1,h2,h3,h4,h5,h6,h7,h8⟩:=M.obj k _ hk;rw[hb0]at h1;cases h1
 have hkeep:Keeps S w S w':=u.keeps h0 hsz (λj hs=>absurd hs (h4 j));have:=M.stay (o':=.mat all l' rc) hk rfl rfl rfl u.below hkeep (λb hb=>u.other b (λeb=>hb (by rw[eb];exact(h6 b0).2 (.inl rfl)))) (λb hb=>hb)
  ⟨b0,arr',e,hb0,u.here,hl,h4,h5,h6,λr hr=>(h7 r hr).mono hkeep (u.other r (λer=>h5 (er▸hr))) (λ_ h=>h),hc⟩
 exact⟨this.1,hkeep,this.2⟩
theorem Mem.matRow {S:Imm} {w w':World} {ι:Ix} {H:Hp} (M:Mem S w ι H) {k b:Nat} {all l:List Nat} {rc rc':RC} (hk:av H k=some (.mat all l rc)) (hb:b∈all)
 {arr arr':Array Value} {e:TypeId} (h0:w.heap[b]? =some (.cells arr e (0,0))) (u:Upd w w' b arr' e) (hsz:arr.size≤arr'.size)
 (hne:∀b',b'≠b->rc'.at b'=rc.at b') (hcnt:(rc'.at b).cnt=(rc.at b).cnt) (hn:(rc'.at b).ncell≤arr'.size) (hc:∀j,j<(rc'.at b).ncell->Rep S w noI ((rc'.at b).get j) (arr'.getD j undef)):
 Mem S w' ι (aP H k (.mat all l rc'))/\Keeps S w S w'/\∀p,Tr p S w ι H S w' ι (aP H k (.mat all l rc')):=by
 obtain⟨b0,arr0,e0,h1,h2,h3,h4,h5,h6,h7,h8⟩:=M.obj k _ hk;have hnS:∀j,¬S b j:=by obtain⟨_,_,_,_,_,g⟩:=h7 b hb;exact g
 have hkeep:Keeps S w S w':=u.keeps h0 hsz (λj hs=>absurd hs (hnS j));have hcn:∀b',(rc'.at b').cnt=(rc.at b').cnt:=λb'=>by
  by_cases eb:b'=b
  ·subst eb;exact hcnt
  ·rw[hne b' eb]
 have:=M.stay (o':=.mat all l rc') hk rfl rfl rfl u.below hkeep (λb2 hb2=>u.other b2 (λeb=>hb2 (by rw[eb];exact(h6 b).2 (.inr hb)))) (λb hb=>hb)
  ⟨b0,arr0,e0,h1,(u.other b0 (λeb=>h5 (eb▸hb))).trans h2,h3,h4,h5,h6,λr hr=>?_,λi hi=>?_⟩
 ·exact⟨this.1,hkeep,this.2⟩
 ·by_cases er:r=b
  ·subst er
   exact⟨arr',e,u.here,hn,λj hj=>(hc j hj).mono hkeep _ (.refl _),hnS⟩
  ·rw[hne r er]
   exact(h7 r hr).mono hkeep (u.other r er) (λ_ h=>h)
 ·obtain⟨g1,cap,g2,g3⟩:=h8 i hi
  exact⟨g1,cap,by rw[hcn];exact g2,by rw[hcn];exact g3⟩
def Ix.setm (ι:Ix) (n b:Nat) (X:Nat->Prop):Ix:=⟨λk=>if k=n then some b else ι.o k,ι.t,λk=>if k=n then X else ι.x k⟩
theorem abY {ι:Ix} {n b:Nat} {X:Nat->Prop} (h:ι.o n=none):ι.le (ι.setm n b X):=
 ⟨λk b' h'=>by
  by_cases e:k=n
  ·subst e;rw[h]at h';cases h'
  ·simp[Ix.setm,e,h'],λk b' m h'=>⟨b',m,h',.inl ⟨rfl,alo _⟩⟩⟩
theorem SF {ι:Ix} {n b k:Nat} {X:Nat->Prop} (h:k≠n):(ι.setm n b X).o k=ι.o k:=by simp[Ix.setm,h]
theorem afV {ι:Ix} {n b k:Nat} {X:Nat->Prop} (h:k≠n):(ι.setm n b X).x k=ι.x k:=by simp[Ix.setm,h]
theorem Mem.tok_none {S:Imm} {w:World} {ι:Ix} {H:Hp} (M:Mem S w ι H) {k:Nat} {o:AO} (h:av H k=some o) (ho:o.isTok=false):ι.t k=none:=by
 cases et:ι.t k with
 |none=>rfl
 |some x=>obtain⟨o',g1,g2⟩:=M.liveT k x et;rw[h]at g1;cases g1;rw[ho]at g2;cases g2
theorem Mem.gather {S:Imm} {w w':World} {ι:Ix} {H:Hp} (M:Mem S w ι H) (ks:List Nat) {n bn:Nat} {o':AO} {X:Nat->Prop} {arrn:Array Value} {en:TypeId}
 (hks:∀k,k∈ks->∃o b,av H k=some o/\o.excl=true/\o.isTok=false/\ι.o k=some b) (hn:av H n=none) (hoT:o'.isTok=false) (hhas:∀b,o'.has (ι.setm n bn X) n b↔X b)
 (below:Bel w w') (hw:w'.heap[bn]? =some (.cells arrn en (0,0))) (other:∀b,b<w.heap.size->b≠bn->w'.heap[b]? =w.heap[b]?)
 (hbn:w.heap.size≤bn∨((∃k o,k∈ks/\av H k=some o/\o.has ι k bn)/\∃arr e,w.heap[bn]? =some (.cells arr e (0,0))/\arr.size≤arrn.size)) (hnS:∀j,¬S bn j)
 (hX:∀b,X b->w.heap.size≤b∨∃k o,k∈ks/\av H k=some o/\o.has ι k b)
 (hobj:Keeps S w S w'->ι.le (ι.setm n bn X)->gY S w' (ι.setm n bn X) n o') {H':Hp} (hH:∀k,av H' k=if k=n then some o' else if k∈ks then some (.cells (.pv []) true)else av H k):
 Mem S w' (ι.setm n bn X) H'/\ι.le (ι.setm n bn X)/\Keeps S w S w'/\∀p,Tr p S w ι H S w' (ι.setm n bn X) H':=by
 have le:ι.le (ι.setm n bn X):=abY (M.none_o hn);have hnk:n∉ks:=λh=>by obtain⟨o,b,g,_⟩:=hks n h;rw[hn]at g;cases g
 have keeps:Keeps S w S w':=by
  refine⟨λb j hs=>⟨hs,?_⟩,λb j hs=>?_⟩
  ·by_cases e:b=bn
   ·subst e;exact absurd hs (hnS j)
   ·exact dH (other b (eZ (M.imm b j hs)) e) j
  ·by_cases e:b=bn
   ·subst e
    rcases hbn with h|⟨_,arr,e,h1,h2⟩
    ·have:=eZ hs;omega
    ·rw[aL h1]at hs
     rw[aL hw];have:j<arr.size:=by
      rcases alq j arr.size with h3|h3
      ·exact h3
      ·rw[alr h3]at hs;simp at hs
     rw[alv qqO];rfl
   ·rw[dH (other b (eZ hs) e) j];exact hs
 have hmn:∀k,k∈ks->k≠n:=λk hk e=>hnk (e▸hk);have hd:∀k,k∈ks->av H' k=some (.cells (.pv []) true):=λk hk=>by rw[hH,if_neg (hmn k hk),if_pos hk]
 have h0:av H' n=some o':=by rw[hH,if_pos rfl]
 have:=M.multi (w':=w') (ι':=ι.setm n bn X) (H':=H') (λk=>k=n∨k∈ks) below keeps le
  (λk hc=>by rw[hH,if_neg (λe=>hc (.inl e)),if_neg (λe=>hc (.inr e))]) (λk hc=>SF (λe=>hc (.inl e))) (λ_ _=>rfl) (λk hc=>afV (λe=>hc (.inl e)))
  (λb hb hno=>other b hb (λe=>by
    subst e;rcases hbn with h|⟨⟨k,o,h1,h2,h3⟩,_⟩
    ·omega
    ·obtain⟨o2,b2,g1,g2,_⟩:=hks k h1
     rw[h2]at g1;cases g1
     exact hno k o (.inr h1) h2 g2 h3))
  (λk o2 hc h=>by
    rcases hc with rfl|hk
    ·rw[h0]at h;cases h;exact hobj keeps le
    ·rw[hd k hk]at h;cases h
     obtain⟨o,b,_,_,_,g⟩:=hks k hk;exact⟨b,by rw[SF (hmn k hk)];exact g,λj hj=>by simp[CL.ncell]at hj⟩)
  (λk o2 b hc h hb=>by
    rcases hc with rfl|hk
    ·rw[h0]at h;cases h
     rcases hX b ((hhas b).1 hb)with h1|⟨k0,o0,h1,h2,h3⟩
     ·exact .inl h1
     ·obtain⟨o3,b3,g1,g2,_⟩:=hks k0 h1
      rw[h2]at g1;cases g1
      exact .inr ⟨k0,o0,.inr h1,h2,g2,h3⟩
    ·rw[hd k hk]at h;cases h;exact hb.elim)
  (λk b hc h=>by
    rcases hc with rfl|hk
    ·exact⟨_,h0,hoT⟩
    ·exact⟨_,hd k hk,rfl⟩)
  (λk x hc h=>by
    rcases hc with rfl|hk
    ·have h2:ι.t k=some x:=h
     rw[M.none_t hn]at h2;cases h2
    ·obtain⟨o,b,g1,_,g3,_⟩:=hks k hk
     have h2:ι.t k=some x:=h;rw[M.tok_none g1 g3]at h2;cases h2)
  (λk1 k2 o1 o2 b c1 c2 h1 h2 b1 b2=>by
    rcases c1 with rfl|c1
    ·rcases c2 with rfl|c2
     ·rfl
     ·rw[hd k2 c2]at h2;cases h2;exact b2.elim
    ·rw[hd k1 c1]at h1;cases h1;exact b1.elim)
 exact⟨this.1,le,keeps,this.2⟩
theorem Mem.absorb {S:Imm} {w w':World} {ι:Ix} {H:Hp} (M:Mem S w ι H) {a n ba:Nat} {c:CL} (ha:av H a=some (.cells c false)) (hn:av H n=none) (hba:ι.o a=some ba)
 {rc:RC} (hrc:∀b,rc.at b=c) (hno:∀j,j<c.ncell->∀v,Rep S w ι (c.get j) v->Rep S w noI (c.get j) v) {arr:Array Value} {e:TypeId} (hsz:1≤arr.size) {cap:Nat} (hcap:c.cnt≤cap)
 (harr:arr.getD 0 undef=.slice (some ⟨ba,0,none⟩) c.cnt cap) (hheap:w'.heap=w.heap.push (.cells arr e)) (hbelow:Bel w w'):
 ∃X,Mem S w' (ι.setm n w.heap.size X) (aP (aP H a (.cells (.pv []) true)) n (.pmat 1 rc))/\ι.le (ι.setm n w.heap.size X)/\Keeps S w S w'/\∀p,Tr p S w ι H S w' (ι.setm n w.heap.size X) (aP (aP H a (.cells (.pv []) true)) n (.pmat 1 rc)):=by
 obtain⟨b,arr0,e0,h1,h2,h3,h4,h5⟩:=M.obj a _ ha;rw[hba]at h1;cases h1
 have hlt:=lt_of_heap h2;have old:∀b',b'<w.heap.size->w'.heap[b']? =w.heap[b']? :=λb' hb'=>by rw[hheap,alu,if_neg qqO]
 refine⟨λb=>b=w.heap.size∨b=ba,M.gather [a] (o':=.pmat 1 rc) (arrn:=arr) (en:=e) (λk hk=>by simp at hk;subst hk;exact⟨_,_,ha,rfl,rfl,hba⟩) hn rfl (λb=>by simp[AO.has,Ix.setm]) hbelow (by rw[hheap];simp) (λb hb _=>old b hb)
  (.inl (alo _)) (λj hs=>by have:=eZ (M.imm _ _ hs);omega) (λb hb=>?_) (λhk hl=>?_) (λk=>by rw[aW,aW];simp)⟩
 ·rcases hb with rfl|rfl
  ·exact .inl (alo _)
  ·exact .inr ⟨a,_,qqS,ha,hba⟩
 ·refine⟨[ba],[ba],rc,⟨w.heap.size,arr,e,by simp[Ix.setm],by rw[hheap];simp,by simpa using hsz,λj hs=>by have:=eZ (M.imm _ _ hs);omega,by simp;omega,λb'=>by simp[Ix.setm],λr hr=>?_,λi hi=>?_⟩,RC.kin_refl _,rfl,qqS,λb hb=>hb,λi hi=>by rw[hrc,hrc]⟩
  ·simp at hr;subst hr
   rw[hrc];exact⟨arr0,e0,(old _ hlt).trans h2,h3,λj hj=>(hno j hj _ (h4 j hj)).mono hk _ (.refl _),h5⟩
  ·simp at hi;subst hi
   refine⟨qqS,cap,?_,?_⟩
   ·rw[hrc];exact hcap
   ·rw[hrc];simpa using harr
theorem Mem.matApp {S:Imm} {w w':World} {ι:Ix} {H:Hp} (M:Mem S w ι H) {k d n m r b0 bd bn:Nat} {rc0 rc rc2:RC} (hk:av H k=some (.pmat m rc0)) (hd:av H d=some (.pmat r rc)) (hn:av H n=none) (hkd:k≠d)
 (hb0:ι.o k=some b0) (hbd:ι.o d=some bd) (hkin:rc0.kin rc) (hkin2:rc2.kin rc0) (hrc2:∀i,rc2.at i=if i<m then rc0.at i else rc.at (i-m))
 {arrn:Array Value} {en:TypeId} (below:Bel w w') (hw:w'.heap[bn]? =some (.cells arrn en (0,0))) (other:∀b,b<w.heap.size->b≠bn->w'.heap[b]? =w.heap[b]?)
 (hbn:w.heap.size=bn∨(bn=b0/\∃arr e,w.heap[bn]? =some (.cells arr e (0,0))/\arr.size≤arrn.size)) (hsz:m+r≤arrn.size)
 (hold:∀i,i<m->some (arrn.getD i undef)=rd w b0 i) (hnew:∀i,i<r->some (arrn.getD (m+i) undef)=rd w bd i):
 ∃X,Mem S w' (ι.setm n bn X) (aP (aP (aP H k (.cells (.pv []) true)) d (.cells (.pv []) true)) n (.pmat (m+r) rc2))/\ι.le (ι.setm n bn X)/\Keeps S w S w'/\
  ∀p,Tr p S w ι H S w' (ι.setm n bn X) (aP (aP (aP H k (.cells (.pv []) true)) d (.cells (.pv []) true)) n (.pmat (m+r) rc2)):=by
 obtain⟨allk,lk,rk,⟨b1,arrk,ek,p1,p2,p3,p4,p5,p6,p7,p8⟩,pk,pl,pn,pall,pa⟩:=M.obj k _ hk;obtain⟨alld,ld,rd',⟨b2,arrd,ed,q1,q2,q3,q4,q5,q6,q7,q8⟩,qk,ql,qn,qall,qa⟩:=M.obj d _ hd;rw[hb0]at p1;cases p1
 rw[hbd]at q1;cases q1
 have gN:∀b,ι.x k b->ι.x d b->False:=λb h1 h2=>hkd (M.dist k d _ _ b hk hd h1 h2);have xk:∀{b},b∈allk->ι.x k b:=λh=>(p6 _).2 (.inr h);have xd:∀{b},b∈alld->ι.x d b:=λh=>(q6 _).2 (.inr h);have ltk:∀{b},ι.x k b->b<w.heap.size:=λh=>(M.obj k _ hk).lt h;have ltd:∀{b},ι.x d b->b<w.heap.size:=λh=>(M.obj d _ hd).lt h;have hbn0:∀{b},b∈allk->b≠bn:=λ{b} h e=>by
  rcases hbn with h1|⟨h1,_⟩
  ·have:=ltk (xk h);omega
  ·rw[e,h1]at h;exact p5 h
 have hbn1:∀{b},b∈alld->b≠bn:=λ{b} h e=>by
  rcases hbn with h1|⟨h1,_⟩
  ·have:=ltd (xd h);omega
  ·exact gN b ((p6 b).2 (.inl (e.trans h1))) (xd h)
 have hj:rk.kin rd':=RC.kin_trans (RC.kin_trans pk hkin) (RC.kin_symm qk);have jat:=RC.join_at hj allk;have jd:∀{b},b∈alld->b∉allk:=λh h'=>gN _ (xk h') (xd h);have getl:∀i,(lk++ld).getD i 0=if i<m then lk.getD i 0 else ld.getD (i-m) 0:=λi=>by
  rw[alC];split
  ·rw[List.getElem?_append_left qqO,alC]
  ·rw[List.getElem?_append_right qqO,alC,pl]
 refine⟨λb=>b=bn∨b∈allk++alld,M.gather [k,d] (o':=.pmat (m+r) rc2) (arrn:=arrn) (en:=en) (λk' hk'=>?_) hn rfl (λb=>by simp[AO.has,Ix.setm]) below hw other ?_ (λj hs=>?_) (λb hb=>?_) (λhkp hl=>?_) (λk'=>?_)⟩
 ·simp at hk'
  rcases hk' with rfl|rfl
  ·exact⟨_,_,hk,rfl,rfl,hb0⟩
  ·exact⟨_,_,hd,rfl,rfl,hbd⟩
 ·rcases hbn with h1|⟨h1,h2⟩
  ·exact .inl qqO
  ·exact .inr ⟨⟨k,_,qqS,hk,(p6 _).2 (.inl h1)⟩,h2⟩
 ·rcases hbn with h1|⟨h1,_⟩
  ·have:=eZ (M.imm _ _ hs);omega
  ·rw[h1]at hs;exact p4 j hs
 ·rcases hb with rfl|hb
  ·rcases hbn with h1|⟨h1,_⟩
   ·exact .inl qqO
   ·exact .inr ⟨k,_,qqS,hk,(p6 _).2 (.inl h1)⟩
  ·rcases alD.1 hb with h|h
   ·exact .inr ⟨k,_,qqS,hk,xk h⟩
   ·exact .inr ⟨d,_,qqS,hd,xd h⟩
 ·refine⟨allk++alld,lk++ld,rk.join allk rd',⟨bn,arrn,en,by simp[Ix.setm],hw,by simp;omega,λj hs=>?_,?_,λb'=>by simp[Ix.setm],λx hx=>?_,λi hi=>?_⟩,?_,by simp;omega,?_,λb hb=>?_,λi hi=>?_⟩
  ·rcases hbn with h1|⟨h1,_⟩
   ·have:=eZ (M.imm _ _ hs);omega
   ·rw[h1]at hs;exact p4 j hs
  ·intro h
   rcases alD.1 h with h|h
   ·exact hbn0 h rfl
   ·exact hbn1 h rfl
  ·rw[jat]
   rcases alD.1 hx with h|h
   ·rw[if_pos h];exact(p7 x h).mono hkp (other x (ltk (xk h)) (hbn0 h)) (λ_ h=>h)
   ·rw[if_neg (jd h)];exact(q7 x h).mono hkp (other x (ltd (xd h)) (hbn1 h)) (λ_ h=>h)
  ·simp only[List.length_append]at hi
   rw[getl];split
   ·rename_i him
    obtain⟨g1,cap,g2,g3⟩:=p8 i qqO;rw[jat,if_pos g1];refine⟨alE _ g1,cap,g2,?_⟩;have:=hold i him;rw[aL p2,alv qqO]at this;rw[Option.some.inj this,<-g3,alz,alv qqO];rfl
   ·rename_i him
    obtain⟨g1,cap,g2,g3⟩:=q8 (i-m) qqO;rw[jat,if_neg (jd g1)];refine⟨alF _ g1,cap,g2,?_⟩;have:=hnew (i-m) qqO;rw[show m+(i-m)=i by omega,aL q2,alv qqO]at this
    rw[Option.some.inj this,<-g3,alz,alv qqO];rfl
  ·exact RC.kin_trans (RC.kin_trans (RC.join_kin hj allk) pk) (RC.kin_symm hkin2)
  ·refine List.nodup_append.2 ⟨pn,qn,λa ha b hb e=>?_⟩
   subst e;obtain⟨i,hi,rfl⟩:=alG ha;obtain⟨j,hj,e2⟩:=alG hb;have g1:=(p8 i hi).1;have g2:=(q8 j hj).1;rw[alC,alH hi]at g1;rw[alC,alH hj]at g2;simp only[Option.getD_some]at g1 g2;rw[e2]at g2;exact jd g2 g1
  ·rcases alD.1 hb with h|h
   ·exact alE _ (pall b h)
   ·exact alF _ (qall b h)
  ·rw[getl,hrc2]
   split
   ·rename_i him
    rw[jat,if_pos (p8 i qqO).1,pa i him]
   ·rename_i him
    rw[jat,if_neg (jd (q8 (i-m) qqO).1),qa (i-m) qqO]
 ·rw[aW,aW,aW]
  by_cases e1:k'=n
  ·rw[if_pos e1,if_pos e1]
  ·rw[if_neg e1,if_neg e1]
   by_cases e2:k'=d
   ·rw[if_pos e2,if_pos (by simp[e2])]
   ·rw[if_neg e2]
    by_cases e3:k'=k
    ·rw[if_pos e3,if_pos (by simp[e3])]
    ·rw[if_neg e3,if_neg (by simp[e2,e3])]
theorem Mem.matNew {S:Imm} {w w':World} {ι:Ix} {H:Hp} (M:Mem S w ι H) {d n r bd:Nat} {rc:RC} (hd:av H d=some (.pmat r rc)) (hn:av H n=none) (hbd:ι.o d=some bd)
 {arrn:Array Value} {en:TypeId} (below:Bel w w') (hw:w'.heap[w.heap.size]? =some (.cells arrn en (0,0))) (other:∀b,b<w.heap.size->w'.heap[b]? =w.heap[b]?)
 (hsz:r≤arrn.size) (hnew:∀i,i<r->some (arrn.getD i undef)=rd w bd i):
 ∃X,Mem S w' (ι.setm n w.heap.size X) (aP (aP H d (.cells (.pv []) true)) n (.pmat r rc))/\ι.le (ι.setm n w.heap.size X)/\Keeps S w S w'/\
  ∀p,Tr p S w ι H S w' (ι.setm n w.heap.size X) (aP (aP H d (.cells (.pv []) true)) n (.pmat r rc)):=by
 obtain⟨alld,ld,rd',⟨b2,arrd,ed,q1,q2,q3,q4,q5,q6,q7,q8⟩,qk,ql,qn,qall,qa⟩:=M.obj d _ hd;rw[hbd]at q1;cases q1
 have xd:∀{b},b∈alld->ι.x d b:=λh=>(q6 _).2 (.inr h);have ltd:∀{b},ι.x d b->b<w.heap.size:=λh=>(M.obj d _ hd).lt h;have hnS:∀j,¬S w.heap.size j:=λj hs=>by have:=eZ (M.imm _ _ hs);omega
 refine⟨λb=>b=w.heap.size∨b∈alld,M.gather [d] (o':=.pmat r rc) (arrn:=arrn) (en:=en) (λk' hk'=>by simp at hk';subst hk';exact⟨_,_,hd,rfl,rfl,hbd⟩) hn rfl (λb=>by simp[AO.has,Ix.setm]) below hw (λb hb _=>other b hb)
  (.inl (alo _)) hnS (λb hb=>?_) (λhkp hl=>?_) (λk=>by rw[aW,aW];simp)⟩
 ·rcases hb with rfl|hb
  ·exact .inl (alo _)
  ·exact .inr ⟨d,_,qqS,hd,xd hb⟩
 ·refine⟨alld,ld,rd',⟨w.heap.size,arrn,en,by simp[Ix.setm],hw,qqO,hnS,λh=>by have:=ltd (xd h);omega,λb'=>by simp[Ix.setm],λx hx=>(q7 x hx).mono hkp (other x (ltd (xd hx))) (λ_ h=>h),λi hi=>?_⟩,qk,ql,qn,qall,qa⟩
  obtain⟨g1,cap,g2,g3⟩:=q8 i hi;refine⟨g1,cap,g2,?_⟩;have:=hnew i qqO;rw[aL q2,alv qqO]at this;rw[Option.some.inj this,<-g3,alz,alv qqO];rfl
def Ix.setq (ι:Ix) (k:Nat) (X:Nat->Prop) (d:Nat) (b:Option Nat):Ix:=⟨λj=>if j=d then b else ι.o j,ι.t,λj=>if j=k then X else ι.x j⟩
theorem Mem.takeRow {S:Imm} {w:World} {ι:Ix} {H:Hp} (M:Mem S w ι H) {k d q off b0:Nat} {f:Nat->Nat} {c:Nat->CL} (hk:av H k=some (.qmat q f c)) (hd:av H d=none) (hb0:ι.o k=some b0) (hoff:off<q) (hf:f off=2):
 ∃b cap ι',rd w b0 off=some (.slice (some ⟨b,0,none⟩) (c off).cnt cap)/\Rep S w ι' (.rsc d (c off).esz (c off).cnt) (.slice (some ⟨b,0,none⟩) (c off).cnt cap)/\
  Mem S w ι' (aP (aP H k (.qmat q (bA f off 0) c)) d (.rowo (c off)))/\ι.le ι'/\∀p,Tr p S w ι H S w ι' (aP (aP H k (.qmat q (bA f off 0) c)) d (.rowo (c off))):=by
 obtain⟨b1,arr,e,l,h1,h2,h3,h4,h5,h6,h7,h8⟩:=M.obj k _ hk;rw[hb0]at h1;cases h1
 obtain⟨g1,g2,g3,cap,g4,g5,g6⟩:=h6 off hoff hf;have hkd:d≠k:=λe=>by subst e;rw[hk]at hd;cases hd
 have hdo:=M.none_o hd;have hxl:ι.x k (l off):=(h5 _).2 (.inr ⟨off,hoff,hf,rfl⟩);have le:ι.le (ι.setq k (λb'=>ι.x k b'/\b'≠l off) d (some (l off))):=⟨λj b hj=>by
  by_cases e:j=d
  ·subst e;rw[hdo]at hj;cases hj
  ·simp[Ix.setq,e,hj],λj b n hj=>⟨b,n,hj,.inl ⟨rfl,alo _⟩⟩⟩
 have hio:(ι.setq k (λb'=>ι.x k b'/\b'≠l off) d (some (l off))).o d=some (l off):=by simp[Ix.setq]
 have hiok:(ι.setq k (λb'=>ι.x k b'/\b'≠l off) d (some (l off))).o k=some b0:=by simp[Ix.setq,Ne.symm hkd,hb0]
 have hix:(ι.setq k (λb'=>ι.x k b'/\b'≠l off) d (some (l off))).x k=λb'=>ι.x k b'/\b'≠l off:=by simp[Ix.setq]
 refine⟨l off,cap,ι.setq k (λb'=>ι.x k b'/\b'≠l off) d (some (l off)),?_,.rsc _ _ _ _ _ _ hio g4 g3 g5,?_⟩
 ·rw[aL h2,alv qqO,<-g6,alz,alv qqO];rfl
 have gk:av (aP (aP H k (.qmat q (bA f off 0) c)) d (.rowo (c off))) k=some (.qmat q (bA f off 0) c):=by rw[aW,if_neg (Ne.symm hkd),aW,if_pos rfl]
 have gd:av (aP (aP H k (.qmat q (bA f off 0) c)) d (.rowo (c off))) d=some (.rowo (c off)):=by rw[aW,if_pos rfl]
 have:=M.multi (w':=w) (ι':=ι.setq k (λb'=>ι.x k b'/\b'≠l off) d (some (l off))) (H':=aP (aP H k (.qmat q (bA f off 0) c)) d (.rowo (c off))) (λj=>j=k∨j=d) (.refl _) (.refl _ _) le
  (λj hj=>by rw[aW,if_neg (λe=>hj (.inr e)),aW,if_neg (λe=>hj (.inl e))]) (λj hj=>by unfold Ix.setq;exact if_neg (λe=>hj (.inr e))) (λ_ _=>rfl) (λj hj=>by unfold Ix.setq;exact if_neg (λe=>hj (.inl e)))
  (λ_ _ _=>rfl)
  (λj o' hj h=>by
    rcases hj with rfl|rfl
    ·rw[gk]at h;cases h
     refine⟨b0,arr,e,l,hiok,h2,h3,h4,λb'=>?_,λi hi hfi=>?_,λi hi hfi=>?_,λi i' hi hi' hfi hfi'=>?_⟩
     ·rw[hix]
      constructor
      ·rintro⟨hb',hne⟩
       rcases(h5 b').1 hb' with e|⟨i,hi,hfi,e⟩
       ·exact .inl e
       ·exact .inr ⟨i,hi,by unfold bA;rw[if_neg (λe'=>hne (by rw[<-e,e']))];exact hfi,e⟩
      ·rintro(e|⟨i,hi,hfi,e⟩)
       ·exact⟨(h5 b').2 (.inl e),λe'=>g1 (e'.symm.trans e)⟩
       ·have hio':i≠off:=λe'=>by subst e';simp[bA]at hfi
        have hfi':f i=2:=by simpa [bA,hio']using hfi
        exact⟨(h5 b').2 (.inr ⟨i,hi,hfi',e⟩),λe'=>hio' (h8 i off hi hoff hfi' hf (e.trans e'))⟩
     ·have hio':i≠off:=λe'=>by subst e';simp[bA]at hfi
      exact h6 i hi (by simpa [bA,hio']using hfi)
     ·have hio':i≠off:=λe'=>by subst e';simp[bA]at hfi
      exact h7 i hi (by simpa [bA,hio']using hfi)
     ·have hio':i≠off:=λe'=>by subst e';simp[bA]at hfi
      have hio2:i'≠off:=λe'=>by subst e';simp[bA]at hfi'
      exact h8 i i' hi hi' (by simpa [bA,hio']using hfi) (by simpa [bA,hio2]using hfi')
    ·rw[gd]at h;cases h;exact⟨l off,hio,g2⟩)
  (λj o' b hj h hb=>by
    refine .inr ⟨k,_,.inl rfl,hk,rfl,?_⟩;rcases hj with rfl|rfl
    ·rw[gk]at h;cases h
     simp only[AO.has,hix]at hb;exact hb.1
    ·rw[gd]at h;cases h
     simp only[AO.has,hio]at hb;cases hb;exact hxl)
  (λj b hj _=>by
    rcases hj with rfl|rfl
    ·exact⟨_,gk,rfl⟩
    ·exact⟨_,gd,rfl⟩)
  (λj x hj h=>by
    have h':ι.t j=some x:=h;rcases hj with rfl|rfl
    ·have h2:=M.tok_none hk rfl;rw[h2]at h';cases h'
    ·have h2:=M.none_t hd;rw[h2]at h';cases h')
  (λj1 j2 o1 o2 b c1 c2 e1 e2 b1 b2=>by
    have mix:∀{o1 o2:AO},av (aP (aP H k (.qmat q (bA f off 0) c)) d (.rowo (c off))) k=some o1->av (aP (aP H k (.qmat q (bA f off 0) c)) d (.rowo (c off))) d=some o2->o1.has (ι.setq k (λb'=>ι.x k b'/\b'≠l off) d (some (l off))) k b->o2.has (ι.setq k (λb'=>ι.x k b'/\b'≠l off) d (some (l off))) d b->False:=by
     intro o1 o2 e1 e2 b1 b2;rw[gk]at e1;cases e1
     rw[gd]at e2;cases e2
     simp only[AO.has,hix]at b1;simp only[AO.has,hio]at b2;cases b2;exact b1.2 rfl
    rcases c1 with rfl|rfl<;>rcases c2 with rfl|rfl
    ·rfl
    ·exact(mix e1 e2 b1 b2).elim
    ·exact(mix e2 e1 b2 b1).elim
    ·rfl)
 exact⟨this.1,le,this.2⟩
theorem Mem.putRow {S:Imm} {w w':World} {ι:Ix} {H:Hp} (M:Mem S w ι H) {k d q off b0 bd cap:Nat} {f:Nat->Nat} {c:Nat->CL} {c':CL} {od:AO} (hk:av H k=some (.qmat q f c)) (hd:av H d=some od) (hkd:k≠d) (hb0:ι.o k=some b0) (hbd:ι.o d=some bd)
 (hox:od.excl=true) (hoT:od.isTok=false) (hhas:od.has ι d bd) (hrow:pX S w c' bd) (hes:0<c'.esz) (hcap:c'.cnt≤cap) (hcells:∀j,j<cap*c'.esz->(rd w bd j).isSome)
 (hoff:off<q) (hf:f off≠2) {arr arr':Array Value} {e:TypeId} (h0:w.heap[b0]? =some (.cells arr e (0,0))) (u:Upd w w' b0 arr' e) (hsz:arr.size≤arr'.size)
 (hat:arr'.getD off undef=.slice (some ⟨bd,0,none⟩) c'.cnt cap) (hoth:∀i,i≠off->arr'.getD i undef=arr.getD i undef):
 ∃ι',Mem S w' ι' (aP (aP H d (.cells (.pv []) true)) k (.qmat q (bA f off 2) (bA c off c')))/\ι.le ι'/\Keeps S w S w'/\∀p,Tr p S w ι H S w' ι' (aP (aP H d (.cells (.pv []) true)) k (.qmat q (bA f off 2) (bA c off c'))):=by
 obtain⟨b1,arr1,e1,l,h1,h2,h3,h4,h5,h6,h7,h8⟩:=M.obj k _ hk;rw[hb0]at h1;cases h1
 rw[h0]at h2;cases h2
 have hkeep:Keeps S w S w':=u.keeps h0 hsz (λj hs=>absurd hs (h4 j));have hxk:∀b,ι.x k b->b≠bd:=λb hb e=>by
  subst e;exact hkd (M.dist k d _ _ b hk hd hb hhas)
 have hb0d:b0≠bd:=hxk b0 ((h5 b0).2 (.inl rfl));have le:ι.le (ι.setq k (λb'=>ι.x k b'∨b'=bd) d (some bd)):=⟨λj b hj=>by
  by_cases e:j=d
  ·subst e;rw[hbd]at hj;cases hj;simp[Ix.setq]
  ·simp[Ix.setq,e,hj],λj b n hj=>⟨b,n,hj,.inl ⟨rfl,alo _⟩⟩⟩
 have hiok:(ι.setq k (λb'=>ι.x k b'∨b'=bd) d (some bd)).o k=some b0:=by simp[Ix.setq,hkd,hb0]
 have hiod:(ι.setq k (λb'=>ι.x k b'∨b'=bd) d (some bd)).o d=some bd:=by simp[Ix.setq]
 have hix:(ι.setq k (λb'=>ι.x k b'∨b'=bd) d (some bd)).x k=λb'=>ι.x k b'∨b'=bd:=by simp[Ix.setq]
 have gk:av (aP (aP H d (.cells (.pv []) true)) k (.qmat q (bA f off 2) (bA c off c'))) k=some (.qmat q (bA f off 2) (bA c off c')):=by rw[aW,if_pos rfl]
 have gd:av (aP (aP H d (.cells (.pv []) true)) k (.qmat q (bA f off 2) (bA c off c'))) d=some (.cells (.pv []) true):=by rw[aW,if_neg (Ne.symm hkd),aW,if_pos rfl]
 have hl:∀i,i<q->f i=2->l i≠bd:=λi hi hfi=>hxk _ ((h5 _).2 (.inr ⟨i,hi,hfi,rfl⟩));have hfu:∀{i},bA f off 2 i=2->i≠off->f i=2:=λ{i} h hne=>by simpa [bA,hne]using h
 obtain⟨L,hL1,hL2⟩:∃L:Nat->Nat,L off=bd/\∀i,i≠off->L i=l i:=⟨λi=>if i=off then bd else l i,if_pos rfl,λi hi=>if_neg hi⟩;have:=M.multi (w':=w') (ι':=ι.setq k (λb'=>ι.x k b'∨b'=bd) d (some bd)) (H':=aP (aP H d (.cells (.pv []) true)) k (.qmat q (bA f off 2) (bA c off c'))) (λj=>j=k∨j=d) u.below hkeep le
  (λj hj=>by rw[aW,if_neg (λe=>hj (.inl e)),aW,if_neg (λe=>hj (.inr e))]) (λj hj=>by unfold Ix.setq;exact if_neg (λe=>hj (.inr e))) (λ_ _=>rfl) (λj hj=>by unfold Ix.setq;exact if_neg (λe=>hj (.inl e)))
  (λb hb hno=>u.other b (λe=>hno k _ (.inl rfl) hk rfl (by rw[e];exact(h5 b0).2 (.inl rfl))))
  (λj o' hj h=>by
    rcases hj with rfl|rfl
    ·rw[gk]at h;cases h
     refine⟨b0,arr',e,L,hiok,u.here,als h3 hsz,h4,λb'=>?_,λi hi hfi=>?_,λi hi hfi=>?_,λi i' hi hi' hfi hfi'=>?_⟩
     ·rw[hix]
      constructor
      ·rintro(hb'|e)
       ·rcases(h5 b').1 hb' with e|⟨i,hi,hfi,e⟩
        ·exact .inl e
        ·have hne:i≠off:=λe'=>hf (e'▸hfi)
         exact .inr ⟨i,hi,by simp[bA,hne,hfi],by rw[hL2 i hne];exact e⟩
       ·exact .inr ⟨off,hoff,by simp[bA],by rw[hL1];exact e.symm⟩
      ·rintro(e|⟨i,hi,hfi,e⟩)
       ·exact .inl ((h5 b').2 (.inl e))
       ·by_cases ei:i=off
        ·rw[ei,hL1]at e;exact .inr e.symm
        ·rw[hL2 i ei]at e;exact .inl ((h5 b').2 (.inr ⟨i,hi,hfu hfi ei,e⟩))
     ·by_cases ei:i=off
      ·subst ei
       rw[hL1];simp only[if_true,bA];exact⟨Ne.symm hb0d,hrow.mono hkeep (u.other bd (Ne.symm hb0d)) (λ_ h=>h),hes,cap,hcap,λj hj=>hkeep.cells _ _ (hcells j hj),hat⟩
      ·rw[hL2 i ei]
       simp only[if_neg ei,bA];obtain⟨g1,g2,g3,cap2,g4,g5,g6⟩:=h6 i hi (hfu hfi ei);exact⟨g1,g2.mono hkeep (u.other _ g1) (λ_ h=>h),g3,cap2,g4,λj hj=>hkeep.cells _ _ (g5 j hj),(hoth i ei).trans g6⟩
     ·have ei:i≠off:=λe'=>by subst e';simp[bA]at hfi
      exact(hoth i ei).trans (h7 i hi (by simpa [bA,ei]using hfi))
     ·intro e
      by_cases ei:i=off
      ·by_cases ei':i'=off
       ·omega
       ·rw[ei,hL1,hL2 i' ei']at e
        exact absurd e.symm (hl i' hi' (hfu hfi' ei'))
      ·by_cases ei':i'=off
       ·rw[hL2 i ei,ei',hL1]at e
        exact absurd e (hl i hi (hfu hfi ei))
       ·rw[hL2 i ei,hL2 i' ei']at e
        exact h8 i i' hi hi' (hfu hfi ei) (hfu hfi' ei') e
    ·rw[gd]at h;cases h;exact⟨bd,hiod,λj hj=>by simp[CL.ncell]at hj⟩)
  (λj o' b hj h hb=>by
    rcases hj with rfl|rfl
    ·rw[gk]at h;cases h
     simp only[AO.has,hix]at hb;rcases hb with hb|rfl
     ·exact .inr ⟨j,_,.inl rfl,hk,rfl,hb⟩
     ·exact .inr ⟨d,_,.inr rfl,hd,hox,hhas⟩
    ·rw[gd]at h;cases h;exact hb.elim)
  (λj b hj _=>by
    rcases hj with rfl|rfl
    ·exact⟨_,gk,rfl⟩
    ·exact⟨_,gd,rfl⟩)
  (λj x hj h=>by
    have h':ι.t j=some x:=h;rcases hj with rfl|rfl
    ·have h2:=M.tok_none hk rfl;rw[h2]at h';cases h'
    ·have h2:=M.tok_none hd hoT;rw[h2]at h';cases h')
  (λj1 j2 o1 o2 b c1 c2 e1 e2 b1 b2=>by
    rcases c1 with rfl|rfl<;>rcases c2 with rfl|rfl
    ·rfl
    ·rw[gd]at e2;cases e2;exact b2.elim
    ·rw[gd]at e1;cases e1;exact b1.elim
    ·rfl)
 exact⟨_,this.1,le,hkeep,this.2⟩
theorem Mem.putNil {S:Imm} {w w':World} {ι:Ix} {H:Hp} (M:Mem S w ι H) {k q off b0:Nat} {f:Nat->Nat} {c:Nat->CL} (hk:av H k=some (.qmat q f c)) (hb0:ι.o k=some b0)
 (hoff:off<q) (hf:f off≠2) {arr arr':Array Value} {e:TypeId} (h0:w.heap[b0]? =some (.cells arr e (0,0))) (u:Upd w w' b0 arr' e) (hsz:arr.size≤arr'.size)
 (hat:arr'.getD off undef=.slice none 0 0) (hoth:∀i,i≠off->arr'.getD i undef=arr.getD i undef):
 Mem S w' ι (aP H k (.qmat q (bA f off 1) c))/\Keeps S w S w'/\∀p,Tr p S w ι H S w' ι (aP H k (.qmat q (bA f off 1) c)):=by
 obtain⟨b1,arr1,e1,l,h1,h2,h3,h4,h5,h6,h7,h8⟩:=M.obj k _ hk;rw[hb0]at h1;cases h1
 rw[h0]at h2;cases h2
 have hkeep:Keeps S w S w':=u.keeps h0 hsz (λj hs=>absurd hs (h4 j));have hfu:∀{i},bA f off 1 i=2↔f i=2:=λ{i}=>by
  unfold bA;by_cases ei:i=off
  ·rw[if_pos ei,ei];exact⟨λh=>qqO,λh=>absurd h hf⟩
  ·rw[if_neg ei]
 have hne:∀{i},f i=2->i≠off:=λh e'=>hf (e'▸h);have:=M.stay (o':=.qmat q (bA f off 1) c) hk rfl rfl rfl u.below hkeep (λb hb=>u.other b (λeb=>hb (by rw[eb];exact(h5 b0).2 (.inl rfl)))) (λb hb=>hb)
  ⟨b0,arr',e,l,hb0,u.here,als h3 hsz,h4,λb'=>(h5 b').trans (or_congr Iff.rfl ⟨λ⟨i,hi,hfi,e⟩=>⟨i,hi,hfu.2 hfi,e⟩,λ⟨i,hi,hfi,e⟩=>⟨i,hi,hfu.1 hfi,e⟩⟩),λi hi hfi=>by
   obtain⟨g1,g2,g3,cap2,g4,g5,g6⟩:=h6 i hi (hfu.1 hfi);exact⟨g1,g2.mono hkeep (u.other _ g1) (λ_ h=>h),g3,cap2,g4,λj hj=>hkeep.cells _ _ (g5 j hj),(hoth i (hne (hfu.1 hfi))).trans g6⟩,λi hi hfi=>by
   by_cases ei:i=off
   ·rw[ei];exact hat
   ·exact(hoth i ei).trans (h7 i hi (by simpa [bA,ei]using hfi)),λi i' hi hi' hfi hfi'=>h8 i i' hi hi' (hfu.1 hfi) (hfu.1 hfi')⟩
 exact⟨this.1,hkeep,this.2⟩
theorem Mem.qNil {S:Imm} {w w':World} {ι:Ix} {H:Hp} (M:Mem S w ι H) {n:Nat} (hn:av H n=none) {arr:Array Value} {e:TypeId} (hsz:1≤arr.size) (h0:arr.getD 0 undef=.slice none 0 0)
 (hheap:w'.heap=w.heap.push (.cells arr e)) (hbelow:Bel w w') (c:Nat->CL):
 ∃X,Mem S w' (ι.setm n w.heap.size X) (aP H n (.qmat 1 (λ_=>1) c))/\ι.le (ι.setm n w.heap.size X)/\Keeps S w S w'/\∀p,Tr p S w ι H S w' (ι.setm n w.heap.size X) (aP H n (.qmat 1 (λ_=>1) c)):=by
 have old:∀b',b'<w.heap.size->w'.heap[b']? =w.heap[b']? :=λb' hb'=>by rw[hheap,alu,if_neg qqO]
 have hnS:∀j,¬S w.heap.size j:=λj hs=>by have:=eZ (M.imm _ _ hs);omega
 refine⟨λb=>b=w.heap.size,M.gather [] (o':=.qmat 1 (λ_=>1) c) (arrn:=arr) (en:=e) (λk hk=>by simp at hk) hn rfl (λb=>by simp[AO.has,Ix.setm]) hbelow (by rw[hheap];simp) (λb hb _=>old b hb)
  (.inl (alo _)) hnS (λb hb=>.inl qqO) (λhk hl=>?_) (λk=>by rw[aW];simp)⟩
 exact⟨w.heap.size,arr,e,λ_=>0,by simp[Ix.setm],by rw[hheap];simp,hsz,hnS,λb'=>by simp[Ix.setm],λi hi hf=>by simp at hf,λi hi _=>(show i=0 by omega)▸h0,λi j hi hj hf=>by simp at hf⟩
theorem Mem.qOne {S:Imm} {w w':World} {ι:Ix} {H:Hp} (M:Mem S w ι H) {n a ba cap:Nat} {od:AO} {c:CL} (hn:av H n=none) (ha:av H a=some od) (hox:od.excl=true) (hoT:od.isTok=false) (hba:ι.o a=some ba) (hhas:od.has ι a ba)
 (hrow:pX S w c ba) (hes:0<c.esz) (hcap:c.cnt≤cap) (hcells:∀j,j<cap*c.esz->(rd w ba j).isSome) {arr:Array Value} {e:TypeId} (hsz:1≤arr.size) (h0:arr.getD 0 undef=.slice (some ⟨ba,0,none⟩) c.cnt cap)
 (hheap:w'.heap=w.heap.push (.cells arr e)) (hbelow:Bel w w'):
 ∃X,Mem S w' (ι.setm n w.heap.size X) (aP (aP H a (.cells (.pv []) true)) n (.qmat 1 (λ_=>2) (λ_=>c)))/\ι.le (ι.setm n w.heap.size X)/\Keeps S w S w'/\∀p,Tr p S w ι H S w' (ι.setm n w.heap.size X) (aP (aP H a (.cells (.pv []) true)) n (.qmat 1 (λ_=>2) (λ_=>c))):=by
 have hlt:ba<w.heap.size:=(M.obj a _ ha).lt hhas;have old:∀b',b'<w.heap.size->w'.heap[b']? =w.heap[b']? :=λb' hb'=>by rw[hheap,alu,if_neg qqO]
 have hnS:∀j,¬S w.heap.size j:=λj hs=>by have:=eZ (M.imm _ _ hs);omega
 refine⟨λb=>b=w.heap.size∨b=ba,M.gather [a] (o':=.qmat 1 (λ_=>2) (λ_=>c)) (arrn:=arr) (en:=e) (λk hk=>by simp at hk;subst hk;exact⟨_,_,ha,hox,hoT,hba⟩) hn rfl (λb=>by simp[AO.has,Ix.setm]) hbelow (by rw[hheap];simp) (λb hb _=>old b hb)
  (.inl (alo _)) hnS (λb hb=>?_) (λhk hl=>?_) (λk=>by rw[aW,aW];simp)⟩
 ·rcases hb with rfl|rfl
  ·exact .inl (alo _)
  ·exact .inr ⟨a,_,qqS,ha,hhas⟩
 ·refine⟨w.heap.size,arr,e,λ_=>ba,by simp[Ix.setm],by rw[hheap];simp,hsz,hnS,λb'=>?_,λi hi _=>?_,λi hi hf=>by simp at hf,λi j hi hj _ _ _=>qqO⟩
  ·simp only[Ix.setm,if_true]
   exact or_congr Iff.rfl ⟨λe=>⟨0,qqO,True.intro,e.symm⟩,λ⟨_,_,_,e⟩=>e.symm⟩
  ·have:i=0:=qqO
   subst this;exact⟨Nat.ne_of_lt hlt,hrow.mono hk (old _ hlt) (λ_ h=>h),hes,cap,hcap,λj hj=>hk.cells _ _ (hcells j hj),h0⟩
theorem Mem.qNew {S:Imm} {w w':World} {ι:Ix} {H:Hp} (M:Mem S w ι H) {d n r bd:Nat} {f:Nat->Nat} {c:Nat->CL} (hd:av H d=some (.qmat r f c)) (hn:av H n=none) (hbd:ι.o d=some bd)
 {arrn:Array Value} {en:TypeId} (below:Bel w w') (hw:w'.heap[w.heap.size]? =some (.cells arrn en (0,0))) (other:∀b,b<w.heap.size->w'.heap[b]? =w.heap[b]?)
 (hsz:r≤arrn.size) (hnew:∀i,i<r->some (arrn.getD i undef)=rd w bd i):
 ∃X,Mem S w' (ι.setm n w.heap.size X) (aP (aP H d (.cells (.pv []) true)) n (.qmat r f c))/\ι.le (ι.setm n w.heap.size X)/\Keeps S w S w'/\
  ∀p,Tr p S w ι H S w' (ι.setm n w.heap.size X) (aP (aP H d (.cells (.pv []) true)) n (.qmat r f c)):=by
 obtain⟨b2,arrd,ed,l,q1,q2,q3,q4,q5,q6,q7,q8⟩:=M.obj d _ hd;rw[hbd]at q1;cases q1
 have xd:∀{i},i<r->f i=2->ι.x d (l i):=λhi hf=>(q5 _).2 (.inr ⟨_,hi,hf,rfl⟩);have ltd:∀{b},ι.x d b->b<w.heap.size:=λh=>(M.obj d _ hd).lt h;have hnS:∀j,¬S w.heap.size j:=λj hs=>by have:=eZ (M.imm _ _ hs);omega
 have cell:∀i,i<r->arrn.getD i undef=arrd.getD i undef:=λi hi=>by
  have:=hnew i hi;rw[aL q2,alv qqO]at this;rw[Option.some.inj this,alz,alv qqO];rfl
 refine⟨λb=>b=w.heap.size∨∃i,i<r/\f i=2/\l i=b,M.gather [d] (o':=.qmat r f c) (arrn:=arrn) (en:=en) (λk' hk'=>by simp at hk';subst hk';exact⟨_,_,hd,rfl,rfl,hbd⟩) hn rfl (λb=>by simp[AO.has,Ix.setm]) below hw (λb hb _=>other b hb)
  (.inl (alo _)) hnS (λb hb=>?_) (λhkp hl=>?_) (λk=>by rw[aW,aW];simp)⟩
 ·rcases hb with rfl|⟨i,hi,hf,rfl⟩
  ·exact .inl (alo _)
  ·exact .inr ⟨d,_,qqS,hd,xd hi hf⟩
 ·refine⟨w.heap.size,arrn,en,l,by simp[Ix.setm],hw,hsz,hnS,λb'=>by simp[Ix.setm],λi hi hf=>?_,λi hi hf=>(cell i hi).trans (q7 i hi hf),q8⟩
  obtain⟨g1,g2,g3,cap,g4,g5,g6⟩:=q6 i hi hf;have hlt:=ltd (xd hi hf);exact⟨qqO,g2.mono hkp (other _ hlt) (λ_ h=>h),g3,cap,g4,λj hj=>hkp.cells _ _ (g5 j hj),(cell i hi).trans g6⟩
theorem Mem.qApp {S:Imm} {w w':World} {ι:Ix} {H:Hp} (M:Mem S w ι H) {k d n m r b0 bd bn:Nat} {f0 f:Nat->Nat} {c0 c:Nat->CL} (hk:av H k=some (.qmat m f0 c0)) (hd:av H d=some (.qmat r f c)) (hn:av H n=none) (hkd:k≠d)
 (hb0:ι.o k=some b0) (hbd:ι.o d=some bd)
 {arrn:Array Value} {en:TypeId} (below:Bel w w') (hw:w'.heap[bn]? =some (.cells arrn en (0,0))) (other:∀b,b<w.heap.size->b≠bn->w'.heap[b]? =w.heap[b]?)
 (hbn:w.heap.size=bn∨(bn=b0/\∃arr e,w.heap[bn]? =some (.cells arr e (0,0))/\arr.size≤arrn.size)) (hsz:m+r≤arrn.size)
 (hold:∀i,i<m->some (arrn.getD i undef)=rd w b0 i) (hnew:∀i,i<r->some (arrn.getD (m+i) undef)=rd w bd i):
 ∃X,Mem S w' (ι.setm n bn X) (aP (aP (aP H k (.cells (.pv []) true)) d (.cells (.pv []) true)) n (.qmat (m+r) (λi=>if i<m then f0 i else f (i-m)) (λi=>if i<m then c0 i else c (i-m))))/\ι.le (ι.setm n bn X)/\Keeps S w S w'/\
  ∀p,Tr p S w ι H S w' (ι.setm n bn X) (aP (aP (aP H k (.cells (.pv []) true)) d (.cells (.pv []) true)) n (.qmat (m+r) (λi=>if i<m then f0 i else f (i-m)) (λi=>if i<m then c0 i else c (i-m)))):=by
 obtain⟨b1,arrk,ek,lk,p1,p2,p3,p4,p5,p6,p7,p8⟩:=M.obj k _ hk;obtain⟨b2,arrd,ed,ld,q1,q2,q3,q4,q5,q6,q7,q8⟩:=M.obj d _ hd;rw[hb0]at p1;cases p1
 rw[hbd]at q1;cases q1
 have gN:∀b,ι.x k b->ι.x d b->False:=λb h1 h2=>hkd (M.dist k d _ _ b hk hd h1 h2);have xk:∀{i},i<m->f0 i=2->ι.x k (lk i):=λhi hf=>(p5 _).2 (.inr ⟨_,hi,hf,rfl⟩);have xd:∀{i},i<r->f i=2->ι.x d (ld i):=λhi hf=>(q5 _).2 (.inr ⟨_,hi,hf,rfl⟩);have ltk:∀{b},ι.x k b->b<w.heap.size:=λh=>(M.obj k _ hk).lt h;have ltd:∀{b},ι.x d b->b<w.heap.size:=λh=>(M.obj d _ hd).lt h;have hbn0:∀{i},i<m->f0 i=2->lk i≠bn:=λ{i} hi hf e=>by
  rcases hbn with h1|⟨h1,_⟩
  ·have:=ltk (xk hi hf);omega
  ·exact(p6 i hi hf).1 (e.trans h1)
 have hbn1:∀{i},i<r->f i=2->ld i≠bn:=λ{i} hi hf e=>by
  rcases hbn with h1|⟨h1,_⟩
  ·have:=ltd (xd hi hf);omega
  ·exact gN (ld i) ((p5 _).2 (.inl (e.trans h1))) (xd hi hf)
 obtain⟨F,hF⟩:∃F:Nat->Nat,F=λi=>if i<m then f0 i else f (i-m):=⟨_,rfl⟩;obtain⟨G,hG⟩:∃G:Nat->CL,G=λi=>if i<m then c0 i else c (i-m):=⟨_,rfl⟩;obtain⟨L,hL⟩:∃L:Nat->Nat,L=λi=>if i<m then lk i else ld (i-m):=⟨_,rfl⟩;rw[<-hF,<-hG];have F1:∀i,i<m->F i=f0 i/\G i=c0 i/\L i=lk i:=λi hi=>by subst hF;subst hG;subst hL;simp[hi]
 have F2:∀i,¬i<m->F i=f (i-m)/\G i=c (i-m)/\L i=ld (i-m):=λi hi=>by subst hF;subst hG;subst hL;simp[hi]
 have cell1:∀i,i<m->arrn.getD i undef=arrk.getD i undef:=λi hi=>by
  have:=hold i hi;rw[aL p2,alv qqO]at this;rw[Option.some.inj this,alz,alv qqO];rfl
 have cell2:∀i,¬i<m->i<m+r->arrn.getD i undef=arrd.getD (i-m) undef:=λi hi hir=>by
  have:=hnew (i-m) qqO;rw[show m+(i-m)=i by omega,aL q2,alv qqO]at this
  rw[Option.some.inj this,alz,alv qqO];rfl
 have hLx:∀i,i<m+r->F i=2->(i<m/\f0 i=2/\L i=lk i)∨(¬i<m/\f (i-m)=2/\L i=ld (i-m)):=λi hi hf=>by
  by_cases h:i<m
  ·exact .inl ⟨h,(F1 i h).1▸hf,(F1 i h).2.2⟩
  ·exact .inr ⟨h,(F2 i h).1▸hf,(F2 i h).2.2⟩
 refine⟨λb=>b=bn∨∃i,i<m+r/\F i=2/\L i=b,M.gather [k,d] (o':=.qmat (m+r) F G) (arrn:=arrn) (en:=en) (λk' hk'=>?_) hn rfl (λb=>by simp[AO.has,Ix.setm]) below hw other ?_ (λj hs=>?_) (λb hb=>?_) (λhkp hl=>?_) (λk'=>?_)⟩
 ·simp at hk'
  rcases hk' with rfl|rfl
  ·exact⟨_,_,hk,rfl,rfl,hb0⟩
  ·exact⟨_,_,hd,rfl,rfl,hbd⟩
 ·rcases hbn with h1|⟨h1,h2⟩
  ·exact .inl qqO
  ·exact .inr ⟨⟨k,_,qqS,hk,(p5 _).2 (.inl h1)⟩,h2⟩
 ·rcases hbn with h1|⟨h1,_⟩
  ·have:=eZ (M.imm _ _ hs);omega
  ·rw[h1]at hs;exact p4 j hs
 ·rcases hb with rfl|⟨i,hi,hf,rfl⟩
  ·rcases hbn with h1|⟨h1,_⟩
   ·exact .inl qqO
   ·exact .inr ⟨k,_,qqS,hk,(p5 _).2 (.inl h1)⟩
  ·rcases hLx i hi hf with⟨h1,h2,h3⟩|⟨h1,h2,h3⟩
   ·exact .inr ⟨k,_,qqS,hk,h3▸xk h1 h2⟩
   ·exact .inr ⟨d,_,qqS,hd,h3▸xd qqO h2⟩
 ·refine⟨bn,arrn,en,L,by simp[Ix.setm],hw,hsz,λj hs=>?_,λb'=>by simp[Ix.setm],λi hi hf=>?_,λi hi hf=>?_,λi j hi hj hfi hfj e=>?_⟩
  ·rcases hbn with h1|⟨h1,_⟩
   ·have:=eZ (M.imm _ _ hs);omega
   ·rw[h1]at hs;exact p4 j hs
  ·rcases hLx i hi hf with⟨h1,h2,h3⟩|⟨h1,h2,h3⟩
   ·obtain⟨g1,g2,g3,cap,g4,g5,g6⟩:=p6 i h1 h2
    rw[h3,(F1 i h1).2.1];exact⟨hbn0 h1 h2,g2.mono hkp (other _ (ltk (xk h1 h2)) (hbn0 h1 h2)) (λ_ h=>h),g3,cap,g4,λj hj=>hkp.cells _ _ (g5 j hj),(cell1 i h1).trans g6⟩
   ·have hir:i-m<r:=qqO
    obtain⟨g1,g2,g3,cap,g4,g5,g6⟩:=q6 (i-m) hir h2;rw[h3,(F2 i h1).2.1];exact⟨hbn1 hir h2,g2.mono hkp (other _ (ltd (xd hir h2)) (hbn1 hir h2)) (λ_ h=>h),g3,cap,g4,λj hj=>hkp.cells _ _ (g5 j hj),(cell2 i h1 hi).trans g6⟩
  ·by_cases h:i<m
   ·exact(cell1 i h).trans (p7 i h ((F1 i h).1▸hf))
   ·exact(cell2 i h hi).trans (q7 (i-m) qqO ((F2 i h).1▸hf))
  ·rcases hLx i hi hfi with⟨h1,h2,h3⟩|⟨h1,h2,h3⟩<;>rcases hLx j hj hfj with⟨g1,g2,g3⟩|⟨g1,g2,g3⟩
   ·exact p8 i j h1 g1 h2 g2 (h3.symm.trans (e.trans g3))
   ·exact(gN (lk i) (xk h1 h2) (by rw[<-h3,e,g3];exact xd qqO g2)).elim
   ·exact(gN (lk j) (xk g1 g2) (by rw[<-g3,<-e,h3];exact xd qqO h2)).elim
   ·have:=q8 (i-m) (j-m) qqO qqO h2 g2 (h3.symm.trans (e.trans g3))
    omega
 ·rw[aW,aW,aW]
  by_cases e1:k'=n
  ·rw[if_pos e1,if_pos e1]
  ·rw[if_neg e1,if_neg e1]
   by_cases e2:k'=d
   ·rw[if_pos e2,if_pos (by simp[e2])]
   ·rw[if_neg e2]
    by_cases e3:k'=k
    ·rw[if_pos e3,if_pos (by simp[e3])]
    ·rw[if_neg e3,if_neg (by simp[e2,e3])]
def inR (k:IntKind) (n:Int):Prop:=
 match k with
 |.i8=> -128≤n/\n≤127
 |.i16=> -32768≤n/\n≤32767
 |.i32=> -2147483648≤n/\n≤2147483647
 |.i64=> -9223372036854775808≤n/\n≤9223372036854775807
 |.u8=>0≤n/\n≤255
 |.u16=>0≤n/\n≤65535
 |.u32=>0≤n/\n≤4294967295
 |.u64=>0≤n/\n≤18446744073709551615
theorem oW {k:IntKind} {n:Int} (h:inR k n):k.wrap n=n:=by
 cases k<;>simp only[inR]at h<;>simp only[IntKind.wrap,IntKind.bits,IntKind.signed]<;>simp<;>omega
def one:PV->Bool
 |.any=>false
 |.agg _=>false
 |.tup _=>false
 |_=>true
def setCells:List PV->Nat->List PV->List PV
 |l,_,[]=>l
 |l,o,p::ps=>setCells (l.set o p) (o+1) ps
def jN:List PV->Bool
 | []=>true
 |p::ps=>match one p with|true=>jN ps|false=>false
theorem kH (l:List PV) (h:jN l=true):∀i,i<l.length->one (aG l i)=true:=by
 induction l with
 |nil=>intro i hi;simp at hi
 |cons p ps ih=>
  intro i hi;unfold jN at h;cases hp:one p with
  |false=>rw[hp]at h;cases h
  |true=>
   rw[hp]at h;cases i with
   |zero=>exact hp
   |succ i=>exact ih h i (by simpa using hi)
def ifK (b:Bool) (k:Prop):Prop:=match b with|true=>k|false=>False
def vQ (agg:Bool) (size:Nat) (v:PV) (k:List PV->Prop):Prop:=
 match agg with
 |true=>match v with
  |.agg cs=>ifK (alI cs.length size&&jN cs) (k cs)
  |_=>False
 |false=>ifK (one v) (ifK (alI size 1) (k [v]))
def ranged:Nat->Nat->List Nat
 |_,0=>[]
 |a,n+1=>a::ranged (a+1) n
def CL.gets (c:CL) (off:Nat):Nat->List PV
 |0=>[]
 |n+1=>c.get off::CL.gets c (off+1) n
def AZ (c:CL) (n:Nat) (k:Prop):Prop:=
 match c with
 |.pv cs=>ifK (alJ n cs.length) k
 |c=>n≤c.ncell/\k
def rdK (te:TE) (c:CL) (off:Nat) (k:PV->Prop):Prop:=
 match te.isAgg with
 |true=>AZ c (off+te.size) (cB (c.gets off te.size) λcs=>k (.agg cs))
 |false=>AZ c (off+1) (bP (c.get off) k)
def wrK (c:CL) (off:Nat) (cs:List PV) (k:CL->Prop):Prop:=
 match c with
 |.pv ds=>ifK (alJ (off+cs.length) ds.length) (cB (setCells ds off cs) λes=>k (.pv es))
 |.ints q xs=>match cs with
  | [.int q' n]=>ifK (decide (q=q')) (off<xs.length/\k (.ints q (xs.set off n)))
  |_=>False
 |.bools xs=>match cs with
  | [.bp b]=>off<xs.length/\k (.bools (xs.set off b))
  | [.bool b]=>off<xs.length/\k (.bools (xs.set off b))
  |_=>False
 |.strs xs=>match cs with
  | [.str s]=>off<xs.length/\k (.strs (xs.set off s))
  |_=>False
 |.rows q xss=>match cs with
  | [.isl (.ints q' ys) _]=>ifK (decide (q=q')) (off<xss.length/\k (.rows q (xss.set off ys)))
  | [.nils]=>off<xss.length/\k (.rows q (xss.set off []))
  |_=>False
 |_=>False
def CL.sub (c:CL) (a b:Nat):CL:=
 match c with
 |.pv cs=>.pv ((cs.drop a).take (b-a))
 |.ints k xs=>.ints k ((xs.drop a).take (b-a))
 |.bools xs=>.bools ((xs.drop a).take (b-a))
 |.strs xs=>.strs ((xs.drop a).take (b-a))
 |.rows k xss=>.rows k ((xss.drop a).take (b-a))
 |.recs m rs=>.recs m ((rs.drop a).take (b-a))
 |.gen _ f=>.gen (b-a) (λi=>f (a+i))
 |.genr m _ f=>.genr m (b-a) (λi=>f (a+i))
def Dl (c d:CL) (k:CL->Prop):Prop:=
 match c,d with
 |.pv xs,.pv ys=>k (.pv (xs++ys))
 |.ints q xs,.ints q' ys=>ifK (decide (q=q')) (k (.ints q (xs++ys)))
 |.bools xs,.bools ys=>k (.bools (xs++ys))
 |.strs xs,.strs ys=>k (.strs (xs++ys))
 |.rows q xs,.rows q' ys=>ifK (decide (q=q')) (k (.rows q (xs++ys)))
 |.recs m xs,.recs m' ys=>ifK (alI m m') (k (.recs m (xs++ys)))
 |_,_=>False
abbrev KR:=PV->List (Nat × AO)->List Nat->List Nat->Prop
def dV (H:Hp) (n:Nat) (k:Prop):Prop:=match av H n with|none=>k|some _=>False
def arK (md:Nat) (k:IntKind) (n:Int) (K:PV->Prop):Prop:=
 match md with
 |2=>K (.int k (k.wrap n))
 |3=>match k with
  |.u64=>K (.int .u64 (IntKind.u64.wrap n))
  |k=>inR k n/\K (.int k n)
 |_=>inR k n/\K (.int k n)
def OJ (md:Nat) (op:BinOp) (a:IntKind) (m n:Int) (K:PV->Prop):Prop:=
 match op with
 |.add=>arK md a (m+n) K
 |.sub=>arK md a (m-n) K
 |.mul=>arK md a (m*n) K
 |.quo=>match md with
  |0=>(0≤m/\0<n/\inR a (m / n))/\K (.int a (m / n))
  |1=>(n≠0/\inR a (m.tdiv n))/\K (.int a (m.tdiv n))
  |_=>n≠0/\K (.int a (a.wrap (m.tdiv n)))
 |.rem=>match md with
  |0=>(0≤m/\0<n)/\K (.int a (m % n))
  |_=>n≠0/\K (.int a (m.tmod n))
 |.eql=>K (.bp (decide (m=n)))
 |.neq=>K (.bp (decide (m≠n)))
 |.lss=>K (.bp (decide (m<n)))
 |.leq=>K (.bp (decide (m≤n)))
 |.gtr=>K (.bp (decide (n<m)))
 |.geq=>K (.bp (decide (n≤m)))
 |.and=>K (.int a (a.wrap (alK a.bits m&&& alK a.bits n).toNat))
 |.or=>K (.int a (a.wrap (alK a.bits m|||alK a.bits n).toNat))
 |.xor=>K (.int a (a.wrap (alK a.bits m ^^^ alK a.bits n).toNat))
 |.andNot=>K (.int a (a.wrap (alK a.bits m&&& ~~~alK a.bits n).toNat))
 |_=>False
def WY (op:BinOp) (x y:ByteArray) (K:PV->Prop):Prop:=
 match op with
 |.add=>x.size+y.size≤9223372036854775807/\K (.str (x++y))
 |.eql=>K (.bp (decide (x=y)))
 |.neq=>K (.bp (decide (x≠y)))
 |.lss=>K (.bp (Op.bytesLess x.toList y.toList))
 |_=>False
def zy (op:BinOp) (x y:Bool) (K:PV->Prop):Prop:=
 match op with
 |.eql=>K (.bp (x==y))
 |.neq=>K (.bp (!(x==y)))
 |_=>False
def OL (k:CK) (c d:PV) (K:Bool->Prop):Prop:=
 match k with
 |.int q=>match c with
  |.int a m=>match d with
   |.int b n=>ifK (decide (a=q)&&decide (b=q)) (K (decide (m=n)))
   |_=>False
  |_=>False
 |.str=>match c with
  |.str s=>match d with
   |.str t=>K (decide (s=t))
   |_=>False
  |_=>False
 |.bool=>match c with
  |.bp s=>match d with
   |.bp t=>K (s==t)
   |_=>False
  |_=>False
def flatK:List CK->List PV->List PV->(Bool->Prop)->Prop
 | [],cs,ds,K=>match cs with
  | []=>match ds with
   | []=>K true
   |_::_=>False
  |_::_=>False
 |k::r,cs,ds,K=>match cs with
  | []=>False
  |c::cs=>match ds with
   | []=>False
   |d::ds=>OL k c d λb=>flatK r cs ds λt=>K (b&&t)
def WZ (md:Nat) (op:BinOp) (te:TE) (x y:PV) (K:PV->Prop):Prop:=
 match x with
 |.agg cs=>match y with
  |.agg ds=>match te.cmp with
   |some ks=>match op with
    |.eql=>flatK ks cs ds λr=>K (.bp r)
    |.neq=>flatK ks cs ds λr=>K (.bp (!r))
    |_=>False
   |none=>False
  |_=>False
 |.int a m=>match y with
  |.int b n=>match op with
   |.shl=>(0≤n/\n.toNat≤a.bits)/\arK md a (m*2 ^ n.toNat) K
   |.shr=>(0≤n/\n.toNat≤a.bits/\0≤m)/\K (.int a (m / 2 ^ n.toNat))
   |op=>ifK (decide (a=b)) (OJ md op a m n K)
  |_=>False
 |.str s=>match y with
  |.str t=>WY op s t K
  |_=>False
 |.bp s=>match te.und with
  |.bool=>match y with
   |.bp t=>zy op s t K
   |.bool t=>zy op s t K
   |_=>False
  |_=>False
 |.bool s=>match te.und with
  |.bool=>match y with
   |.bp t=>zy op s t K
   |.bool t=>zy op s t K
   |_=>False
  |_=>False
 |.isl c _=>match y with
  |.nils=>match te.und with
   |.slice _=>match op with
    |.eql=>(c.cnt≠0)/\K (.bp false)
    |.neq=>(c.cnt≠0)/\K (.bp true)
    |_=>False
   |_=>False
  |_=>False
 |.nils=>match y with
  |.nils=>match te.und with
   |.slice _=>match op with
    |.eql=>K (.bool true)
    |.neq=>K (.bool false)
    |_=>False
   |_=>False
  |_=>False
 |.rsl _ _ _=>match y with
  |.nils=>match te.und with
   |.slice _=>match op with
    |.eql=>K (.bool false)
    |.neq=>K (.bool true)
    |_=>False
   |_=>False
  |_=>False
 |.nnl c=>match y with
  |.nils=>match te.und with
   |.slice _=>match op with
    |.eql=>K (.bp (decide (c.cnt=0)))
    |.neq=>K (.bp (decide (c.cnt≠0)))
    |_=>False
   |_=>False
  |_=>False
 |_=>False
def unK (md:Nat) (op:UnOp) (x:PV) (K:PV->Prop):Prop:=
 match op with
 |.not=>match x with
  |.bp b=>K (.bp (!b))
  |.bool b=>match b with|true=>K (.bool false)|false=>K (.bool true)
  |_=>False
 |.neg=>match x with
  |.int k n=>arK md k (0-n) K
  |_=>False
 |_=>False
def Z4 (md:Nat) (td:TE) (x:PV) (K:PV->Prop):Prop:=
 match td.und with
 |.int k=>match x with
  |.int _ n=>arK md k n K
  |_=>False
 |.string=>match x with
  |.str s=>K (.str s)
  |_=>False
 |_=>False
def iL:PV->Option PV
 |.int k n=>some (.int k n)
 |.bool b=>some (.bool b)
 |.bp b=>some (.bp b)
 |.str s=>some (.str s)
 |.nilf=>some .nilf
 |.nils=>some .nils
 |.nilp=>some .nilp
 |.nilm=>some .nilm
 |.nili=>some .nili
 |.nnl c=>some (.nnl c)
 |.isl c .full=>some (.isl c .full)
 |.isl c _=>some (.isl c .none)
 |.ip c o=>some (.ip c o)
 |.ipe c i j=>some (.ipe c i j)
 |.fv f us vs=>some (.fv f us vs)
 |.fn f us vs=>match inlF us with
  |true=>match inlF vs with
   |true=>some (.fn f us vs)
   |false=>none
  |false=>none
 |_=>none
where
 inlF:List PV->Bool
  | []=>true
  |x::xs=>match x with
   |.int _ _=>inlF xs
   |.bool _=>inlF xs
   |.bp _=>inlF xs
   |.str _=>inlF xs
   |.nilf=>inlF xs
   |.nils=>inlF xs
   |.nnl _=>inlF xs
   |.nilp=>inlF xs
   |.isl _ .none=>inlF xs
   |.isl _ .full=>inlF xs
   |.ip _ _=>inlF xs
   |.ipe _ _ _=>inlF xs
   |.fv _ _ _=>inlF xs
   |_=>false
def l8:List PV->Option (List PV)
 | []=>some []
 |x::xs=>match iL x with
  |some y=>match l8 xs with
   |some ys=>some (y::ys)
   |none=>none
  |none=>none
def rP (k:IntKind):List PV->Option (List Int)
 | []=>some []
 |.int k' n::r=>match decide (k=k')with
  |true=>match rP k r with|some l=>some (n::l)|none=>none
  |false=>none
 |_=>none
def mX:List PV->Option (List Bool)
 | []=>some []
 |.bp n::r=>match mX r with|some l=>some (n::l)|none=>none
 |.bool n::r=>match mX r with|some l=>some (n::l)|none=>none
 |_=>none
def strsOf:List PV->Option (List ByteArray)
 | []=>some []
 |.str n::r=>match strsOf r with|some l=>some (n::l)|none=>none
 |_=>none
def rowsOf (k:IntKind):List PV->Option (List (List Int))
 | []=>some []
 |.isl (.ints k' n) _::r=>match decide (k=k')with
  |true=>match rowsOf k r with|some l=>some (n::l)|none=>none
  |false=>none
 |.nils::r=>match rowsOf k r with|some l=>some ([]::l)|none=>none
 |_=>none
def W9 (z:Value) (els:List PV) (K:CL->Prop):Prop:=
 match z with
 |.int k _=>match rP k els with|some l=>K (.ints k l)|none=>False
 |.bool _=>match mX els with|some l=>K (.bools l)|none=>False
 |.string _=>match strsOf els with|some l=>K (.strs l)|none=>False
 |.slice _ _ _=>match rowsOf .i64 els with
  |some l=>K (.rows .i64 l)
  |none=>match l8 els with|some l=>K (.pv l)|none=>False
 |_=>match l8 els with|some l=>K (.pv l)|none=>False
def mkK (z:Value) (n:Nat) (K:CL->Prop):Prop:=
 match z with
 |.int k x=>K (.ints k (alL n x))
 |.bool x=>K (.bools (alL n x))
 |.string x=>K (.strs (alL n x))
 |.slice none 0 0=>K (.rows .i64 (alL n []))
 |_=>False
def jZ (l:List PV) (esz:Nat):List (Nat × PV)->Option (List PV)
 | []=>some l
 |(i,v)::r=>match v with
  |.agg cs=>match alI cs.length esz&&alJ (i*esz+esz) l.length with
   |true=>jZ (setCells l (i*esz) cs) esz r
   |false=>none
  |v=>match one v&&alI esz 1&&alJ (i+1) l.length with
   |true=>jZ (l.set i v) esz r
   |false=>none
def qK (k:List PV->Prop):List PV->List PV->Nat->Prop
 | [],l,_=>k l
 |p::ps,l,o=>ru l o p λl'=>qK k ps l' (o+1)
theorem Hg (k:List PV->Prop):∀(ps l:List PV) (o:Nat),qK k ps l o=k (setCells l o ps):=by
 intro ps;induction ps with
 |nil=>intro l o;rfl
 |cons p ps ih=>intro l o;simp only[qK,mR,ih,setCells]
def vR (esz:Nat) (k:List PV->Prop):List (Nat × PV)->List PV->Prop
 | [],l=>k l
 |(i,v)::r,l=>bP v λv=>match v with
  |.agg cs=>ifK (alI cs.length esz&&alJ (i*esz+esz) l.length) (qK (λl'=>vR esz k r l') cs l (i*esz))
  |v=>ifK (one v&&alI esz 1&&alJ (i+1) l.length) (ru l i v λl'=>vR esz k r l')
theorem SG (esz:Nat) (k:List PV->Prop):∀(ps:List (Nat × PV)) (l:List PV),vR esz k ps l=(match jZ l esz ps with|some cs=>k cs|none=>False):=by
 intro ps;induction ps with
 |nil=>intro l;rfl
 |cons x r ih=>
  intro l;obtain⟨i,v⟩:=x;unfold vR jZ;rw[bO];cases v<;>simp only[ifK,Hg,mR,ih]<;>(split<;>simp_all)
def qL (l:List PV) (pl:List (Nat × Nat)):List (Nat × PV)->Option (List PV)
 | []=>some l
 |(i,v)::r=>match pl[i]? with
  |none=>none
  |some (o,sz)=>match v with
   |.agg cs=>match alI cs.length sz&&alJ (o+sz) l.length with
    |true=>qL (setCells l o cs) pl r
    |false=>none
   |v=>match one v&&alI sz 1&&alJ (o+1) l.length with
    |true=>qL (l.set o v) pl r
    |false=>none
abbrev CPT:=FuncId->List PV->Nat->Hp->KR->Prop
def teK (τ:TypeId->Option TE) (t:TypeId) (k:TE->Prop):Prop:=match τ t with|some te=>k te|none=>False
def placesOf (τ:TypeId->Option TE):List Field->Option (List (Nat × Nat))
 | []=>some []
 |f::fs=>match τ f.type with
  |some te=>match placesOf τ fs with
   |some l=>some ((f.offset,te.size)::l)
   |none=>none
  |none=>none
def partsOf (ρ:Operand->PV):List (Nat × Operand)->List (Nat × PV)
 | []=>[]
 |(i,x)::r=>(i,ρ x)::partsOf ρ r
def kS (ρ:Operand->PV):List Operand->List PV
 | []=>[]
 |x::r=>ρ x::kS ρ r
def oG:Nat->List PV
 |0=>[]
 |n+1=>.any::oG n
def chunks (m:Nat):Nat->List PV->List (List PV)
 |0,_=>[]
 |n+1,l=>l.take m::chunks m n (l.drop m)
def iB (n:Nat):List Nat->Bool
 | []=>false
 |m::r=>match alI n m with|true=>true|false=>iB n r
def gH (c:CL) (K:Nat->Prop):Prop:=
 match c with
 |.pv cs=>K cs.length
 |.ints _ xs=>K xs.length
 |.bools xs=>K xs.length
 |.strs xs=>K xs.length
 |.rows _ xss=>K xss.length
 |.recs _ rs=>K rs.length
 |.gen n _=>K n
 |.genr _ n _=>K n
theorem dM (c:CL) (K:Nat->Prop):gH c K=K c.cnt:=by cases c<;>rfl
def jY (c:CL) (K:Nat->Prop):Prop:=
 match c with
 |.recs m _=>K m
 |.genr m _ _=>K m
 |_=>K 1
theorem fI (c:CL) (K:Nat->Prop):jY c K=K c.esz:=by cases c<;>rfl
def Gg (s:ByteArray) (z:PV) (ok:Bool):List (PV × PV)->(PV->Prop)->Prop
 | [],K=>bP z λz=>K (match ok with|true=>.tup [z,.bool false]|false=>z)
 |(.str t,v)::r,K=>(s=t->bP v λv=>K (match ok with|true=>.tup [v,.bool true]|false=>v))/\(s≠t->Gg s z ok r K)
 |_,_=>False
def A8 (s:ByteArray):List (PV × PV)->Prop
 | []=>True
 |(.str t,_)::r=>s≠t/\A8 s r
 |_=>False
def tq (i:PV) (n:Nat) (K:Nat->Prop):Prop:=
 match i with
 |.int _ x=>(0≤x/\x<n)/\K x.toNat
 |_=>False
def fJ:List (List PV)->Prop
 | []=>True
 |x::r=>iL.inlF x=true/\fJ r
def l9 (c:CL) (K:CL->Prop):Prop:=
 match c with
 |.ints k xs=>K (.ints k xs)
 |.bools xs=>K (.bools xs)
 |.strs xs=>K (.strs xs)
 |.rows k xs=>K (.rows k xs)
 |.pv cs=>match l8 cs with
  |some ds=>K (.pv ds)
  |none=>False
 |.recs m rs=>fJ rs/\K (.recs m rs)
 |_=>False
def tC (H:Hp) (x:PV) (K:CL->List Nat->Prop):Prop:=
 match x with
 |.isl c _=>K c []
 |.rsl k off n=>bR H k λo=>match o with
  |.cells c _=>l9 c λc=>jY c λce=>gH c λcn=>off+n≤cn/\ifK (alI ce 1) (K (c.sub off (off+n)) [k])
  |_=>False
 |_=>False
def oZ (m:Nat):List (List PV)->Prop
 | []=>True
 |r::rs=>(alI r.length m&&jN r)=true/\oZ m rs
def Hl (d:CL) (K:Prop):Prop:=
 match d with
 |.pv cs=>ifK (jN cs) K
 |.ints _ _=>K
 |.bools _=>K
 |.strs _=>K
 |.rows _ _=>K
 |.recs m rs=>oZ m rs/\K
 |_=>False
def Me (H:Hp) (n:Nat) (s x:PV) (K:KR):Prop:=
 match s with
 |.nils=>match x with
  |.nils=>K .nils [] [] []
  |x=>tC H x λd acc=>gH d λdn=>jY d λde=>dV H n (K (.isl d (.own n)) [(n,.tok de dn)] acc [n])
 |.isl c t=>match x with
  |.nils=>K (.isl c .none) [] [] []
  |x=>tC H x λd acc=>match t with
   |.own k=>bR H k λo=>match o with
    |.tok m hw=>gH c λcn=>gH d λdn=>jY d λde=>hw=cn/\ifK (alI m de) (Hl d (Dl c d λe=>K (.isl e (.own k)) [(k,.tok m (hw+dn))] (k::acc) []))
    |_=>False
   |.full=>gH c λcn=>gH d λdn=>(cn=0∨0<dn)/\Dl c d λe=>gH e λen=>jY e λee=>dV H n (K (.isl e (.own n)) [(n,.tok ee en)] acc [n])
   |.none=>False
 |_=>False
def Dm (te:TE) (H:Hp) (n k off m:Nat) (x:PV) (K:KR):Prop:=
 tC H (.rsl k off m) λc acc=>tC H x λd acc'=>bR H k λo=>match o with
  |.cells _ false=>gH d λdn=>jY c λce=>(0<m+dn/\m+dn≤1073741824)/\ifK (alI off 0&&alI ce te.size&&alI ce 1)
   (Hl d (Dl c d λe=>dV H n (K (.rsl n 0 (m+dn)) [(k,.cells (.pv []) true),(n,.cells e false)] (k::(acc++acc')) [n])))
  |_=>False
def xS (te:TE) (H:Hp) (n:Nat) (x:PV) (K:KR):Prop:=
 tC H x λd acc=>gH d λdn=>jY d λde=>(0<dn/\dn≤1073741824)/\ifK (alI de te.size&&alI de 1) (dV H n (K (.rsl n 0 dn) [(n,.cells d false)] acc [n]))
def zA (te:TE) (H:Hp) (n:Nat) (x:PV) (K:KR):Prop:=
 tC H x λd acc=>gH d λdn=>jY d λde=>(0<dn/\dn≤1073741824)/\ifK (alI de te.size&&alJ 1 de) (dV H n (K (.rsc n de dn) [(n,.rowo d)] acc [n]))
def zB (te:TE) (H:Hp) (n k es m:Nat) (x:PV) (K:KR):Prop:=
 tC H x λd acc=>bR H k λo=>match o with
  |.rowo c=>gH c λcn=>gH d λdn=>jY c λce=>(cn=m/\0<m+dn/\m+dn≤1073741824)/\ifK (alI ce te.size&&(alI ce es&&alJ 1 ce))
   (Hl d (Dl c d λe=>dV H n (K (.rsc n es (m+dn)) [(k,.cells (.pv []) true),(n,.rowo e)] (k::acc) [n])))
  |_=>False
def simpK (c:CL) (K:CL->Prop):Prop:=
 match c with
 |.ints k xs=>K (.ints k xs)
 |.bools xs=>K (.bools xs)
 |.strs xs=>K (.strs xs)
 |_=>False
def A9 (H:Hp) (x:PV) (K:Nat->CL->Prop):Prop:=
 match x with
 |.rsc a es r=>bR H a λo=>match o with
  |.rowo c=>gH c λcn=>jY c λce=>cn=r/\ifK (alI ce es) (K a c)
  |.cells c fz=>match fz with
   |true=>False
   |false=>match c with
    |.recs m rs=>fJ rs/\rs.length=r/\ifK (alI m es) (K a (.recs m rs))
    |_=>False
  |_=>False
 |.rsl a off r=>bR H a λo=>match o with
  |.cells c fz=>match fz with
   |true=>False
   |false=>simpK c λc=>gH c λcn=>jY c λce=>(cn=r/\0<r)/\ifK (alI off 0&&alI ce 1) (K a c)
  |_=>False
 |_=>False
def afW (H:Hp) (n:Nat) (cs:List PV) (K:KR):Prop:=
 match cs with
 | [x]=>match x with
  |.nils=>dV H n (K (.rsl n 0 1) [(n,.qmat 1 (λ_=>1) (λ_=>.pv []))] [] [n])
  |x=>A9 H x λa c=>dV H n (K (.rsl n 0 1) [(a,.cells (.pv []) true),(n,.qmat 1 (λ_=>2) (λ_=>c))] [a] [n])
 |_=>False
def Xa (H:Hp) (x:PV):Option (Nat × Nat × Nat × (Nat->Nat) × (Nat->CL)):=
 match x with
 |.rsl d off r=>match off with
  |0=>match av H d with
   |some o=>match o with
    |.qmat q f c=>some (d,r,q,f,c)
    |_=>none
   |none=>none
  |_+1=>none
 |_=>none
def Dn (te:TE) (H:Hp) (n:Nat) (s:PV) (d r q:Nat) (f:Nat->Nat) (c:Nat->CL) (K:KR):Prop:=
 match s with
 |.nils=>(r=q/\0<r/\r≤1073741824)/\ifK (alI te.size 1) (dV H n (K (.rsl n 0 r) [(d,.cells (.pv []) true),(n,.qmat r f c)] [d] [n]))
 |.rsl k off m=>bR H k λo=>match o with
  |.qmat m' f0 c0=>(m=m'/\r=q/\0<r/\m+r≤1073741824/\∀i,i<r->f i=1∨f i=2)/\ifK (alI te.size 1&&alI off 0&&!alI k d)
   (dV H n (K (.rsl n 0 (m+r)) [(k,.cells (.pv []) true),(d,.cells (.pv []) true),(n,.qmat (m+r) (λi=>if i<m then f0 i else f (i-m)) (λi=>if i<m then c0 i else c (i-m)))] [k,d] [n]))
  |_=>False
 |_=>False
def aiN (tk:Bool) (H:Hp) (n k off q:Nat) (f:Nat->Nat) (c:Nat->CL) (K:KR):Prop:=
 (off<q/\(f off=1∨f off=2))/\match tk with
  |true=>(f off=1->K .nils [] [k] [])/\(f off=2->gH (c off) λcn=>jY (c off) λce=>dV H n (K (.rsc n ce cn) [(k,.qmat q (bA f off 0) c),(n,.rowo (c off))] [k] [n]))
  |false=>(f off=1->K (.sln 0) [] [k] [])/\(f off=2->gH (c off) λcn=>K (.sln cn) [] [k] [])
def SH (H:Hp) (k off q:Nat) (f:Nat->Nat) (c:Nat->CL) (v:PV) (K:KR):Prop:=
 match v with
 |.nils=>(off<q/\f off≠2)/\K .any [(k,.qmat q (bA f off 1) c)] [k] []
 |v=>A9 H v λd c'=>(off<q/\f off≠2)/\ifK (!alI k d) (K .any [(d,.cells (.pv []) true),(k,.qmat q (bA f off 2) (bA c off c'))] [k,d] [])
def mY (te:TE) (H:Hp) (n:Nat) (s x:PV) (K:KR):Prop:=
 Me H n s x λv sets acc news=>match v with|.isl c _=>gH c λcn=>jY c λce=>cn≤1073741824/\ifK (alI ce te.size) (K v sets acc news)|_=>K v sets acc news
def Dp (mu:Bool) (te:TE) (H:Hp) (n:Nat) (s x:PV) (K:KR):Prop:=
 match s with
 |.rsl k off m=>Dm te H n k off m x K
 |.rsc k es m=>zB te H n k es m x K
 |.nils=>match mu with
  |true=>match alI te.size 1 with
   |true=>xS te H n x K
   |false=>zA te H n x K
  |false=>mY te H n .nils x K
 |.isl c t=>match mu with
  |true=>match t with
   |.full=>gH c λcn=>match alI cn 0 with
    |true=>xS te H n x K
    |false=>mY te H n (.isl c t) x K
   |t=>mY te H n (.isl c t) x K
  |false=>mY te H n (.isl c t) x K
 |s=>mY te H n s x K
abbrev Gh:AO:=.cells (.pv []) true
def Ho (H:Hp) (x:PV):Option (Nat × Nat × Nat × RC):=
 match x with
 |.rsl d off r=>match off with
  |0=>match av H d with
   |some o=>match o with
    |.pmat q rc=>some (d,r,q,rc)
    |_=>none
   |none=>none
  |_+1=>none
 |_=>none
def OM (a:RC) (m:Nat) (b:RC) (K:RC->Prop):Prop:=
 match a with
 |.ints q c=>match b with
  |.ints q' c'=>ifK (decide (q=q')) (K (.ints q (λi=>if i<m then c i else c' (i-m))))
  |_=>False
 |.recs e c=>match b with
  |.recs e' c'=>ifK (alI e e') (K (.recs e (λi=>if i<m then c i else c' (i-m))))
  |_=>False
 |_=>False
def Mf (te:TE) (H:Hp) (n:Nat) (s:PV) (d r q:Nat) (rc:RC) (K:KR):Prop:=
 match s with
 |.nils=>(r=q/\0<r/\r≤1073741824)/\ifK (alI te.size 1) (dV H n (K (.rsl n 0 r) [(d,Gh),(n,.pmat r rc)] [d] [n]))
 |.rsl k off m=>bR H k λo=>match o with
  |.pmat m' rc0=>(m=m'/\r=q/\0<r/\m+r≤1073741824)/\ifK (alI te.size 1&&alI off 0&&!alI k d) (OM rc0 m rc λrc2=>dV H n (K (.rsl n 0 (m+r)) [(k,Gh),(d,Gh),(n,.pmat (m+r) rc2)] [k,d] [n]))
  |_=>False
 |_=>False
def Dq (mu:Bool) (te:TE) (H:Hp) (n:Nat) (s x:PV) (K:KR):Prop:=
 match Ho H x with
 |some (d,r,q,rc)=>Mf te H n s d r q rc K
 |none=>match Xa H x with
  |some (d,r,q,f,c)=>Dn te H n s d r q f c K
  |none=>Dp mu te H n s x K
def mZ (md:Nat) (b:Bool):PV->List PV->(PV->Prop)->Prop
 |x,[],K=>K x
 |.int k x,.int k' y::r,K=>ifK (decide (k=k')) (match b with
  |true=>mZ md b (.int k (max x y)) r K
  |false=>mZ md b (.int k (min x y)) r K)
 |_,_,_=>False
def Dr (te:TE) (H:Hp) (n:Nat) (s x:PV) (K:KR):Prop:=
 match s with
 |.nils=>match x with
  |.int .i64 m=>(0<m/\m≤1000000)/\ifK (alI te.size 1&&alJ te.bytes 65536) (dV H n (mkK te.zero m.toNat λd=>K (.rsl n 0 m.toNat) [(n,.cells d false)] [] [n]))
  |_=>False
 |_=>False
def dropP:PV->PV
 |.rsc k _ n=>.rsl k 0 n
 |v=>v
def aiO (ρ:Operand->PV):Operand->PV:=λx=>dropP (ρ x)
def OO (H:Hp) (x:PV) (K:CL->Nat->Nat->List Nat->Prop):Prop:=
 match x with
 |.isl c _=>gH c λm=>K c 0 m []
 |.rsl k off n=>bR H k λo=>match o with
  |.cells c _=>l9 c λc=>K c off n [k]
  |_=>False
 |_=>False
def Xb (es:Nat) (c e:CL) (off so q:Nat) (K:CL->Prop):Prop:=
 match c with
 |.ints k xs=>match e with
  |.ints k' ys=>(off+q≤xs.length/\so+q≤ys.length)/\ifK (decide (k=k')&&alI es 1) (K (.ints k (xs.take off++((ys.drop so).take q++xs.drop (off+q)))))
  |_=>False
 |.recs m rs=>match e with
  |.recs m' ss=>(off % m=0/\so % m=0/\off / m+q≤rs.length/\so / m+q≤ss.length)/\oZ m ss/\ifK (alI m m'&&alI es m&&alJ 1 m)
   (K (.recs m (rs.take (off / m)++((ss.drop (so / m)).take q++rs.drop (off / m+q)))))
  |_=>False
 |_=>False
def OP (te:TE) (H:Hp) (d s:PV) (K:KR):Prop:=
 match d with
 |.rsl k off n=>bR H k λo=>match o with
  |.cells c fz=>match fz with
   |true=>False
   |false=>OO H s λe so m acc=>(0<m/\0<n)/\Xb te.size c e off so (min m n) λc'=>K (.int .i64 ((min m n:Nat):Int)) [(k,.cells c' false)] (k::acc) []
  |_=>False
 |_=>False
def SI (τ:TypeId->Option TE) (mu:Bool) (b:Builtin) (ats:List TypeId) (args:List PV) (H:Hp) (n:Nat) (K:KR):Prop:=
 match b with
 |.len=>match ats with
  | [t]=>teK τ t λte=>match args with
   | [x]=>match te.und with
    |.slice _=>match x with
     |.isl c _=>gH c λm=>K (.int .i64 m) [] [] []
     |.rsl _ _ m=>K (.int .i64 m) [] [] []
     |.nils=>K (.int .i64 0) [] [] []
     |.row _ _ m=>K (.int .i64 m) [] [] []
     |.rsc _ _ m=>K (.int .i64 m) [] [] []
     |.sln m=>K (.int .i64 m) [] [] []
     |_=>False
    |.string=>match x with
     |.str s=>K (.int .i64 s.size) [] [] []
     |_=>False
    |.array m _=>K (.int .i64 m) [] [] []
    |_=>False
   |_=>False
  |_=>False
 |.append=>match args with
  | [s,x]=>match ats with
   | [t,u]=>teK τ t λte=>match te.und with
    |.slice e=>teK τ e λte'=>teK τ u λtu=>match tu.und with
     |.slice e'=>ifK (alI e e'&&alJ te'.bytes 65536) (Dq mu te' H n s x K)
     |.int _=>Dr te' H n s x K
     |_=>False
    |_=>False
   |_=>False
  |_=>False
 |.cap=>match args with
  | [x]=>match ats with
   | [t]=>teK τ t λte=>match te.und with
    |.slice _=>match x with
     |.nils=>K (.int .i64 0) [] [] []
     |_=>False
    |_=>False
   |_=>False
  |_=>False
 |.max=>match args with
  |x::r=>mZ 0 true x r λv=>K v [] [] []
  |_=>False
 |.min=>match args with
  |x::r=>mZ 0 false x r λv=>K v [] [] []
  |_=>False
 |.copy=>match args with
  | [d,s]=>match ats with
   | [t,u]=>teK τ t λte=>match te.und with
    |.slice e=>teK τ e λte'=>OP te' H (dropP d) (dropP s) K
    |_=>False
   |_=>False
  |_=>False
 |_=>False
def OQ (te:TE) (K:PV->Prop):Prop:=
 match te.zero with
 |.agg cs=>cB (mU cs.toList) λzs=>K (.agg zs)
 |v=>bP (ofV v) K
def jB (n:Nat) (K:Nat->Prop):Prop:=match n with|0=>K 0|m+1=>K (m+1)
theorem jT (n:Nat) (K:Nat->Prop):jB n K=K n:=by cases n<;>rfl
def Hq (x:PV) (d:Nat) (K:PV->Prop):Prop:=
 match x with
 |.rp k off=>K (.rp k (off+d))
 |.ip c off=>K (.ip c (off+d))
 |.rpe k m i j=>K (.rpe k m i (j+d))
 |.ipe c i j=>K (.ipe c i (j+d))
 |.rowp k b m i j=>K (.rowp k b m i (j+d))
 |_=>False
def Xc (x:PV) (d:Nat) (K:PV->Prop):Prop:=
 match x with
 |.rp k off=>jB (off+d) λo=>K (.rp k o)
 |.ip c off=>jB (off+d) λo=>K (.ip c o)
 |.rpe k m i j=>jB (j+d) λo=>K (.rpe k m i o)
 |.ipe c i j=>jB (j+d) λo=>K (.ipe c i o)
 |.rowp k b m i j=>jB (j+d) λo=>K (.rowp k b m i o)
 |_=>False
theorem abZ (x:PV) (d:Nat) (K:PV->Prop):Xc x d K=Hq x d K:=by cases x<;>simp only[Xc,Hq,jT]
def zC (te:TE) (rs:List PV) (m i j n:Nat) (K:PV->Prop):Prop:=
 match te.isAgg with
 |true=>match alI j 0&&alI te.size m with
  |true=>(i<n/\rs.length=m)/\K (.agg rs)
  |false=>i<n/\ifK (alJ (j+te.size) m) (cB (CL.gets (.pv rs) j te.size) λcs=>K (.agg cs))
 |false=>i<n/\ifK (alJ (j+1) m) (bP (aG rs j) K)
def xU (len:Nat) (lo hi:Option PV) (K:Nat->Nat->Prop):Prop:=
 match lo with
 |none=>match hi with
  |none=>K 0 len
  |some (.int _ h)=>(0≤h/\h≤len)/\K 0 h.toNat
  |_=>False
 |some (.int _ l)=>match hi with
  |none=>(0≤l/\l≤len)/\K l.toNat len
  |some (.int _ h)=>(0≤l/\l≤h/\h≤len)/\K l.toNat h.toNat
  |_=>False
 |_=>False
def Mg (c:CL) (es:Nat) (lo hi mx:PV) (K:PV->Prop):Prop:=
 match lo with
 |.int _ a=>match hi with
  |.int _ b=>match mx with
   |.int _ m=>jY c λce=>gH c λcn=>(0≤a/\a≤b/\b≤m/\m≤cn)/\ifK (alI ce es) (K (.isl (c.sub a.toNat b.toNat) .none))
   |_=>False
  |_=>False
 |_=>False
def tF (H:Hp):List PV->(List PV->List (Nat × AO)->List Nat->Prop)->Prop
 | [],K=>K [] [] []
 |p::r,K=>match p with
  |.rp k off=>bR H k λo=>match o with
   |.cells (.pv ds) fz=>match fz with
    |true=>tF H r λcs sets acc=>K (.ip (.pv ds) off::cs) sets (k::acc)
    |false=>match l8 ds with
     |some es=>cB es λes=>jv H k (.cells (.pv es) true) λH1=>tF H1 r λcs sets acc=>K (.ip (.pv es) off::cs) ((k,.cells (.pv es) true)::sets) (k::acc)
     |none=>tF H r λcs sets acc=>K (.rp k off::cs) sets acc
   |_=>tF H r λcs sets acc=>K (.rp k off::cs) sets acc
  |p=>bP p λp=>tF H r λcs sets acc=>K (p::cs) sets acc
def SK (k b:Nat) (rc:RC) (K:PV->Prop):Prop:=
 match rc with
 |.ints _ c=>K (.row k b (c b).length)
 |.recs _ c=>K (.row k b (c b).length)
 |.fn _ n _=>K (.row k b n)
def Z5 (te:TE) (rc:RC) (b m i j:Nat) (K:PV->Prop):Prop:=
 match rc with
 |.ints q c=>ifK (alI m 1&&alI j 0) (rdK te (.ints q (c b)) i K)
 |.recs e c=>ifK (alI m e) (zC te ((c b).getD i []) m i j (c b).length K)
 |.fn e n f=>ifK (alI m e) (zC te (f b i) m i j n K)
def Z6 (te:TE) (rc:RC) (b m i j:Nat) (v:PV) (K:RC->Prop):Prop:=
 match rc with
 |.ints q c=>match v with
  |.int q' x=>i<(c b).length/\ifK (alI m 1&&alI j 0&&(alI te.size 1&&(!te.isAgg&&decide (q'=q)))) (K (.ints q (bA c b ((c b).set i x))))
  |_=>False
 |.recs e c=>match v with
  |.agg cs=>(i<(c b).length/\cs.length=e/\jN cs=true/\iL.inlF cs=true)/\ifK (alI m e&&alI j 0&&(alI te.size e&&te.isAgg)) (K (.recs e (bA c b ((c b).set i cs))))
  |.str x=>i<(c b).length/\ifK (alI m 1&&alI j 0&&(alI te.size 1&&(!te.isAgg&&alI e 1))) (K (.recs 1 (bA c b ((c b).set i [.str x]))))
  |_=>False
 |.fn e n f=>match v with
  |.agg cs=>(i<n/\cs.length=e/\jN cs=true/\iL.inlF cs=true)/\ifK (alI m e&&alI j 0&&(alI te.size e&&te.isAgg)) (K (.fn e n (bA f b (bA (f b) i cs))))
  |.str x=>i<n/\ifK (alI m 1&&alI j 0&&(alI te.size 1&&(!te.isAgg&&alI e 1))) (K (.fn 1 n (bA f b (bA (f b) i [.str x]))))
  |_=>False
def SL (mu:Bool) (cs:List PV):Option (Nat × Nat):=
 match mu with
 |true=>match cs with
  | [.rsl a off m]=>match off with
   |0=>some (a,m)
   |_+1=>none
  |_=>none
 |false=>none
def OT (o:AO) (m:Nat) (K:RC->Prop):Prop:=
 match o with
 |.cells c fz=>match fz with
  |true=>False
  |false=>match c with
   |.ints q xs=>(m=xs.length/\0<m)/\K (.ints q (λ_=>xs))
   |.recs e rs=>(m=rs.length/\0<m/\fJ rs)/\K (.recs e (λ_=>rs))
   |_=>False
 |_=>False
def Bc (o:AO) (K:IntKind->List Int->Prop):Prop:=
 match o with
 |.cells c fz=>match fz with
  |true=>False
  |false=>match c with
   |.ints q xs=>K q xs
   |_=>False
 |_=>False
theorem OU {o:AO} {K:IntKind->List Int->Prop} (h:Bc o K):∃q xs,o=.cells (.ints q xs) false/\K q xs:=by
 unfold Bc at h;split at h
 ·split at h
  ·exact h.elim
  ·split at h
   ·exact⟨_,_,rfl,h⟩
   ·exact h.elim
 ·exact h.elim
def Bf:List Method->String->Option Nat
 | [],_=>none
 |m::r,s=>match m.name==s with
  |true=>match m.path.toList with
   | []=>match m.func with
    |some (g,false)=>some g
    |_=>none
   |_::_=>none
  |false=>Bf r s
def Hr (d:TypeDesc):Bool:=match d with|.pointer _=>false|_=>true
def OV (rf:List Nat):Operand->Bool
 |.tmp t=>iB (1000+t) rf
 |_=>false
def Mh (te:TE) (p x:PV) (H:Hp) (K:KR):Prop:=
 match p with
 |.rp k off=>bP x λv=>vQ te.isAgg te.size v λcs=>bR H k λo=>match o with
  |.cells c fz=>match fz with
   |true=>False
   |false=>wrK c off cs λc'=>l9 c' λd=>K .any [(k,.cells d true)] [k] []
  |_=>False
 |_=>False
def SN (d:TypeDesc):Bool:=match d with|.interface _=>false|_=>true
def OW (d:TypeDesc) (v:PV) (y:Operand):Bool:=match y with
 |.const c=>(match c with
  |.nilIface=>(match v with
   |.nili=>(match d with|.interface _=>true|_=>false)
   |_=>false)
  |_=>false)
 |_=>false
def u8D (τ:TypeId->Option TE) (t:TypeId):Bool:=match τ t with
 |some te=>(match te.und with
  |.int k=>(match k with|.u8=>true|_=>false)
  |_=>false)
 |none=>false
def cvN (τ:TypeId->Option TE) (ts td:TE):Nat:=match td.und with
 |.slice e=>(match u8D τ e with|true=>1|false=>0)
 |.string=>(match ts.und with
  |.slice e=>(match u8D τ e with|true=>2|false=>0)
  |_=>0)
 |_=>0
def zD (b:ByteArray):List Int:=b.data.toList.map λx=>(x.toNat:Int)
def Ht (H:Hp) (x:PV) (K:PV->List Nat->Prop):Prop:=match x with
 |.isl c _=>(match c with
  |.ints k xs=>ifK (decide (k=.u8)) (K (.str (strOfNums xs)) [])
  |_=>False)
 |.rsl i off m=>bR H i λo=>match o with
  |.cells c fz=>(match c with
   |.ints k xs=>(match fz with
    |true=>False
    |false=>off+m≤xs.length/\ifK (decide (k=.u8)) (K (.str (strOfNums ((xs.drop off).take m))) [i]))
   |_=>False)
  |_=>False
 |.nils=>K (.str .empty) []
 |_=>False
def Xd (τ:TypeId->Option TE) (te:TE) (K:TypeId->Prop):Prop:=
 match te.und with
 |.struct fs=>match fs[1]? with
  |some fd=>teK τ fd.type λtf=>match tf.und with
   |.slice e=>(te.zero.cells= #[.pointer none,.slice none 0 0])/\K e
   |_=>False
  |none=>False
 |_=>False
def rQ (τ:TypeId->Option TE) (rf:List Nat) (ρ:Operand->PV) (H:Hp) (dst:Option Nat) (t:TypeId) (x:Operand) (lo hi mx:Option Operand) (K:KR):Prop:=
 match mx with
  |none=>teK τ t λte=>(λ(K':Nat->Prop)=>match ρ x with|.isl c _=>gH c K'|.rsl _ _ m=>K' m|.str s=>K' s.size|.nils=>K' 0|_=>(match te.und with|.array m _=>K' m|_=>False)) λln=>xU ln (lo.map ρ) (hi.map ρ) λa b=>
   match te.und with
   |.string=>match ρ x with
    |.str s=>K (.str (s.extract a b)) [] [] []
    |_=>False
   |.slice e=>teK τ e λte'=>match ρ x with
    |.isl c tk=>jY c λce=>ifK (alI ce te'.size) (K (.isl (c.sub a b) .none) [] [] [])
    |.rsl k off m=>match(match dst with|some d=>iB d rf|none=>false)with
     |true=>bR H k λo=>Bc o λq xs=>ifK (alI off 0&&alI a 0) (K (.rsl k 0 b) [(k,.cells (.ints q (xs.take b)) false)] [k] [])
     |false=>K (.rsl k (off+a*te'.size) (b-a)) [] [] []
    |.nils=>K .nils [] [] []
    |_=>False
   |.array m e=>teK τ e λte'=>match ρ x with
    |.rp k off=>bR H k λo=>match o with
     |.cells c _=>off+m*te'.size≤c.ncell/\ifK (alJ 1 te'.size) (K (.rsl k (off+a*te'.size) (b-a)) [] [k] [])
     |_=>False
    |.ip c off=>jY c λce=>off+m≤c.ncell/\ifK (alI ce 1&&alI te'.size 1) (K (.isl (c.sub (off+a) (off+b)) .none) [] [] [])
    |_=>False
   |_=>False
  |some mo=>match lo with
   |some lo=>match hi with
    |some hi=>teK τ t λte=>match te.und with
     |.slice e=>teK τ e λte'=>match ρ x with
      |.isl c _=>Mg c te'.size (ρ lo) (ρ hi) (ρ mo) λv=>K v [] [] []
      |_=>False
     |_=>False
    |none=>False
   |none=>False
def opK (τ:TypeId->Option TE) (md:Nat) (rf:List Nat) (CP:CPT) (YP:Fn->Array Value->Array Value->List PV->Nat->Hp->KR->Prop) (ρ:Operand->PV) (H:Hp) (n:Nat) (dst:Option Nat) (o:Op) (K:KR):Prop:=
 match o with
 |.move x=>bP (ρ x) λv=>K v [] [] []
 |.assign x=>bP (ρ x) λv=>K v [] [] []
 |.pick c a b=>match ρ c with
  |.bool t=>match t with
   |true=>bP (ρ a) λv=>K v [] [] []
   |false=>bP (ρ b) λv=>K v [] [] []
  |.bp t=>(t=true->bP (ρ a) λv=>K v [] [] [])/\(t=false->bP (ρ b) λv=>K v [] [] [])
  |_=>False
 |.alloc t=>teK τ t λte=>dV H n (match iB (2000+t) rf with
  |true=>Xd τ te λe=>K (.rp n 0) [(n,.bld t e .empty)] [] [n]
  |false=>cB (mU te.zero.cells.toList) λzs=>K (.rp n 0) [(n,.cells (.pv zs) false)] [] [n])
 |.box t x=>teK τ t λte=>bP (ρ x) λv=>vQ te.isAgg te.size v λcs=>dV H n (K (.rp n 0) [(n,.cells (.pv cs) false)] [] [n])
 |.build t parts=>teK τ t λte=>cB (mU te.zero.cells.toList) λzs=>match te.und with
  |.struct fs=>match placesOf τ fs.toList with
   |some pl=>match qL zs pl (partsOf ρ parts.toList)with
    |some cs=>cB cs λcs=>K (.agg cs) [] [] []
    |none=>False
   |none=>False
  |.array _ e=>teK τ e λte'=>match jZ zs te'.size (partsOf ρ parts.toList)with
   |some cs=>cB cs λcs=>K (.agg cs) [] [] []
   |none=>False
  |_=>False
 |.buildSlice t len parts=>teK τ t λte=>match te.und with
  |.slice e=>teK τ e λte'=>ifK (alJ (len*te'.size) 16777216) (vR te'.size (λcs=>match(match dst with|some d=>iB (4000+d) rf|none=>false)with
   |true=>ifK (alI te'.size 1&&alI len 1) (afW H n cs K)
   |false=>match SL (match dst with|some d=>iB d rf|none=>false) cs with
    |some (a,m)=>ifK (alI te'.size 1&&alI len 1) (bR H a λo=>OT o m λrc=>dV H n (K (.rsl n 0 1) [(a,Gh),(n,.pmat 1 rc)] [a] [n]))
    |none=>match te'.isAgg with
     |true=>match l8 cs with
      |some ds=>ifK (alJ 1 te'.size) (match(match dst with|some d=>iB d rf|none=>false)with
       |true=>dV H n (K (.rsl n 0 len) [(n,.cells (.recs te'.size (chunks te'.size len ds)) false)] [] [n])
       |false=>K (.isl (.recs te'.size (chunks te'.size len ds)) .full) [] [] [])
      |none=>False
     |false=>W9 te'.zero cs λc=>ifK (alI te'.size 1) (match(match dst with|some d=>iB d rf|none=>false)with
      |true=>dV H n (K (.rsl n 0 len) [(n,.cells c false)] [] [n])
      |false=>K (.isl c .full) [] [] [])) (partsOf ρ parts.toList) (oG (len*te'.size)))
  |_=>False
 |.load t a=>teK τ t λte=>match ρ a with
  |.rp k off=>bR H k λo=>match o with
   |.cells c _=>rdK te c off λv=>K v [] [k] []
   |.mat _ l rc=>off<l.length/\ifK (!te.isAgg) (SK k (l.getD off 0) rc λv=>K v [] [k] [])
   |.qmat q f c=>ifK (!te.isAgg) (aiN (match dst with|some d=>iB (5000+d) rf|none=>false) H n k off q f c K)
   |_=>False
  |.rowp k b m i j=>bR H k λo=>match o with
   |.mat all _ rc=>b∈all/\Z5 te rc b m i j λv=>K v [] [k] []
   |_=>False
  |.ip c off=>rdK te c off λv=>K v [] [] []
  |.rpe k m i j=>bR H k λo=>match o with
   |.cells (.recs m' rs) _=>ifK (alI m m') (zC te (CL.rcd (.recs m' rs) i) m i j rs.length λv=>K v [] [k] [])
   |_=>False
  |.ipe c i j=>match c with
   |.recs m rs=>zC te (CL.rcd (.recs m rs) i) m i j rs.length λv=>K v [] [] []
   |.genr m q f=>zC te (CL.rcd (.genr m q f) i) m i j q λv=>K v [] [] []
   |_=>False
  |_=>False
 |.store t a x=>teK τ t λte=>match OV rf a with
  |true=>Mh te (ρ a) (ρ x) H K
  |false=>match ρ a with
   |.rp k off=>bP (ρ x) λv=>vQ te.isAgg te.size v λcs=>bR H k λo=>match o with
    |.cells c false=>wrK c off cs λc'=>K .any [(k,.cells c' false)] [k] []
    |.mat all l rc=>match v with
     |.row _ b n=>(off<l.length/\b∈all/\n=(rc.at b).cnt)/\K .any [(k,.mat all (l.set off b) rc)] [k] []
     |_=>False
    |.qmat q f c=>SH H k off q f c v K
    |_=>False
   |.rpe k m i j=>bP (ρ x) λv=>bR H k λo=>match o with
    |.cells (.recs m' rs) fz=>match fz with
     |true=>False
     |false=>match v with
      |.agg cs=>(i<rs.length/\cs.length=m/\jN cs=true)/\ifK (alI m m'&&(alI j 0&&(alI te.size m&&te.isAgg))) (K .any [(k,.cells (.recs m (rs.set i cs)) false)] [k] [])
      |_=>False
    |_=>False
   |.rowp k b m i j=>bP (ρ x) λv=>bR H k λo=>match o with
    |.mat all l rc=>b∈all/\Z6 te rc b m i j v λrc'=>K .any [(k,.mat all l rc')] [k] []
    |_=>False
   |_=>False
 |.nilCheck x=>match ρ x with
  |.rp k off=>K (.rp k off) [] [] []
  |.ip c off=>K (.ip c off) [] [] []
  |.rpe k m i j=>K (.rpe k m i j) [] [] []
  |.ipe c i j=>K (.ipe c i j) [] [] []
  |.fn (.func f) a b=>K (.fn (.func f) a b) [] [] []
  |_=>False
 |.binOp op t x y _=>teK τ t λte=>match OW te.und (ρ x) y with
  |true=>(match op with
   |.eql=>K (.bool true) [] [] []
   |.neq=>K (.bool false) [] [] []
   |_=>False)
  |false=>bP (ρ x) λv=>bP (ρ y) λu=>WZ md op te v u λv=>K v [] [] []
 |.unOp op _ x=>bP (ρ x) λv=>unK md op v λv=>K v [] [] []
 |.convert s d x=>teK τ s λts=>teK τ d λtd=>match cvN τ ts td with
  |0=>bP (ρ x) λv=>Z4 md td v λv=>K v [] [] []
  |1=>(match ρ x with
   |.str b=>K (.isl (.ints .u8 (zD b)) .none) [] [] []
   |_=>False)
  |_=>Ht H (ρ x) λv acc=>K v [] acc []
 |.makeInterface t x=>teK τ t λte=>ifK (SN te.und) (bP (ρ x) λv=>K (.ifc t v) [] [] [])
 |.makeFunc fn first caps=>cB (kS ρ first.toList) λfs=>match(match dst with|some d=>iB d rf|none=>false)with
  |true=>cB (kS ρ caps.toList) λcs=>K (.fn fn fs cs) [] [] []
  |false=>tF H (kS ρ caps.toList) λcs sets acc=>K (.fn fn fs cs) sets acc []
 |.makeMap t none=>dV H n (K (.rm n) [(n,.map [])] [] [n])
 |.insert t m k v=>teK τ t λte=>match te.und with
  |.map kt _=>teK τ kt λtk=>match tk.und with
   |.string=>match ρ m with
    |.rm i=>match ρ k with
     |.str s=>bP (ρ v) λv=>bR H i λo=>match o with
      |.map es=>A8 s es/\K .any [(i,.map (es++[(.str s,v)]))] [i] []
      |_=>False
     |_=>False
    |_=>False
   |_=>False
  |_=>False
 |.mapUpdate t m k v=>teK τ t λte=>match te.und with
  |.map kt _=>teK τ kt λtk=>match tk.und with
   |.string=>match ρ m with
    |.rm i=>match ρ k with
     |.str s=>bP (ρ v) λv=>bR H i λo=>match o with
      |.map es=>A8 s es/\K .any [(i,.map (es++[(.str s,v)]))] [i] []
      |_=>False
     |_=>False
    |_=>False
   |_=>False
  |_=>False
 |.lookup t m k ok=>teK τ t λte=>match te.und with
  |.map kt et=>teK τ kt λtk=>match tk.und with
   |.string=>teK τ et λtz=>match ρ m with
    |.rm i=>match ρ k with
     |.str s=>bR H i λo=>match o with
      |.map es=>OQ tz λz=>Gg s z ok es λv=>K v [] [i] []
      |_=>False
     |_=>False
    |_=>False
   |_=>False
  |_=>False
 |.makeSlice t l c=>teK τ t λte=>match te.und with
  |.slice e=>teK τ e λte'=>match ρ l with
   |.int .i64 x=>match ρ c with
    |.int .i64 y=>(0≤x/\x*te'.bytes≤281474976710656/\inR .i64 x/\(y=x∨x≤y/\y*te'.bytes≤281474976710656/\inR .i64 y))/\dV H n (match te'.isAgg with
     |true=>cB (mU te'.zero.cells.toList) λzs=>ifK (alI zs.length te'.size&&alJ 1 te'.size) (match(match dst with|some d=>iB (6000+d) rf|none=>false)with
      |true=>K (.rsc n te'.size x.toNat) [(n,.cells (.recs te'.size (alL x.toNat zs)) false)] [] [n]
      |false=>K (.rsl n 0 x.toNat) [(n,.cells (.recs te'.size (alL x.toNat zs)) false)] [] [n])
     |false=>ifK (alI te'.size 1) (mkK te'.zero x.toNat λd=>K (.rsl n 0 x.toNat) [(n,.cells d false)] [] [n]))
    |_=>False
   |_=>False
  |_=>False
 |.slice t x lo hi mx=>rQ τ rf (aiO ρ) H dst t x lo hi mx K
 |.fieldAddr s x f=>teK τ s λte=>match te.und with
  |.struct fs=>match fs[f]? with
   |some fd=>teK τ fd.type λtf=>ifK (alJ 1 tf.size) (Xc (ρ x) fd.offset λv=>K v [] [] [])
   |none=>False
  |_=>False
 |.field s x f=>teK τ s λte=>match te.und with
  |.struct fs=>match fs[f]? with
   |some fd=>teK τ fd.type λtf=>match ρ x with
    |.agg cs=>match tf.isAgg with
     |true=>ifK (alJ (fd.offset+tf.size) cs.length) (cB (CL.gets (.pv cs) fd.offset tf.size) λcs=>K (.agg cs) [] [] [])
     |false=>ifK (alJ (fd.offset+1) cs.length) (bP (aG cs fd.offset) λv=>K v [] [] [])
    |_=>False
   |none=>False
  |_=>False
 |.indexAddr t x i=>teK τ t λte=>match te.und with
  |.slice e=>teK τ e λte'=>match ρ x with
   |.isl c _=>bP (ρ i) λi=>gH c λcn=>tq i cn λj=>match c with
    |.recs m rs=>ifK (alI m te'.size) (K (.ipe (.recs m rs) j 0) [] [] [])
    |.genr m q f=>ifK (alI m te'.size) (K (.ipe (.genr m q f) j 0) [] [] [])
    |c=>ifK (alI te'.size 1) (K (.ip c j) [] [] [])
   |.rsl k off m=>bP (ρ i) λi=>tq i m λj=>bR H k λo=>match o with
    |.cells (.recs q rs) _=>ifK (alI q te'.size&&alI off 0) (K (.rpe k q j 0) [] [k] [])
    |.cells _ _=>K (.rp k (off+j*te'.size)) [] [k] []
    |.mat _ _ _=>K (.rp k (off+j*te'.size)) [] [k] []
    |.qmat _ _ _=>K (.rp k (off+j*te'.size)) [] [k] []
    |_=>False
   |.row k b m=>bP (ρ i) λi=>tq i m λj=>K (.rowp k b te'.size j 0) [] [] []
   |.rsc k es m=>bP (ρ i) λi=>tq i m λj=>bR H k λo=>match o with
    |.cells (.recs q rs) _=>ifK (alI q te'.size) (K (.rpe k q j 0) [] [k] [])
    |.rowo (.recs q rs)=>ifK (alI q te'.size) (K (.rpe k q j 0) [(k,.cells (.recs q rs) false)] [k] [])
    |_=>False
   |_=>False
  |.array m e=>teK τ e λte'=>bP (ρ i) λi=>tq i m λj=>Hq (ρ x) (j*te'.size) λv=>K v [] [] []
  |_=>False
 |.index t x i=>teK τ t λte=>match te.und with
  |.array m e=>teK τ e λte'=>match ρ x with
   |.agg cs=>bP (ρ i) λi=>tq i m λj=>match te'.isAgg with
    |true=>(j*te'.size+te'.size≤cs.length)/\K (.agg (CL.gets (.pv cs) (j*te'.size) te'.size)) [] [] []
    |false=>(j*te'.size+1≤cs.length)/\K (aG cs (j*te'.size)) [] [] []
   |_=>False
  |.string=>match ρ x with
   |.str s=>bP (ρ i) λi=>tq i s.size λj=>K (.int .u8 ((s.data.getD j 0).toNat:Nat)) [] [] []
   |_=>False
  |_=>False
 |.extract t i=>match ρ t with
  |.tup vs=>ifK (alJ (i+1) vs.length) (bP (aG vs i) λv=>K v [] [] [])
  |_=>False
 |.call c=>match c.callee with
  |.builtin b=>SI τ (match dst with|some d=>iB d rf|none=>false) b c.argTypes.toList (kS ρ c.args.toList) H n K
  |.value f=>match ρ f with
   |.fn (.func g) fs cs=>cB (fs++kS ρ c.args.toList++cs) λargs=>CP g args n H K
   |.fv f us vs=>cB (kS ρ c.args.toList) λargs=>YP f us vs args n H K
   |_=>False
  |.invoke f name=>match ρ f with
   |.ifc t v=>teK τ t λte=>ifK (Hr te.und) (match Bf te.meths name with
    |some g=>cB (v::kS ρ c.args.toList) λargs=>CP g args n H K
    |none=>False)
   |_=>False
 |_=>False
variable {P:Program} {r:Option Nat}
structure bC (P:Program) (τ:TypeId->Option TE):Prop where
 und:∀t te,τ t=some te->P.underlying t=some te.und
 info:∀t te,τ t=some te->∃i,P.info? t=some i/\i.zero=some te.zero/\i.size=te.size/\i.bytes=te.bytes
 zsz:∀t te,τ t=some te->te.zero.cells.size=te.size
 cmp:∀t te ks,τ t=some te->te.cmp=some ks->Gf P t ks
 meth:∀t te,τ t=some te->∃i,P.info? t=some i/\i.methods.toList=te.meths
def bJ (P:Program) (r:Option Nat) (o:Oper) (ρ:Operand->PV) (H0:Hp) (v:PV) (sets:List (Nat × AO)) (accs news:List Nat):Prop:=
 ∀(S:Imm) (w:World) (ι:Ix) (H:Hp) (a:Act) (next:Act->World->Prop) (Q:Exit->Act->World->Prop),
  Mem S w ι H->(∀x∈o.op.operands.toList,Rep S w ι (ρ x) (a.eval x))->(∀k∈accs,av H k=av H0 k)->(∀k∈news,av H k=none)->
  (∀(val:Value) (S':Imm) (w':World) (ι':Ix),Mem S' w' ι' (bE H sets)->ι.le ι'->Keeps S w S' w'->Rep S' w' ι' v val->(∀p,Tr p S w ι H S' w' ι' (bE H sets))->next (a.put o.dst val) w')->
  o.wpIn (Fw r) 0 P a w next Q
theorem cZ {o:Oper} {a:Act} {w w':World} {next:Act->World->Prop} {Q:Exit->Act->World->Prop} {val:Value} (hd:∀c,o.op≠ .defer c)
 (h:(execOp a.eval o).run P w=.ok (.value val) w') (hn:next (a.put o.dst val) w'):o.wpIn (Fw r) 0 P a w next Q:=
 ⟨λ_ _=>trivial,by rw[Oper.semAt_eq _ _ _ hd,h];exact hn⟩
theorem fB {o:Oper} {a:Act} {w w':World} {next:Act->World->Prop} {Q:Exit->Act->World->Prop} (hd:∀c,o.op≠ .defer c)
 (h:(execOp a.eval o).run P w=.ok .skip w') (hn:next (a.put o.dst undef) w'):o.wpIn (Fw r) 0 P a w next Q:=
 ⟨λ_ _=>trivial,by rw[Oper.semAt_eq _ _ _ hd,h];exact hn⟩
theorem aX {o:Oper} {ρ:Operand->PV} {H0:Hp} {v:PV} {accs:List Nat} (hd:∀c,o.op≠ .defer c)
 (h:∀(S:Imm) (w:World) (ι:Ix) (H:Hp) (a:Act),Mem S w ι H->(∀x∈o.op.operands.toList,Rep S w ι (ρ x) (a.eval x))->(∀k∈accs,av H k=av H0 k)->
   ∃val,(execOp a.eval o).run P w=.ok (.value val) w/\Rep S w ι v val):bJ P r o ρ H0 v [] accs []:=by
 intro S w ι H a next Q M hr ha hn hk;obtain⟨val,h1,h2⟩:=h S w ι H a M hr ha;exact cZ hd h1 (hk val S w ι M (.refl _) (.refl _ _) h2 (λp=>.refl _ _ _ _ _))
theorem Dt {S:Imm} {w:World} {ι:Ix} (v:Value):Rep S w ι (ofV v) v:=by
 unfold ofV;split<;>constructor
theorem ng (l:List Value):(mU l).length=l.length:=by
 induction l with
 |nil=>rfl
 |cons x xs ih=>simp[mU,ih]
theorem tH {S:Imm} {w:World} {ι:Ix} (l:List Value):∀i,i<l.length->Rep S w ι (aG (mU l) i) (l.getD i undef):=by
 induction l with
 |nil=>intro i h;simp at h
 |cons x xs ih=>
  intro i h;cases i with
  |zero=>simpa [mU,aG]using Dt x
  |succ i=>simpa [mU,aG]using ih i (by simpa using h)
theorem run_underlying {t:TypeId} {d:TypeDesc} (h:P.underlying t=some d) (w:World):(underlying t).run P w=.ok d w:=by
 simp[underlying,h,Result.andThen]
theorem jm {τ:TypeId->Option TE} (hτ:bC P τ) {t:TypeId} {te:TE} (h:τ t=some te) (w:World):(isAgg t).run P w=.ok te.isAgg w:=by
 unfold isAgg TE.isAgg;rw[Sem.run_bind,run_underlying (hτ.und t te h)];simp only[Result.andThen];cases te.und<;>rfl
theorem bK {τ:TypeId->Option TE} (hτ:bC P τ) {t:TypeId} {te:TE} (h:τ t=some te) (w:World):(sizeOf t).run P w=.ok te.size w:=by
 obtain⟨i,h1,h2,h3,h4⟩:=hτ.info t te h;simp[sizeOf,typeInfo,h1,h3,Result.andThen]
theorem jO {τ:TypeId->Option TE} (hτ:bC P τ) {t:TypeId} {te:TE} (h:τ t=some te) (w:World):
 ∃i,(typeInfo t).run P w=.ok i w/\i.zero=some te.zero/\i.size=te.size/\i.bytes=te.bytes:=by
 obtain⟨i,h1,h2,h3,h4⟩:=hτ.info t te h;exact⟨i,by simp[typeInfo,h1,Result.andThen],h2,h3,h4⟩
theorem iw {τ:TypeId->Option TE} (hτ:bC P τ) {t:TypeId} {te:TE} (h:τ t=some te) (w:World):(zeroValue t).run P w=.ok te.zero w:=by
 obtain⟨i,h1,h2,h3,h4⟩:=hτ.info t te h;simp[zeroValue,typeInfo,h1,h2,Result.andThen]
theorem bZ {τ:TypeId->Option TE} {t:TypeId} {k:TE->Prop}:teK τ t k↔∃te,τ t=some te/\k te:=by
 unfold teK;cases τ t<;>simp
theorem bW {H:Hp} {n:Nat} {k:Prop}:dV H n k↔av H n=none/\k:=by
 unfold dV;cases av H n<;>simp
theorem aK {b:Bool} {k:Prop}:ifK b k↔b=true/\k:=by cases b<;>simp[ifK]
theorem Rep.oneCell {S:Imm} {w:World} {ι:Ix} {p:PV} {v:Value} (h:Rep S w ι p v) (ho:one p=true):v.oneCell'=true:=by
 cases h<;>first|rfl|simp[one]at ho
theorem Rep.cellsOne {S:Imm} {w:World} {ι:Ix} {p:PV} {v:Value} (h:Rep S w ι p v) (ho:one p=true):v.cells= #[v]:=by
 cases h<;>first|rfl|simp[one]at ho
theorem pY {agg:Bool} {size:Nat} {v:PV} {k:List PV->Prop} (h:vQ agg size v k):
 ∃cs,k cs/\∀{S:Imm} {w:World} {ι:Ix} {val:Value},Rep S w ι v val->cs.length=size/\cs.length=val.cells.size/\∀i,i<cs.length->Rep S w ι (aG cs i) (val.cells.getD i undef)/\one (aG cs i)=true:=by
 unfold vQ at h;split at h
 ·split at h
  ·rename_i cs
   rw[aK,alM]at h;refine⟨cs,h.2,λhr=>?_⟩;cases hr with
   |agg _ _ vs hl hh=>exact⟨alN h.1.1,hl,λi hi=>⟨hh i hi,kH cs h.1.2 i hi⟩⟩
  ·exact h.elim
 ·rw[aK,aK]at h
  refine⟨[v],h.2.2,λhr=>?_⟩;rw[hr.cellsOne h.1];refine⟨(alN h.2.1).symm,rfl,λi hi=>?_⟩;simp at hi;subst hi;exact⟨hr,h.1⟩
variable {P:Program} {r:Option Nat} {τ:TypeId->Option TE}
theorem afX (ι:Ix):noI.le ι:=⟨λk b h=>by simp[noI]at h,λk b n h=>by simp[noI]at h⟩
theorem Rep.up {S:Imm} {w:World} {p:PV} {v:Value} (h:Rep S w noI p v) (ι:Ix):Rep S w ι p v:=h.mono (.refl _ _) _ (afX ι)
theorem eH {s:Sem Value} {w w':World} {val:Value} (h:s.run P w=.ok val w'):(do pure (.value (<-s)):Sem Next).run P w=.ok (.value val) w':=by
 simp[h,Result.andThen]
theorem kZ {s:Sem Unit} {w w':World} (h:s.run P w=.ok () w'):(do s;pure .skip:Sem Next).run P w=.ok .skip w':=by
 simp[h,Result.andThen]
theorem Bg {c:CL} {n:Nat} {k:Prop}:AZ c n k↔n≤c.ncell/\k:=by
 cases c<;>simp[AZ,CL.ncell,aK]
theorem p9 (c:CL):∀(n off:Nat),(c.gets off n).length=n:=by
 intro n;induction n with
 |zero=>intro off;rfl
 |succ n ih=>intro off;simp[CL.gets,ih]
theorem zF (c:CL):∀(n off i:Nat),i<n->aG (c.gets off n) i=c.get (off+i):=by
 intro n;induction n with
 |zero=>intro off i h;omega
 |succ n ih=>
  intro off i h;cases i with
  |zero=>rfl
  |succ i=>simp only[CL.gets,aG];rw[ih (off+1) i qqO];congr 1;omega
def qd (S:Imm) (w:World) (ι:Ix) (c:CL) (b o:Nat):Prop:=∀j,j<c.ncell->(rd w b (o+j)).isSome/\Rep S w ι (c.get j) (rdv w b (o+j))
theorem Mem.lies {S:Imm} {w:World} {ι:Ix} {H:Hp} (M:Mem S w ι H) {k:Nat} {c:CL} {fz:Bool} (h:av H k=some (.cells c fz)) {b:Nat} (hb:ι.o k=some b):qd S w ι c b 0:=by
 cases fz with
 |true=>
  obtain⟨b',h1,h2⟩:=M.obj k _ h;rw[hb]at h1;cases h1
  intro j hj;rw[alO];exact⟨M.imm _ _ (h2 j hj).1,(h2 j hj).2.up ι⟩
 |false=>
  obtain⟨b',arr,e,h1,h2,h3,h4,h5⟩:=M.obj k _ h;rw[hb]at h1;cases h1
  intro j hj;rw[alO,rdv,aL h2,alv qqO];refine⟨rfl,?_⟩;have:=h4 j hj;rw[alz,alv qqO]at this;exact this
theorem Mem.rowLies {S:Imm} {w:World} {ι:Ix} {H:Hp} (M:Mem S w ι H) {k:Nat} {all l:List Nat} {rc:RC} (h:av H k=some (.mat all l rc)) {b:Nat} (hb:b∈all):qd S w ι (rc.at b) b 0:=by
 obtain⟨b0,arr,e,_,_,_,_,_,_,h7,_⟩:=M.obj k _ h;obtain⟨ra,re,g1,g2,g3,g4⟩:=h7 b hb;intro j hj;rw[alO,rdv,aL g1,alv qqO];refine⟨rfl,?_⟩;have:=g3 j hj;rw[alz,alv qqO]at this;exact this.up ι
theorem Hu {k b:Nat} {rc:RC} {K:PV->Prop} (h:SK k b rc K):K (.row k b (rc.at b).cnt):=by
 cases rc<;>exact h
theorem qd.of_imm {S:Imm} {w:World} {ι:Ix} {c:CL} {b o:Nat} (himm:∀b j,S b j->(rd w b j).isSome) (hs:∀j,j<c.ncell->S b (o+j))
 (h:∀j,j<c.ncell->Rep S w noI (c.get j) (rdv w b (o+j))):qd S w ι c b o:=λj hj=>⟨himm _ _ (hs j hj),(h j hj).up ι⟩
theorem og (hτ:bC P τ) {t:TypeId} {te:TE} (ht:τ t=some te) {c:CL} {off:Nat} {K:PV->Prop} (h:rdK te c off K):
 ∃v,K v/\∀{S:Imm} {w:World} {ι:Ix} {b o:Nat},qd S w ι c b o->∃val,(loadVar t ⟨b,o+off,none⟩).run P w=.ok val w/\Rep S w ι v val:=by
 unfold rdK at h;split at h
 ·rename_i hagg
  rw[Bg,bN]at h;refine⟨_,h.2,λhl=>?_⟩;rename_i S w ι b o;refine⟨.agg ((alA te.size).map λj=>rdv w b (o+off+j)).toArray,?_,?_⟩
  ·unfold loadVar
   simp only[Sem.run_bind,jm hτ ht,Result.andThen,hagg,if_true,bK hτ ht];rw[run_loadCells P (λj hj=>by have:=(hl (off+j) qqO).1;rwa [<-alk]at this)]
   simp only[Sem.run_pure]
  ·refine .agg _ _ _ (by simp[p9]) (λi hi=>?_)
   rw[p9]at hi;rw[zF _ _ _ _ hi];have:=(hl (off+i) qqO).2;simpa [alz,hi,alk]using this
 ·rename_i hagg
  rw[Bg,bO]at h;refine⟨_,h.2,λhl=>?_⟩;rename_i S w ι b o;have h1:=hl off qqO;obtain⟨x,hx⟩:=alB.1 h1.1;refine⟨x,?_,?_⟩
  ·unfold loadVar
   simp only[Sem.run_bind,jm hτ ht,Result.andThen,hagg];simp[jA,hx]
  ·have:=h1.2;rw[rdv,hx]at this;exact this
theorem zG {m:Nat} {rs:List (List PV)} {i j:Nat} (hj:j<m):(CL.recs m rs).get (i*m+j)=aG ((CL.recs m rs).rcd i) j:=by
 simp only[CL.get,CL.rcd];rw[show(i*m+j) / m=i by rw[alP,alQ qqO,alR hj];omega,show(i*m+j) % m=j by rw[alP,alS,alT hj]]
theorem Xe {m q:Nat} {f:Nat->List PV} {i j:Nat} (hj:j<m):(CL.genr m q f).get (i*m+j)=aG ((CL.genr m q f).rcd i) j:=by
 simp only[CL.get,CL.rcd];rw[show(i*m+j) / m=i by rw[alP,alQ qqO,alR hj];omega,show(i*m+j) % m=j by rw[alP,alS,alT hj]]
theorem Bh {i n m j:Nat} (hi:i<n) (hj:j<m):i*m+j<n*m:=by
 have:(i+1)*m≤n*m:=Nat.mul_le_mul_right m hi;rw[Nat.add_mul]at this;omega
theorem mg (hτ:bC P τ) {t:TypeId} {te:TE} (ht:τ t=some te) {rs:List PV} {m i j n:Nat} {K:PV->Prop} (h:zC te rs m i j n K):
 ∃v,K v/\∀{S:Imm} {w:World} {ι:Ix} {c:CL} {b o:Nat},qd S w ι c b o->c.ncell=n*m->(∀q,q<m->c.get (i*m+q)=aG rs q)->
  ∃val,(loadVar t ⟨b,o+(i*m+j),none⟩).run P w=.ok val w/\Rep S w ι v val:=by
 unfold zC at h;split at h
 ·rename_i hagg
  have key:∀(cs:List PV),cs.length=te.size->j+te.size≤m->i<n->(∀q,q<te.size->aG cs q=aG rs (j+q))->
   ∀{S:Imm} {w:World} {ι:Ix} {c:CL} {b o:Nat},qd S w ι c b o->c.ncell=n*m->(∀q,q<m->c.get (i*m+q)=aG rs q)->
   ∃val,(loadVar t ⟨b,o+(i*m+j),none⟩).run P w=.ok val w/\Rep S w ι (.agg cs) val:=by
   intro cs hcs hle hin hget S w ι c b o hl hn hg;have hidx:∀q,q<te.size->i*m+(j+q)<c.ncell:=λq hq=>by rw[hn];exact Bh hin qqO
   refine⟨.agg ((alA te.size).map λq=>rdv w b (o+(i*m+j)+q)).toArray,?_,?_⟩
   ·unfold loadVar
    simp only[Sem.run_bind,jm hτ ht,Result.andThen,hagg,if_true,bK hτ ht];rw[run_loadCells P (λq hq=>by have:=(hl _ (hidx q hq)).1;rwa [show o+(i*m+(j+q))=o+(i*m+j)+q by omega]at this)]
    simp only[Sem.run_pure]
   ·refine .agg _ _ _ (by simp[hcs]) (λq hq=>?_)
    rw[hcs]at hq;have h2:=(hl _ (hidx q hq)).2;rw[hg (j+q) qqO,<-hget q hq,show o+(i*m+(j+q))=o+(i*m+j)+q by omega]at h2
    simpa [alz,hq]using h2
  split at h
  ·rename_i hjm
   simp only[alM]at hjm;have e1:=alN hjm.1;have e2:=alN hjm.2;exact⟨_,h.2,key _ (by rw[h.1.2,e2]) qqO h.1.1 (λq hq=>by rw[e1,alO])⟩
  ·rw[aK,bN]at h
   have hb:=alU h.2.1;exact⟨_,h.2.2,key _ (p9 _ _ _) hb h.1 (λq hq=>by rw[zF _ _ _ _ hq];rfl)⟩
 ·rename_i hagg
  rw[aK,bO]at h;have hb:=alU h.2.1;refine⟨_,h.2.2,λhl hn hg=>?_⟩;rename_i S w ι c b o;have h1:=hl (i*m+j) (by rw[hn];exact Bh h.1 qqO)
  obtain⟨x,hx⟩:=alB.1 h1.1;refine⟨x,?_,?_⟩
  ·unfold loadVar
   simp only[Sem.run_bind,jm hτ ht,Result.andThen,hagg];simp[jA,hx]
  ·have:=h1.2;rw[hg j qqO,rdv,hx]at this;exact this
theorem jC:∀{ps:List PV},iL.inlF ps=true->∀i,i<ps.length->∀{S:Imm} {w:World} {ι:Ix} {v:Value},Rep S w ι (aG ps i) v->Rep S w noI (aG ps i) v:=by
 intro ps;induction ps with
 |nil=>intro h i hi;simp at hi
 |cons x xs ih=>
  intro h i hi S w ι v hr;have hx:iL.inlF xs=true:=by
   unfold iL.inlF at h;split at h<;>first|exact h|cases h
  cases i with
  |succ i=>exact ih hx i (by simpa using hi) hr
  |zero=>
   simp only[aG]at hr⊢;unfold iL.inlF at h;split at h
   all_goals first
    |(cases h;done)
    |(cases hr;constructor;done)
    |(cases hr with
      |islnil _ _ _ hc=>exact .islnil _ _ _ hc
      |isl _ _ _ b off cap hc hs hh hf ho=>exact .isl _ _ _ _ _ _ hc hs hh hf (λk e=>by cases e))
    |(cases hr with
      |nnl0 _ _ h=>exact .nnl0 _ _ h
      |nnl1 _ _ b off cap h0 hc hs hh=>exact .nnl1 _ _ _ _ _ h0 hc hs hh)
    |(cases hr with|ip _ _ _ b o' hs hh=>exact .ip _ _ _ _ _ hs hh)
    |(cases hr with|ipe _ _ _ _ b o' hs hh=>exact .ipe _ _ _ _ _ _ hs hh)
theorem Hw:∀(rs:List (List PV)),fJ rs->∀i,iL.inlF (rs.getD i [])=true:=by
 intro rs;induction rs with
 |nil=>intro _ i;rfl
 |cons x r ih=>
  intro h i;cases i with
  |zero=>exact h.1
  |succ i=>simpa using ih h.2 i
theorem OX {l:List PV} {i:Nat} (h:l.length≤i):aG l i=.any:=by
 induction l generalizing i with
 |nil=>rfl
 |cons x xs ih=>cases i with
  |zero=>simp at h
  |succ i=>exact ih (by simpa using h)
theorem Mj {m:Nat} {rs:List (List PV)} (h:fJ rs) (j:Nat) {S:Imm} {w:World} {ι:Ix} {v:Value} (hr:Rep S w ι ((CL.recs m rs).get j) v):Rep S w noI ((CL.recs m rs).get j) v:=by
 simp only[CL.get]at hr⊢;by_cases hl:j % m<(rs.getD (j / m) []).length
 ·exact jC (Hw rs h _) _ hl hr
 ·rw[OX qqO];exact .any _ _
theorem KO {c:CL} {K:CL->Prop} (h:simpK c K):K c/\∀j {S:Imm} {w:World} {ι:Ix} {v:Value},Rep S w ι (c.get j) v->Rep S w noI (c.get j) v:=by
 unfold simpK at h;split at h
 ·exact⟨h,λj S w ι v hr=>by cases hr;exact .int _ _ _⟩
 ·exact⟨h,λj S w ι v hr=>by cases hr;exact .bp _ _⟩
 ·exact⟨h,λj S w ι v hr=>by cases hr;exact .str _ _⟩
 ·exact h.elim
theorem vS {H:Hp} {x:PV} {K:Nat->CL->Prop} (h:A9 H x K):∃a c od,K a c/\av H a=some od/\od.excl=true/\od.isTok=false/\
 ∀{S:Imm} {w:World} {ι:Ix} {H':Hp} {vx:Value},Mem S w ι H'->av H' a=some od->Rep S w ι x vx->
  ∃b cap,vx=.slice (some ⟨b,0,none⟩) c.cnt cap/\ι.o a=some b/\od.has ι a b/\pX S w c b/\0<c.esz/\c.cnt≤cap/\∀j,j<cap*c.esz->(rd w b j).isSome:=by
 unfold A9 at h;split at h
 ·rename_i a es r
  rw[bD]at h;obtain⟨o,ho,h⟩:=h;split at h
  ·rename_i c
   simp only[dM,fI,aK]at h;obtain⟨h1,h2,h3⟩:=h;have h2:=alN h2;refine⟨_,_,_,h3,ho,rfl,rfl,λM hg hr=>?_⟩;cases hr with
   |rsc _ _ _ _ b cap hk hc he hrd=>
    obtain⟨b',g1,g2⟩:=M.obj a _ hg;rw[hk]at g1;cases g1
    exact⟨b,cap,by rw[h1],hk,hk,g2,qqO,qqO,by rw[h2];exact hrd⟩
  ·rename_i c fz
   split at h
   ·exact h.elim
   ·split at h
    ·rename_i m rs
     simp only[aK]at h;obtain⟨h0,h1,h2,h3⟩:=h;have h2:=alN h2;refine⟨_,_,_,h3,ho,rfl,rfl,λM hg hr=>?_⟩;cases hr with
     |rsc _ _ _ _ b cap hk hc he hrd=>
      obtain⟨b',arr,e,g1,g2,g3,g4,g5⟩:=M.obj a _ hg;rw[hk]at g1;cases g1
      exact⟨b,cap,by show _=Value.slice _ rs.length _;rw[h1],hk,hk,⟨arr,e,g2,g3,λj hj=>Mj h0 j (g4 j hj),g5⟩,by show 0<m;omega,by show rs.length≤_;omega,by show∀j,j<cap*m->_;rw[h2];exact hrd⟩
    ·exact h.elim
  ·exact h.elim
 ·rename_i a off r
  rw[bD]at h;obtain⟨o,ho,h⟩:=h;split at h
  ·rename_i c fz
   split at h
   ·exact h.elim
   ·obtain⟨h,d3⟩:=KO h
    simp only[dM,fI,aK,alM]at h;obtain⟨⟨h1,h0⟩,⟨h2,h3⟩,h4⟩:=h;have h2:=alN h2;have h3:=alN h3;refine⟨_,_,_,h4,ho,rfl,rfl,λM hg hr=>?_⟩;subst h2;cases hr with
    |rslz=>omega
    |rsl _ _ _ _ b cap hk hc hrd=>
     obtain⟨b',arr,e,g1,g2,g3,g4,g5⟩:=M.obj a _ hg;rw[hk]at g1;cases g1
     exact⟨b,cap,by rw[h1],hk,hk,⟨arr,e,g2,g3,λj hj=>d3 j (g4 j hj),g5⟩,qqO,qqO,by rw[h3,alV];exact hrd rfl⟩
  ·exact h.elim
 ·exact h.elim
theorem OY (hτ:bC P τ) {md rf CP YP} {o:Oper} {ρ:Operand->PV} {H:Hp} {n:Nat} {t:TypeId} {x:Operand} (ho:o.op=.load t x) {K:KR}
 (h:opK τ md rf CP YP ρ H n o.dst o.op K):∃v sets accs news,K v sets accs news/\bJ P r o ρ H v sets accs news:=by
 rw[ho]at h;simp only[opK,bZ]at h;obtain⟨te,ht,h⟩:=h;have hd:∀c,o.op≠ .defer c:=λc e=>by rw[ho]at e;cases e
 have hx:∀{S:Imm} {w:World} {ι:Ix} {a:Act},(∀x∈o.op.operands.toList,Rep S w ι (ρ x) (a.eval x))->Rep S w ι (ρ x) (a.eval x):=λhr=>hr x (by simp[ho,Op.operands])
 have run:∀{a:Act} {w:World} {val:Value} {ad:Addr},a.eval x=.pointer (some ad)->(loadVar t ad).run P w=.ok val w->(execOp a.eval o).run P w=.ok (.value val) w:=by
  intro a w val ad e1 e2;simp only[execOp,ho];exact eH (by simp[Instr.loadAt,e1,Instr.sureAddr,e2])
 split at h
 ·rename_i k off hρ
  rw[bD]at h;obtain⟨ob,hob,h⟩:=h;split at h
  ·rename_i c fz
   obtain⟨v,hK,hs⟩:=og hτ ht h;refine⟨v,[],[k],[],hK,aX hd λS w ι H' a M hr ha=>?_⟩;have hr1:=hx hr;rw[hρ]at hr1;have hob':=(ha k qqS).trans hob;cases hev:a.eval x<;>rw[hev]at hr1<;>cases hr1
   rename_i b hk;obtain⟨val,h1,h2⟩:=hs (M.lies hob' hk);rw[alO]at h1;exact⟨val,run hev h1,h2⟩
  ·rename_i all l rc
   rw[aK]at h;obtain⟨hlt,hagg,h⟩:=h;have hK:=Hu h;refine⟨_,[],[k],[],hK,aX hd λS w ι H' a M hr ha=>?_⟩;have hr1:=hx hr;rw[hρ]at hr1;have hob':=(ha k qqS).trans hob;cases hev:a.eval x<;>rw[hev]at hr1<;>cases hr1
   rename_i b hk;obtain⟨b0,arr,e,g1,g2,g3,_,_,_,_,g8⟩:=M.obj k _ hob';rw[hk]at g1;cases g1
   obtain⟨_,cap,g9,g10⟩:=g8 off hlt;refine⟨_,run hev (val:=.slice (some ⟨l.getD off 0,0,none⟩) (rc.at (l.getD off 0)).cnt cap) ?_,.row _ _ _ _ _ g9⟩;have hc:rd w b off=some (.slice (some ⟨l.getD off 0,0,none⟩) (rc.at (l.getD off 0)).cnt cap):=by
    rw[aL g2,alv qqO,<-g10,alz,alv qqO];rfl
   unfold loadVar;simp only[Sem.run_bind,jm hτ ht,Result.andThen];have hagg':te.isAgg=false:=by simpa using hagg
   simp[jA,hc,hagg']
  ·rename_i q f c
   rw[aK]at h;obtain⟨hagg,⟨hlt,hf⟩,h⟩:=h;have hagg':te.isAgg=false:=by simpa using hagg
   have rdc:∀{S:Imm} {w:World} {ι:Ix} {H':Hp} {b:Nat} {v:Value},Mem S w ι H'->rd w b off=some v->(loadVar t ⟨b,off,none⟩).run P w=.ok v w:=by
    intro S w ι H' b v M hc;unfold loadVar;simp only[Sem.run_bind,jm hτ ht,Result.andThen];simp[jA,hc,hagg']
   have nilc:∀{S:Imm} {w:World} {ι:Ix} {H':Hp} {b:Nat},Mem S w ι H'->av H' k=some (.qmat q f c)->ι.o k=some b->f off=1->rd w b off=some (.slice none 0 0):=by
    intro S w ι H' b M hob' hk hf1;obtain⟨b0,arr,e,l,g1,g2,g3,_,_,_,g7,_⟩:=M.obj k _ hob';rw[hk]at g1;cases g1
    rw[aL g2,alv qqO,<-g7 off hlt hf1,alz,alv qqO];rfl
   split at h
   ·rcases hf with hf|hf
    ·refine⟨_,[],[k],[],h.1 hf,aX hd λS w ι H' a M hr ha=>?_⟩
     have hr1:=hx hr;rw[hρ]at hr1;have hob':=(ha k qqS).trans hob;cases hev:a.eval x<;>rw[hev]at hr1<;>cases hr1
     rename_i b hk;exact⟨_,run hev (rdc M (nilc M hob' hk hf)),.nils _⟩
    ·have h2:=h.2 hf
     simp only[dM,fI,bW]at h2;refine⟨_,_,_,_,h2.2,?_⟩;intro S w ι H' a next Q M hr ha hn hk';have hr1:=hx hr;rw[hρ]at hr1;have hob':=(ha k qqS).trans hob;have hno:=hn n qqS;cases hev:a.eval x<;>rw[hev]at hr1<;>cases hr1
     rename_i b hk;obtain⟨b1,cap,ι',e1,e2,M',le,T⟩:=M.takeRow hob' hno hk hlt hf;exact cZ hd (run hev (rdc M e1)) (hk' _ S w ι' M' le (.refl _ _) e2 T)
   ·rcases hf with hf|hf
    ·refine⟨_,[],[k],[],h.1 hf,aX hd λS w ι H' a M hr ha=>?_⟩
     have hr1:=hx hr;rw[hρ]at hr1;have hob':=(ha k qqS).trans hob;cases hev:a.eval x<;>rw[hev]at hr1<;>cases hr1
     rename_i b hk;exact⟨_,run hev (rdc M (nilc M hob' hk hf)),.sln _ _ _ _⟩
    ·have h2:=h.2 hf
     simp only[dM]at h2;refine⟨_,[],[k],[],h2,aX hd λS w ι H' a M hr ha=>?_⟩;have hr1:=hx hr;rw[hρ]at hr1;have hob':=(ha k qqS).trans hob;cases hev:a.eval x<;>rw[hev]at hr1<;>cases hr1
     rename_i b hk;obtain⟨b0,arr,e,l,g1,g2,g3,_,_,g6,_,_⟩:=M.obj k _ hob';rw[hk]at g1;cases g1
     obtain⟨_,_,_,cap,_,_,g9⟩:=g6 off hlt hf;exact⟨_,run hev (rdc M (by rw[aL g2,alv qqO,<-g9,alz,alv qqO];rfl)),.sln _ _ _ _⟩
  ·exact h.elim
 ·rename_i k b m i j hρ
  rw[bD]at h;obtain⟨ob,hob,h⟩:=h;split at h
  ·rename_i all l rc
   obtain⟨hmem,h⟩:=h;unfold Z5 at h;split at h
   ·rename_i q c
    rw[aK,alM]at h;obtain⟨⟨e1,e2⟩,h⟩:=h;have e1:=alN e1;have e2:=alN e2;subst e1;subst e2;obtain⟨v,hK,hs⟩:=og hτ ht h;refine⟨v,[],[k],[],hK,aX hd λS w ι H' a M hr ha=>?_⟩;have hr1:=hx hr;rw[hρ]at hr1;have hob':=(ha k qqS).trans hob;cases hev:a.eval x<;>rw[hev]at hr1<;>cases hr1
    obtain⟨val,h1,h2⟩:=hs (M.rowLies hob' hmem);rw[alO]at h1;exact⟨val,run hev (by rw[alV,alg];exact h1),h2⟩
   ·rename_i e c
    rw[aK]at h;have e1:=alN h.1;subst e1;obtain⟨v,hK,hs⟩:=mg hτ ht h.2;refine⟨v,[],[k],[],hK,aX hd λS w ι H' a M hr ha=>?_⟩;have hr1:=hx hr;rw[hρ]at hr1;have hob':=(ha k qqS).trans hob;cases hev:a.eval x<;>rw[hev]at hr1<;>cases hr1
    obtain⟨val,h1,h2⟩:=hs (c:=.recs m (c b)) (M.rowLies hob' hmem) rfl (λq hq=>zG hq);rw[alO]at h1;exact⟨val,run hev h1,h2⟩
   ·rename_i e q f
    rw[aK]at h;have e1:=alN h.1;subst e1;obtain⟨v,hK,hs⟩:=mg hτ ht h.2;refine⟨v,[],[k],[],hK,aX hd λS w ι H' a M hr ha=>?_⟩;have hr1:=hx hr;rw[hρ]at hr1;have hob':=(ha k qqS).trans hob;cases hev:a.eval x<;>rw[hev]at hr1<;>cases hr1
    obtain⟨val,h1,h2⟩:=hs (c:=.genr m q (f b)) (M.rowLies hob' hmem) rfl (λq hq=>by
     have hm:0<m:=qqO;simp only[CL.get];rw[alP,alQ hm,alR hq,alg,alS,alT hq])
    rw[alO]at h1;exact⟨val,run hev h1,h2⟩
  ·exact h.elim
 ·rename_i c off hρ
  obtain⟨v,hK,hs⟩:=og hτ ht h;refine⟨v,[],[],[],hK,aX hd λS w ι H' a M hr ha=>?_⟩;have hr1:=hx hr;rw[hρ]at hr1;cases hev:a.eval x<;>rw[hev]at hr1<;>cases hr1
  rename_i b o' hs1 hh;obtain⟨val,h1,h2⟩:=hs (qd.of_imm M.imm hs1 hh);exact⟨val,run hev h1,h2⟩
 ·rename_i k m i j hρ
  rw[bD]at h;obtain⟨ob,hob,h⟩:=h;split at h
  ·rename_i m' rs fz
   rw[aK]at h;have e:=alN h.1;subst e;obtain⟨v,hK,hs⟩:=mg hτ ht h.2;refine⟨v,[],[k],[],hK,aX hd λS w ι H' a M hr ha=>?_⟩;have hr1:=hx hr;rw[hρ]at hr1;have hob':=(ha k qqS).trans hob;cases hev:a.eval x<;>rw[hev]at hr1<;>cases hr1
   rename_i b hk;obtain⟨val,h1,h2⟩:=hs (M.lies hob' hk) rfl (λq hq=>zG hq);rw[alO]at h1;exact⟨val,run hev h1,h2⟩
  ·exact h.elim
 ·rename_i c i j hρ
  split at h
  ·rename_i m rs
   obtain⟨v,hK,hs⟩:=mg hτ ht h;refine⟨v,[],[],[],hK,aX hd λS w ι H' a M hr ha=>?_⟩;have hr1:=hx hr;rw[hρ]at hr1;cases hev:a.eval x<;>rw[hev]at hr1<;>cases hr1
   rename_i b o' hs1 hh;obtain⟨val,h1,h2⟩:=hs (qd.of_imm M.imm hs1 hh) rfl (λq hq=>zG hq);exact⟨val,run hev h1,h2⟩
  ·rename_i m q f
   obtain⟨v,hK,hs⟩:=mg hτ ht h;refine⟨v,[],[],[],hK,aX hd λS w ι H' a M hr ha=>?_⟩;have hr1:=hx hr;rw[hρ]at hr1;cases hev:a.eval x<;>rw[hev]at hr1<;>cases hr1
   rename_i b o' hs1 hh;obtain⟨val,h1,h2⟩:=hs (qd.of_imm M.imm hs1 hh) rfl (λq hq=>Xe hq);exact⟨val,run hev h1,h2⟩
  ·exact h.elim
 ·exact h.elim
end Go.Eng
