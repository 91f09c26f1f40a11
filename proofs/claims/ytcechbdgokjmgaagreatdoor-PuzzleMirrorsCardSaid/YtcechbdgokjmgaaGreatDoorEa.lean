/- An engine that walks through a function of the program with symbolic values, and the proofs that it is sound. No condition. -/
import Derived.RangeFuncLeaves
import Derived.RangeFuncCalls
import Derived.Below
import Derived.Lib.FrozenHead
import Derived.Laws.BytesArg
import Derived.ChangeKeysEq
open Array renaming getElem?_eq_some_iff→ahI,getElem?_extract→ahM,getElem?_eq_none→ahQ,getElem?_push→ahS,getElem?_eq_getElem→ahT,getElem?_modify→ahU,getD_eq_getD_getElem?→ahW,length_toList→ais,getElem?_setIfInBounds_ne→aiv
open BitVec renaming ofInt→ah8
open Bool renaming and_eq_true→aia,not_false→aiz,not_true→aiA
open List renaming length_nil→ahG,cons_append→ahJ,length_cons→ahK,range→ahX,getD_eq_getElem?_getD→ahZ,mem_append→ah0,mem_append_left→ah1,mem_append_right→ah2,getElem_of_mem→ah3,getElem?_eq_getElem→ah4,replicate→ah9,getElem?_set→air,length_set→ait,getElem?_set_ne→aiu
open Nat renaming add_zero→ahH,add_assoc→ahL,succ_mul→ahN,le_refl→ahO,lt_or_ge→ahP,lt_of_lt_of_le→ahR,beq→ah6,ble→ah7,eq_of_beq_eq_true→aib,zero_add→aic,mul_comm→aie,mul_add_div→aif,div_eq_of_lt→aii,mul_add_mod→aij,mod_eq_of_lt→aik,mul_le_mul_right→ail,add_mul→ain,le_of_ble_eq_true→aio,mul_one→aip,sub_self→aiq,one_mul→aiw,div_lt_iff_lt_mul→aix,min_eq_left→aiy
open Option renaming map_some→ahV,isSome_iff_exists→ahY,getD_some→ah5
namespace Go.Eng
inductive Tok where
 |none
 |full
 |own (k:Nat)
mutual
inductive PV where
 |any
 |int (k:IntKind) (n:Int)
 |bool (b:Bool)
 |bp (b:Bool)
 |str (s:ByteArray)
 |agg (cs:List PV)
 |tup (vs:List PV)
 |fn (f:Fn) (first caps:List PV)
 |fv (f:Fn) (us vs:Array Value)
 |nilf
 |nils
 |nilp
 |nilm
 |nili
 |isl (c:CL) (t:Tok)
 |rsl (k off n:Nat)
 |ip (c:CL) (off:Nat)
 |ipe (c:CL) (i j:Nat)
 |rp (k off:Nat)
 |rpe (k m i j:Nat)
 |rm (k:Nat)
 |yld (k:Nat)
 |row (k b n:Nat)
 |rowp (k b m i j:Nat)
 |ifc (t:Nat) (v:PV)
inductive CL where
 |pv (cs:List PV)
 |ints (k:IntKind) (xs:List Int)
 |bools (xs:List Bool)
 |strs (xs:List ByteArray)
 |rows (k:IntKind) (xss:List (List Int))
 |recs (m:Nat) (rs:List (List PV))
 |gen (n:Nat) (f:Nat→PV)
 |genr (m n:Nat) (f:Nat→List PV)
end
instance:Inhabited PV:=⟨.any⟩
def aD:List PV→Nat→PV
 | [],_=>.any
 |x::_,0=>x
 |_::xs,n+1=>aD xs n
def CL.cnt:CL→Nat
 |.pv cs=>cs.length
 |.ints _ xs=>xs.length
 |.bools xs=>xs.length
 |.strs xs=>xs.length
 |.rows _ xss=>xss.length
 |.recs _ rs=>rs.length
 |.gen n _=>n
 |.genr _ n _=>n
def CL.esz:CL→Nat
 |.recs m _=>m
 |.genr m _ _=>m
 |_=>1
def CL.ncell:CL→Nat
 |.pv cs=>cs.length
 |.ints _ xs=>xs.length
 |.bools xs=>xs.length
 |.strs xs=>xs.length
 |.rows _ xss=>xss.length
 |.recs m rs=>rs.length*m
 |.gen n _=>n
 |.genr m n _=>n*m
def CL.get:CL→Nat→PV
 |.pv cs,i=>aD cs i
 |.ints k xs,i=>.int k (xs.getD i 0)
 |.bools xs,i=>.bp (xs.getD i false)
 |.strs xs,i=>.str (xs.getD i .empty)
 |.rows k xss,i=>.isl (.ints k (xss.getD i [])) .none
 |.recs m rs,i=>aD (rs.getD (i / m) []) (i % m)
 |.gen _ f,i=>f i
 |.genr m _ f,i=>aD (f (i / m)) (i % m)
def CL.rcd:CL→Nat→List PV
 |.recs _ rs,i=>rs.getD i []
 |.genr _ _ f,i=>f i
 |_,_=>[]
inductive RC where
 |ints (k:IntKind) (c:Nat→List Int)
 |recs (m:Nat) (c:Nat→List (List PV))
def RC.at:RC→Nat→CL
 |.ints k c,b=>.ints k (c b)
 |.recs m c,b=>.recs m (c b)
def RC.kin:RC→RC→Prop
 |.ints k _,b=>match b with|.ints k' _=>k=k'|_=>False
 |.recs m _,b=>match b with|.recs m' _=>m=m'|_=>False
def RC.join (a:RC) (all:List Nat) (b:RC):RC:=
 match a with
 |.ints k c=>match b with|.ints _ c'=>.ints k (fun x=>if x∈all then c x else c' x)|_=>a
 |.recs m c=>match b with|.recs _ c'=>.recs m (fun x=>if x∈all then c x else c' x)|_=>a
theorem RC.join_at {a b:RC} (h:a.kin b) (all:List Nat) (x:Nat):(a.join all b).at x=if x∈all then a.at x else b.at x:=by
 cases a<;>cases b<;>first|exact h.elim|(cases h;simp only[RC.join,RC.at];split<;>rfl)
theorem RC.join_kin {a b:RC} (h:a.kin b) (all:List Nat):(a.join all b).kin a:=by
 cases a<;>cases b<;>first|exact h.elim|rfl
theorem RC.kin_refl (a:RC):a.kin a:=by cases a<;>rfl
theorem RC.kin_trans {a b c:RC} (h:a.kin b) (g:b.kin c):a.kin c:=by
 cases a<;>cases b<;>cases c<;>first|exact h.elim|exact g.elim|exact Eq.trans h g
theorem RC.kin_symm {a b:RC} (h:a.kin b):b.kin a:=by
 cases a<;>cases b<;>first|exact h.elim|exact Eq.symm h
def oN {α:Type} (c:Nat→α) (b:Nat) (x:α):Nat→α:=fun b'=>if b'=b then x else c b'
inductive AO where
 |cells (c:CL) (fz:Bool)
 |tok (esz n:Nat)
 |map (es:List (PV × PV))
 |dfr
 |loop (st:LoopState) (pend:Option Code) (ps:List Tmp) (asg body:Code) (env:List PV) (d:Nat)
 |ext (G:List PV→(Nat→Prop)→(Nat→Nat→Prop)→World→Prop) (pre:List PV)
 |mat (all l:List Nat) (rc:RC)
 |pmat (n:Nat) (rc:RC)
 |bld (t e:Nat) (s:ByteArray)
abbrev Env:=List PV
abbrev Hp:=List (Option AO)
inductive CK where
 |int (k:IntKind)
 |bool
 |str
structure TE where
 und:TypeDesc
 zero:Value
 size:Nat
 bytes:Nat
 cmp:Option (List CK)
 meths:List Method
def TE.isAgg (t:TE):Bool:=match t.und with|.struct _=>true|.array _ _=>true|_=>false
def ay:Hp→Nat→Option AO
 | [],_=>none
 |o::_,0=>o
 |_::hs,n+1=>ay hs n
def aQ:Hp→Nat→AO→Hp
 | [],0,a=>[some a]
 | [],n+1,a=>none::aQ [] n a
 |_::hs,0,a=>some a::hs
 |h::hs,n+1,a=>h::aQ hs n a
def aZ (H:Hp):List (Nat × AO)→Hp
 | []=>H
 |(k,a)::r=>aZ (aQ H k a) r
def bM (p:PV) (k:PV→Prop):Prop:=
 match p with
 |.any=>k .any
 |.int a b=>k (.int a b)
 |.bool b=>k (.bool b)
 |.bp b=>k (.bp b)
 |.str s=>k (.str s)
 |.agg cs=>k (.agg cs)
 |.tup cs=>k (.tup cs)
 |.fn a b c=>k (.fn a b c)
 |.fv a b c=>k (.fv a b c)
 |.nilf=>k .nilf
 |.nils=>k .nils
 |.nilp=>k .nilp
 |.nilm=>k .nilm
 |.nili=>k .nili
 |.isl a b=>k (.isl a b)
 |.rsl a b c=>k (.rsl a b c)
 |.ip a b=>k (.ip a b)
 |.ipe a b c=>k (.ipe a b c)
 |.rp a b=>k (.rp a b)
 |.rpe a b c d=>k (.rpe a b c d)
 |.rm a=>k (.rm a)
 |.yld a=>k (.yld a)
 |.row a b c=>k (.row a b c)
 |.rowp a b c d e=>k (.rowp a b c d e)
 |.ifc a b=>k (.ifc a b)
theorem bH (p:PV) (k:PV→Prop):bM p k=k p:=by cases p<;>rfl
def bN (l:List PV) (k:List PV→Prop):Prop:=
 match l with
 | []=>k []
 |x::xs=>bM x fun y=>bN xs fun ys=>k (y::ys)
theorem bg (l:List PV):∀k,bN l k=k l:=by
 induction l with
 |nil=>intro k;rfl
 |cons x xs ih=>intro k;simp only[bN,bH,ih]
def rU:List PV→Nat→PV→(List PV→Prop)→Prop
 | [],_,_,k=>k []
 |_::xs,0,v,k=>k (v::xs)
 |x::xs,n+1,v,k=>rU xs n v (fun ys=>k (x::ys))
theorem mZ (l:List PV):∀n v k,rU l n v k=k (l.set n v):=by
 induction l with
 |nil=>intro n v k;rfl
 |cons x xs ih=>
  intro n v k;cases n with
  |zero=>rfl
  |succ n=>simp only[rU,ih,List.set_cons_succ]
def bU:Hp→Nat→(AO→Prop)→Prop
 | [],_,_=>False
 |o::_,0,k=>match o with|some a=>k a|none=>False
 |_::hs,n+1,k=>bU hs n k
theorem aX (H:Hp):∀n k,bU H n k↔∃a,ay H n=some a∧k a:=by
 induction H with
 |nil=>intro n k;simp[bU,ay]
 |cons o hs ih=>
  intro n k;cases n with
  |zero=>cases o<;>simp[bU,ay]
  |succ n=>simp only[bU,ay,ih]
def oZ:Hp→Nat→AO→(Hp→Prop)→Prop
 | [],0,a,k=>k [some a]
 | [],n+1,a,k=>oZ [] n a (fun h=>k (none::h))
 |_::hs,0,a,k=>k (some a::hs)
 |h::hs,n+1,a,k=>oZ hs n a (fun r=>k (h::r))
theorem QD (n:Nat):∀a k,oZ [] n a k=k (aQ [] n a):=by
 induction n with
 |zero=>intro a k;rfl
 |succ n ih=>intro a k;simp only[oZ,aQ,ih]
theorem yV (H:Hp):∀n a k,oZ H n a k=k (aQ H n a):=by
 induction H with
 |nil=>exact QD
 |cons o hs ih=>
  intro n a k;cases n with
  |zero=>rfl
  |succ n=>simp only[oZ,aQ,ih]
def fD:List (Nat × AO)→Hp→(Hp→Prop)→Prop
 | [],H,k=>k H
 |(i,a)::r,H,k=>oZ H i a fun H'=>fD r H' k
theorem fI (l:List (Nat × AO)):∀H k,fD l H k=k (aZ H l):=by
 induction l with
 |nil=>intro H k;rfl
 |cons x xs ih=>intro H k;obtain⟨i,a⟩:=x;simp only[fD,yV,ih,aZ]
theorem FY (n m:Nat) (a:AO):ay (aQ [] n a) m=if m=n then some a else none:=by
 induction n generalizing m with
 |zero=>cases m<;>simp[aQ,ay]
 |succ n ih=>cases m with
  |zero=>simp[aQ,ay]
  |succ m=>simp[aQ,ay,ih]
theorem bq (H:Hp):∀(n m:Nat) (a:AO),ay (aQ H n a) m=if m=n then some a else ay H m:=by
 induction H with
 |nil=>intro n m a;rw[FY];rfl
 |cons o hs ih=>
  intro n m a;cases n with
  |zero=>cases m<;>simp[aQ,ay]
  |succ n=>cases m with
   |zero=>simp[aQ,ay]
   |succ m=>simp[aQ,ay,ih]
theorem EM (n m:Nat) (a b:AO) (h:n≠m):aQ (aQ [] n a) m b=aQ (aQ [] m b) n a:=by
 induction n generalizing m with
 |zero=>cases m with
  |zero=>exact absurd rfl h
  |succ m=>simp[aQ]
 |succ n ih=>cases m with
  |zero=>simp[aQ]
  |succ m=>simp[aQ,ih m (by omega)]
theorem QE (H:Hp):∀(n m:Nat) (a b:AO),n≠m→aQ (aQ H n a) m b=aQ (aQ H m b) n a:=by
 induction H with
 |nil=>exact fun n m a b h=>EM n m a b h
 |cons o hs ih=>
  intro n m a b h;cases n with
  |zero=>cases m with
   |zero=>exact absurd rfl h
   |succ m=>simp[aQ]
  |succ n=>cases m with
   |zero=>simp[aQ]
   |succ m=>simp[aQ,ih n m a b (by omega)]
def ofV:Value→PV
 |.int k n=>.int k n
 |.bool b=>.bool b
 |.string s=>.str s
 |.slice none 0 0=>.nils
 |.pointer none=>.nilp
 |.map none=>.nilm
 |.nilFunc=>.nilf
 |.nilIface=>.nili
 |_=>.any
def qo:List Value→List PV
 | []=>[]
 |v::vs=>ofV v::qo vs
theorem ng (l:List PV):∀(n m:Nat) (v:PV),aD (l.set n v) m=if m=n∧n<l.length then v else aD l m:=by
 induction l with
 |nil=>intro n m v;simp[aD]
 |cons x xs ih=>
  intro n m v;cases n with
  |zero=>cases m<;>simp[aD]
  |succ n=>cases m with
   |zero=>simp[aD]
   |succ m=>simp[aD,ih]
def oh:List Int:=[1,10,100,1000,10000,100000,1000000,10000000,100000000,1000000000,10000000000,100000000000,1000000000000,10000000000000,100000000000000,1000000000000000,10000000000000000,100000000000000000,1000000000000000000,10000000000000000000]
def sD:List Int:=[0,1,28,2,29,14,24,3,30,22,20,15,25,17,4,8,31,27,13,23,21,19,16,7,26,12,18,6,11,5,10,9]
def FZ:List Int:=[0,1,56,2,57,49,28,3,61,58,42,50,38,29,17,4,62,47,59,36,45,43,51,22,53,39,33,30,24,18,12,5,63,55,48,27,60,41,37,16,46,35,44,21,52,32,23,11,54,26,40,15,34,20,31,10,25,14,19,9,13,8,7,6]
def xK:Nat→Option CL
 |0=>some (.ints .u8 sD)
 |2=>some (.ints .u64 oh)
 |7=>some (.ints .u8 FZ)
 |_=>none
def afE:Option CL→PV
 |some c=>.ip c 0
 |none=>.any
def eo (env:Env):Operand→PV
 |.tmp t=>aD env t
 |.const v=>ofV v
 |.global g=>afE (xK g)
 |.func f=>.fn (.func f) [] []
end Go.Eng
namespace Go.Eng
open Go.RowKit
set_option linter.unusedSimpArgs false
set_option linter.unusedVariables false
theorem Ut (x y:ByteArray):(x.toList==y.toList)=decide (x=y):=by
 rw[ByteArray.toList_eq,ByteArray.toList_eq];by_cases h:x=y
 ·subst h;simp
 ·rw[decide_eq_false h]
  simp only[beq_eq_false_iff_ne,ne_eq];exact fun e=>h (Go.WideShapes.bytes_inj e)
def CK.fits:CK→Value→Prop
 |.int k,v=>∃n,v=.int k n
 |.bool,v=>∃b,v=.bool b
 |.str,v=>∃s,v=.string s
def dJ (ks:List CK) (xs:Array Value) (off:Nat):Prop:=
 match ks with
 | []=>off≤xs.size
 |k::r=>(∃v,xs[off]? =some v∧k.fits v)∧dJ r xs (off+1)
def dU (ks:List CK) (xs ys:Array Value) (off:Nat):Prop:=
 match ks with
 | []=>True
 |_::r=>xs[off]? =ys[off]? ∧dU r xs ys (off+1)
theorem vE {ks ls:List CK}:∀{xs:Array Value} {off:Nat},dJ (ks++ls) xs off↔(dJ ks xs off∧dJ ls xs (off+ks.length)):=by
 induction ks with
 |nil=>
  intro xs off;simp only[List.nil_append,dJ,ahG,ahH];refine⟨fun h=>⟨?_,h⟩,fun h=>h.2⟩;cases ls with
  |nil=>exact h
  |cons l r=>
   obtain⟨⟨v,hv,_⟩,_⟩:=h;have:=(ahI.1 hv).1;omega
 |cons k r ih=>
  intro xs off;simp only[ahJ,dJ,ih,ahK,and_assoc];rw[show off+1+r.length=off+(r.length+1) by omega]
theorem vF {ks ls:List CK}:∀{xs ys:Array Value} {off:Nat},dU (ks++ls) xs ys off↔(dU ks xs ys off∧dU ls xs ys (off+ks.length)):=by
 induction ks with
 |nil=>intro xs ys off;simp[dU]
 |cons k r ih=>
  intro xs ys off;simp only[ahJ,dU,ih,ahK,and_assoc];rw[show off+1+r.length=off+(r.length+1) by omega]
theorem Ac {ks:List CK} {xs:Array Value} {a n:Nat}:∀{off:Nat},off+ks.length≤n→dJ ks xs (a+off)→dJ ks (xs.extract a (a+n)) off:=by
 induction ks with
 |nil=>intro off h g;simp only[dJ]at*;simp only[Array.size_extract,ahG]at*;omega
 |cons k r ih=>
  intro off h g;simp only[ahK]at h;obtain⟨⟨v,hv,hf⟩,g⟩:=g;refine⟨⟨v,?_,hf⟩,ih (by omega) (by rw[←ahL];exact g)⟩
  have hl:=(ahI.1 hv).1;rw[ahM,if_pos (by omega)];exact hv
theorem MX {ks:List CK} {xs ys:Array Value} {a n:Nat}:∀{off:Nat},off+ks.length≤n→dJ ks xs (a+off)→dJ ks ys (a+off)→(dU ks (xs.extract a (a+n)) (ys.extract a (a+n)) off↔dU ks xs ys (a+off)):=by
 induction ks with
 |nil=>intro off h g g';simp[dU]
 |cons k r ih=>
  intro off h g g';simp only[ahK]at h;obtain⟨⟨v,hv,hf⟩,g⟩:=g;obtain⟨⟨v',hv',hf'⟩,g'⟩:=g';have hl:=(ahI.1 hv).1;have hl':=(ahI.1 hv').1;simp only[dU];rw[ahM,ahM,if_pos (by omega),if_pos (by omega),ih (by omega) (by rw[←ahL];exact g) (by rw[←ahL];exact g'),ahL]
def EqT (P:Program) (t:TypeId) (ks:List CK) (n:Nat):Prop:=
 ∀(w:World) (d:Nat) (xs ys:Array Value) (off:Nat),n≤d→dJ ks xs off→dJ ks ys off→
  ∃a b r,(part t xs off).run P w=.ok a w∧(part t ys off).run P w=.ok b w∧(Op.equalIn d t a b).run P w=.ok r w∧(r=true↔dU ks xs ys off)
def EqA (P:Program) (t:TypeId) (ks:List CK) (n:Nat):Prop:=
 ∀(w:World) (d:Nat) (xs ys:Array Value),n≤d→dJ ks xs 0→dJ ks ys 0→
  ∃r,(Op.equalIn d t (.agg xs) (.agg ys)).run P w=.ok r w∧(r=true↔dU ks xs ys 0)
theorem EqT.leaf {P:Program} {t:TypeId} {k:CK} (h:match k with|.int k=>P.underlying t=some (.int k)|.bool=>P.underlying t=some .bool|.str=>P.underlying t=some .string):EqT P t [k] 1:=by
 intro w d xs ys off hd hx hy;obtain⟨⟨v,hv,hf⟩,_⟩:=hx;obtain⟨⟨u,hu,hg⟩,_⟩:=hy;obtain⟨d,rfl⟩:∃d',d=d'+1:=⟨d-1,by omega⟩
 have hp:∀{zs:Array Value} {z:Value},zs[off]? =some z→(part t zs off).run P w=.ok z w:=by
  intro zs z hz;cases k<;>simp only at h<;>simp[part,isAgg,run_underlying h,hz]
 cases k with
 |int k=>
  obtain⟨m,rfl⟩:=hf;obtain⟨n,rfl⟩:=hg;exact⟨_,_,_,hp hv,hp hu,run_equalIn_int w d t k k m n h,by simp[dU,hv,hu]⟩
 |bool=>
  obtain⟨m,rfl⟩:=hf;obtain⟨n,rfl⟩:=hg;exact⟨_,_,_,hp hv,hp hu,run_equalIn_bool' w d t m n h,by simp[dU,hv,hu]⟩
 |str=>
  obtain⟨m,rfl⟩:=hf;obtain⟨n,rfl⟩:=hg;refine⟨_,_,_,hp hv,hp hu,run_equalIn_string w d t m n h,?_⟩;rw[Ut];simp[dU,hv,hu]
theorem EqA.part {P:Program} {t:TypeId} {ks:List CK} {n:Nat} (h:EqA P t ks n) (ha:∃u,P.underlying t=some u∧(match u with|.struct _|.array _ _=>true|_=>false)=true) (hs:P.cellsOf t=ks.length):EqT P t ks n:=by
 intro w d xs ys off hd hx hy;obtain⟨u,hu,ha⟩:=ha;obtain⟨i,hi⟩:=info_of_underlying hu;have hp:∀zs:Array Value,(Go.part t zs off).run P w=.ok (.agg (zs.extract off (off+ks.length))) w:=by
  intro zs;cases u<;>simp only[Bool.false_eq_true]at ha<;>simp[Go.part,isAgg,run_underlying hu,run_sizeOf w hi,hs]
 obtain⟨r,h1,h2⟩:=h w d _ _ hd (Ac (off:=0) (a:=off) (n:=ks.length) (by omega) hx) (Ac (off:=0) (a:=off) (n:=ks.length) (by omega) hy)
 exact⟨_,_,r,hp xs,hp ys,h1,h2.trans (MX (off:=0) (by omega) hx hy)⟩
def vL (P:Program) (n:Nat):List Field→Nat→List CK→Prop
 | [],_,ks=>ks=[]
 |f::fs,off,ks=>f.name≠ "_" ∧f.offset=off∧∃kf rest,ks=kf++rest∧EqT P f.type kf n∧vL P n fs (off+kf.length) rest
theorem Uu {P:Program} {n:Nat} (fs:List Field):∀{off:Nat} {ks:List CK} (h:vL P n fs off ks) (w:World) (d:Nat) (xs ys:Array Value),n≤d→dJ ks xs off→dJ ks ys off→
 ∃r,(Op.eqFields d xs ys fs).run P w=.ok r w∧(r=true↔dU ks xs ys off):=by
 induction fs with
 |nil=>intro off ks h w d xs ys hd hx hy;cases h;exact⟨true,by simp[Op.eqFields],by simp[dU]⟩
 |cons f fs ih=>
  intro off ks h w d xs ys hd hx hy;obtain⟨h1,rfl,kf,rest,rfl,h3,h4⟩:=h;rw[vE]at hx hy;obtain⟨a,b,r,e1,e2,e3,e4⟩:=h3 w d xs ys _ hd hx.1 hy.1;obtain⟨r',e5,e6⟩:=ih h4 w d xs ys hd hx.2 hy.2;rw[Op.eqFields,if_pos h1];simp only[Sem.run_bind,e1,e2,e3,Result.andThen_ok];rw[vF,←e4,←e6];cases r with
  |false=>exact⟨false,by simp,by simp⟩
  |true=>exact⟨r',by simp[e5],by simp⟩
theorem EqA.struct {P:Program} {t:TypeId} {fs:Array Field} {ks:List CK} {n:Nat} (ht:P.underlying t=some (.struct fs)) (hp:P.stoodInHeld t=false) (h:vL P n fs.toList 0 ks):EqA P t ks (n+1):=by
 intro w d xs ys hd hx hy;obtain⟨d,rfl⟩:∃d',d=d'+1:=⟨d-1,by omega⟩
 have hfs:P.fieldsOf t=fs:=by simp[Program.fieldsOf,ht]
 rw[run_equalIn_struct w d t xs ys (by rw[hfs];exact ht) hp,hfs]
 exact Uu _ h w d xs ys (by omega) hx hy
def vN (ks:List CK):Nat→List CK
 |0=>[]
 |n+1=>ks++vN ks n
theorem JK {P:Program} {e:TypeId} {ke:List CK} {n:Nat} (h:EqT P e ke n) (hc:P.cellsOf e=ke.length) (m:Nat):∀(s:Nat) (w:World) (d:Nat) (xs ys:Array Value),n≤d→dJ (vN ke m) xs (s*ke.length)→dJ (vN ke m) ys (s*ke.length)→
 ∃r,(Op.eqItems d e (P.cellsOf e) xs ys (List.range' s m)).run P w=.ok r w∧(r=true↔dU (vN ke m) xs ys (s*ke.length)):=by
 induction m with
 |zero=>intro s w d xs ys hd hx hy;exact⟨true,by simp[Op.eqItems],by simp[dU,vN]⟩
 |succ m ih=>
  intro s w d xs ys hd hx hy;rw[vN,vE]at hx hy;rw[←ahN]at hx hy;obtain⟨a,b,r,e1,e2,e3,e4⟩:=h w d xs ys _ hd hx.1 hy.1;obtain⟨r',e5,e6⟩:=ih (s+1) w d xs ys hd hx.2 hy.2;rw[List.range'_succ,Op.eqItems];rw[hc]at e5⊢;simp only[Sem.run_bind,e1,e2,e3,Result.andThen_ok];rw[vN,vF,←e4,←ahN,←e6];cases r with
  |false=>exact⟨false,by simp,by simp⟩
  |true=>exact⟨r',by simp[e5],by simp⟩
theorem EqA.array {P:Program} {t e:TypeId} {m:Nat} {ke:List CK} {n:Nat} (ht:P.underlying t=some (.array m e)) (h:EqT P e ke n) (hc:P.cellsOf e=ke.length) (he:∃u,P.underlying e=some u):EqA P t (vN ke m) (n+1):=by
 intro w d xs ys hd hx hy;obtain⟨d,rfl⟩:∃d',d=d'+1:=⟨d-1,by omega⟩
 obtain⟨u,hu⟩:=he;obtain⟨i,hi⟩:=info_of_underlying hu;rw[run_equalIn_array w d xs ys ht hi,List.range_eq_range'];have:=JK h hc m 0 w d xs ys (by omega)
 simp only[Nat.zero_mul]at this;exact this hx hy
def Fp (P:Program) (t:TypeId) (ks:List CK):Prop:=P.eqGuardType P.depth t=false∧∃n,n≤9000∧EqA P t ks n
def rd (w:World) (b o:Nat):Option Value:=match w.heap[b]? with|some (.cells c _ _)=>c[o]? |_=>none
def rdv (w:World) (b o:Nat):Value:=(rd w b o).getD undef
structure Ix where
 o:Nat→Option Nat
 t:Nat→Option (Nat × Nat)
 x:Nat→Nat→Prop
def noI:Ix:=⟨fun _=>none,fun _=>none,fun _ _=>False⟩
abbrev Imm:=Nat→Nat→Prop
structure Ix.le (ι ι':Ix):Prop where
 o:∀k b,ι.o k=some b→ι'.o k=some b
 t:∀k b n,ι.t k=some (b,n)→∃b' n',ι'.t k=some (b',n')∧((b'=b∧n≤n')∨n<n')
theorem Ix.le.refl (ι:Ix):ι.le ι:=⟨fun _ _ h=>h,fun _ b n h=>⟨b,n,h,.inl ⟨rfl,ahO _⟩⟩⟩
theorem Ix.le.trans {a b c:Ix} (h:a.le b) (g:b.le c):a.le c:=
 ⟨fun k x hx=>g.o k x (h.o k x hx),fun k x n hx=>by
  obtain⟨x1,n1,h1,h2⟩:=h.t k x n hx;obtain⟨x2,n2,g1,g2⟩:=g.t k x1 n1 h1;refine⟨x2,n2,g1,?_⟩;rcases h2 with⟨rfl,h2⟩|h2
  ·rcases g2 with⟨rfl,g2⟩|g2
   ·exact .inl ⟨rfl,by omega⟩
   ·exact .inr (by omega)
  ·rcases g2 with⟨rfl,g2⟩|g2
   ·exact .inr (by omega)
   ·exact .inr (by omega)⟩
inductive Rep (S:Imm) (w:World):Ix→PV→Value→Prop where
 |any (ι) (v:Value):Rep S w ι .any v
 |int (ι) (k:IntKind) (n:Int):Rep S w ι (.int k n) (.int k n)
 |bool (ι) (b:Bool):Rep S w ι (.bool b) (.bool b)
 |bp (ι) (b:Bool):Rep S w ι (.bp b) (.bool b)
 |str (ι) (s:ByteArray):Rep S w ι (.str s) (.string s)
 |agg (ι) (cs:List PV) (vs:Array Value) (hl:cs.length=vs.size) (h:∀i,i<cs.length→Rep S w ι (aD cs i) (vs.getD i undef)):Rep S w ι (.agg cs) (.agg vs)
 |tup (ι) (cs:List PV) (vs:Array Value) (hl:cs.length=vs.size) (h:∀i,i<cs.length→Rep S w ι (aD cs i) (vs.getD i undef)):Rep S w ι (.tup cs) (.tuple vs)
 |fn (ι) (f:Fn) (fs cs:List PV) (us vs:Array Value) (hk:fs.length=us.size) (hl:cs.length=vs.size)
  (h:∀i,i<fs.length→Rep S w ι (aD fs i) (us.getD i undef)) (h':∀i,i<cs.length→Rep S w ι (aD cs i) (vs.getD i undef)):Rep S w ι (.fn f fs cs) (.func f us vs)
 |fv (ι) (f:Fn) (us vs:Array Value):Rep S w ι (.fv f us vs) (.func f us vs)
 |nilf (ι):Rep S w ι .nilf .nilFunc
 |nils (ι):Rep S w ι .nils (.slice none 0 0)
 |nilp (ι):Rep S w ι .nilp (.pointer none)
 |nilm (ι):Rep S w ι .nilm (.map none)
 |nili (ι):Rep S w ι .nili .nilIface
 |islnil (ι) (c:CL) (t:Tok) {a:Option Addr} (h:c.cnt=0):Rep S w ι (.isl c t) (.slice a 0 0)
 |isl (ι) (c:CL) (t:Tok) (b off cap:Nat) (hc:c.cnt≤cap) (hs:∀j,j<c.ncell→S b (off+j)) (h:∀j,j<c.ncell→Rep S w noI (c.get j) (rdv w b (off+j)))
  (hf:t=.full→cap=c.cnt) (ho:∀k,t=.own k→cap=0∨∃b1 n,ι.t k=some (b1,n)∧c.cnt≤n∧((b1=b∧off=0∧∀j,j<cap*c.esz→(rd w b j).isSome)∨c.cnt<n)):Rep S w ι (.isl c t) (.slice (some ⟨b,off,none⟩) c.cnt cap)
 |rsl (ι) (k off n b cap:Nat) (hk:ι.o k=some b) (hc:n≤cap) (hr:off=0→∀j,j<cap→(rd w b j).isSome):Rep S w ι (.rsl k off n) (.slice (some ⟨b,off,none⟩) n cap)
 |rslz (ι) (k off b o:Nat) (hk:ι.o k=some b):Rep S w ι (.rsl k off 0) (.slice (some ⟨b,o,none⟩) 0 0)
 |ip (ι) (c:CL) (off b o:Nat) (hs:∀j,j<c.ncell→S b (o+j)) (h:∀j,j<c.ncell→Rep S w noI (c.get j) (rdv w b (o+j))):Rep S w ι (.ip c off) (.pointer (some ⟨b,o+off,none⟩))
 |ipe (ι) (c:CL) (i j b o:Nat) (hs:∀j,j<c.ncell→S b (o+j)) (h:∀j,j<c.ncell→Rep S w noI (c.get j) (rdv w b (o+j))):Rep S w ι (.ipe c i j) (.pointer (some ⟨b,o+(i*c.esz+j),none⟩))
 |rp (ι) (k off b:Nat) (hk:ι.o k=some b):Rep S w ι (.rp k off) (.pointer (some ⟨b,off,none⟩))
 |rpe (ι) (k m i j b:Nat) (hk:ι.o k=some b):Rep S w ι (.rpe k m i j) (.pointer (some ⟨b,i*m+j,none⟩))
 |rm (ι) (k b:Nat) (hk:ι.o k=some b):Rep S w ι (.rm k) (.map (some b))
 |yld (ι) (k b:Nat) (hk:ι.o k=some b):Rep S w ι (.yld k) (.func (.yield b) #[] #[])
 |row (ι) (k b n cap:Nat) (hc:n≤cap):Rep S w ι (.row k b n) (.slice (some ⟨b,0,none⟩) n cap)
 |ifc (ι) (t:Nat) (p:PV) (v:Value) (h:Rep S w ι p v):Rep S w ι (.ifc t p) (.iface t v)
 |rowp (ι) (k b m i j:Nat):Rep S w ι (.rowp k b m i j) (.pointer (some ⟨b,i*m+j,none⟩))
structure Keeps (S:Imm) (w:World) (S':Imm) (w':World):Prop where
 imm:∀b j,S b j→S' b j∧rd w' b j=rd w b j
 cells:∀b j,(rd w b j).isSome→(rd w' b j).isSome
theorem Keeps.refl (S:Imm) (w:World):Keeps S w S w:=⟨fun _ _ h=>⟨h,rfl⟩,fun _ _ h=>h⟩
theorem Keeps.trans {S S' S'':Imm} {w w' w'':World} (h:Keeps S w S' w') (g:Keeps S' w' S'' w''):Keeps S w S'' w'':=
 ⟨fun b j hs=>let⟨a,e⟩:=h.imm b j hs;let⟨a',e'⟩:=g.imm b j a;⟨a',e'.trans e⟩,fun b j hs=>g.cells b j (h.cells b j hs)⟩
theorem Rep.mono {S S':Imm} {w w':World} (hk:Keeps S w S' w') {ι:Ix} {p:PV} {v:Value} (h:Rep S w ι p v):
 ∀ι':Ix,ι.le ι'→Rep S' w' ι' p v:=by
 induction h with
 |any ι v=>exact fun ι' _=>.any _ _
 |int ι k n=>exact fun ι' _=>.int _ _ _
 |bool ι b=>exact fun ι' _=>.bool _ _
 |bp ι b=>exact fun ι' _=>.bp _ _
 |str ι s=>exact fun ι' _=>.str _ _
 |agg ι cs vs hl h ih=>exact fun ι' hi=>.agg _ _ _ hl fun i hlt=>ih i hlt ι' hi
 |tup ι cs vs hl h ih=>exact fun ι' hi=>.tup _ _ _ hl fun i hlt=>ih i hlt ι' hi
 |fn ι f fs cs us vs hk hl h h' ih ih'=>exact fun ι' hi=>.fn _ _ _ _ _ _ hk hl (fun i hlt=>ih i hlt ι' hi) (fun i hlt=>ih' i hlt ι' hi)
 |fv ι f us vs=>exact fun ι' _=>.fv _ _ _ _
 |nilf ι=>exact fun ι' _=>.nilf _
 |nils ι=>exact fun ι' _=>.nils _
 |nilp ι=>exact fun ι' _=>.nilp _
 |nilm ι=>exact fun ι' _=>.nilm _
 |nili ι=>exact fun ι' _=>.nili _
 |islnil ι c t h=>exact fun ι' _=>.islnil _ _ _ h
 |isl ι c t b off cap hc hs h hf ho ih=>
  exact fun ι' hi=>.isl _ _ _ _ _ _ hc (fun j hj=>(hk.imm _ _ (hs j hj)).1) (fun j hj=>by
   have:=ih j hj noI (.refl _);simp only[rdv,(hk.imm _ _ (hs j hj)).2]at this⊢;exact this) hf (fun k hk'=>by
   rcases ho k hk' with h0|⟨b1,n,h1,h2,h3⟩
   ·exact .inl h0
   refine .inr ?_;obtain⟨b2,n',g1,g2⟩:=hi.t _ _ _ h1;refine⟨b2,n',g1,by omega,?_⟩
   rcases h3 with⟨e1,e2,e3⟩|h3
   ·rcases g2 with⟨e4,g2⟩|g2
    ·exact .inl ⟨e4.trans e1,e2,fun j hj=>hk.cells _ _ (e3 j hj)⟩
    ·exact .inr (by omega)
   ·exact .inr (by omega))
 |rslz ι k off b o hk'=>exact fun ι' hi=>.rslz _ _ _ _ _ (hi.o _ _ hk')
 |rsl ι k off n b cap hk' hc hr=>exact fun ι' hi=>.rsl _ _ _ _ _ _ (hi.o _ _ hk') hc (fun h0 j hj=>hk.cells _ _ (hr h0 j hj))
 |ip ι c off b o hs h ih=>
  exact fun ι' hi=>.ip _ _ _ _ _ (fun j hj=>(hk.imm _ _ (hs j hj)).1) (fun j hj=>by
   have:=ih j hj noI (.refl _);simp only[rdv,(hk.imm _ _ (hs j hj)).2]at this⊢;exact this)
 |ipe ι c i j b o hs h ih=>
  exact fun ι' hi=>.ipe _ _ _ _ _ _ (fun j hj=>(hk.imm _ _ (hs j hj)).1) (fun j hj=>by
   have:=ih j hj noI (.refl _);simp only[rdv,(hk.imm _ _ (hs j hj)).2]at this⊢;exact this)
 |rp ι k off b hk'=>exact fun ι' hi=>.rp _ _ _ _ (hi.o _ _ hk')
 |rpe ι k m i j b hk'=>exact fun ι' hi=>.rpe _ _ _ _ _ _ (hi.o _ _ hk')
 |rm ι k b hk'=>exact fun ι' hi=>.rm _ _ _ (hi.o _ _ hk')
 |yld ι k b hk'=>exact fun ι' hi=>.yld _ _ _ (hi.o _ _ hk')
 |row ι k b n cap hc=>exact fun ι' hi=>.row _ _ _ _ _ hc
 |ifc ι t p v h ih=>exact fun ι' hi=>.ifc _ _ _ _ (ih ι' hi)
 |rowp ι k b m i j=>exact fun ι' hi=>.rowp _ _ _ _ _ _
def bF (S:Imm) (w:World) (ι:Ix) (ps:List PV) (vs:Array Value):Prop:=
 ps.length=vs.size∧∀i,i<ps.length→Rep S w ι (aD ps i) (vs.getD i undef)
theorem bF.mono {S S':Imm} {w w':World} (hk:Keeps S w S' w') {ι ι':Ix} {ps:List PV} {vs:Array Value} (h:bF S w ι ps vs)
 (hi:ι.le ι'):bF S' w' ι' ps vs:=⟨h.1,fun i hlt=>(h.2 i hlt).mono hk ι' hi⟩
def bsz (w:World) (b:Nat):Option Nat:=match w.heap[b]? with|some (.cells c _ _)=>some c.size|_=>none
theorem eZ {w w':World} {b:Nat} (h:w'.heap[b]? =w.heap[b]?):bsz w' b=bsz w b:=by unfold bsz;rw[h]
theorem acG {w:World} {b n:Nat} (h:bsz w b=some n):b<w.heap.size:=by
 rcases ahP b w.heap.size with h'|h'
 ·exact h'
 ·unfold bsz at h;rw[ahQ h']at h;cases h
structure Bel (w w':World):Prop where
 os:w'.os=w.os
 tape:w'.tape=w.tape
 output:w'.output=w.output
 size:w.heap.size≤w'.heap.size
 len:∀b,b<w.heap.size→bsz w' b=bsz w b
theorem Bel.refl (w:World):Bel w w:=⟨rfl,rfl,rfl,ahO _,fun _ _=>rfl⟩
theorem Bel.trans {a b c:World} (h:Bel a b) (k:Bel b c):Bel a c:=⟨k.os.trans h.os,k.tape.trans h.tape,k.output.trans h.output,Nat.le_trans h.size k.size,fun x hx=>(k.len x (ahR hx h.size)).trans (h.len x hx)⟩
def Unf (o:Option Obj):Prop:=∀a:Nat,(match o with|some (.cells _ _ (lo,hi))=>(lo≤a&&a<hi:Bool)|_=>false)=false
theorem ni:Unf none:=fun _=>rfl
theorem fJ (c:Array Value) (t:TypeId):Unf (some (.cells c t (0,0))):=fun a=>by simp
theorem Bel.block {w w':World} (b:Nat) (os:w'.os=w.os) (tape:w'.tape=w.tape) (output:w'.output=w.output) (size:w.heap.size≤w'.heap.size) (other:∀b',b'≠b→w'.heap[b']? =w.heap[b']?)
 (h:Unf w.heap[b]?) (h':Unf w'.heap[b]?) (hl:b<w.heap.size→bsz w' b=bsz w b:=by exact fun h=>absurd h (Nat.lt_irrefl _)):Bel w w':=by
 refine⟨os,tape,output,size,fun x hx=>?_⟩;by_cases e:x=b
 ·subst e;exact hl hx
 ·exact eZ (other _ e)
def gB:Imm→World→Prop:=fun S w=>∀g c,xK g=some c→bsz w g=some c.ncell∧∀j,j<c.ncell→S g j∧Rep S w noI (c.get j) (rdv w g j)
theorem nk {S S':Imm} {w w':World} (hk:Keeps S w S' w') (hb:Bel w w') (h:gB S w):gB S' w':=fun g c hg=>by
 obtain⟨h0,h⟩:=h g c hg;refine⟨(hb.len g (acG h0)).trans h0,fun j hj=>?_⟩;obtain⟨h1,h2⟩:=h j hj;refine⟨(hk.imm _ _ h1).1,?_⟩;have:=h2.mono hk noI (.refl _);simp only[rdv,(hk.imm _ _ h1).2]at this⊢;exact this
def AO.has (ι:Ix) (k:Nat):AO→Nat→Prop
 |.cells _ fz,b=>(match fz with|true=>False|false=>ι.o k=some b)
 |.tok _ _,b=>∃n,ι.t k=some (b,n)
 |.ext _ _,b=>ι.x k b
 |.mat _ _ _,b=>ι.x k b
 |.pmat _ _,b=>ι.x k b
 |.bld _ _ _,b=>ι.x k b
 |_,b=>ι.o k=some b
def AO.isTok:AO→Bool
 |.tok _ _=>true
 |_=>false
def AO.isExt:AO→Bool
 |.ext _ _=>true
 |.mat _ _ _=>true
 |.pmat _ _=>true
 |.bld _ _ _=>true
 |_=>false
def vO (G:List PV→(Nat→Prop)→Imm→World→Prop):Prop:=
 ∀pre D S w S' w',Keeps S w S' w'→Bel w w'→(∀b,D b→w'.heap[b]? =w.heap[b]?)→(∀b j,D b→S' b j→S b j)→G pre D S w→G pre D S' w'
def MZ (S:Imm) (w:World) (c:CL) (b:Nat):Prop:=
 ∃arr e,w.heap[b]? =some (.cells arr e (0,0))∧c.ncell≤arr.size∧(∀j,j<c.ncell→Rep S w noI (c.get j) (arr.getD j undef))∧∀j,¬S b j
def iJ (S:Imm) (w:World) (ι:Ix) (k:Nat) (all l:List Nat) (rc:RC):Prop:=
 ∃b arr e,ι.o k=some b∧w.heap[b]? =some (.cells arr e (0,0))∧l.length≤arr.size∧(∀j,¬S b j)∧b∉all∧(∀b',ι.x k b'↔(b'=b∨b'∈all))∧
  (∀r,r∈all→MZ S w (rc.at r) r)∧
  ∀i,i<l.length→l.getD i 0∈all∧∃cap,(rc.at (l.getD i 0)).cnt≤cap∧arr.getD i undef=.slice (some ⟨l.getD i 0,0,none⟩) (rc.at (l.getD i 0)).cnt cap
def nu (S:Imm) (w:World) (ι:Ix) (k t e:Nat) (s:ByteArray):Prop:=
 ∃b p v,ι.o k=some b∧w.heap[b]? =some (.cells #[p,v] t (0,0))∧(p=.pointer none∨p=.pointer (some ⟨b,0,none⟩))∧(∀b' j,ι.x k b'→¬S b' j)∧v.ownBlock≠some b∧
  w.ownsRowF 0 e 1 v s.size (Lib.strCells s)∧∀b',ι.x k b'↔(b'=b∨v.ownBlock=some b')
def gP (S:Imm) (w:World) (ι:Ix) (k:Nat):AO→Prop
 |.cells c fz=>(match fz with
  |true=>∃b,ι.o k=some b∧∀j,j<c.ncell→S b j∧Rep S w noI (c.get j) (rdv w b j)
  |false=>∃b arr e,ι.o k=some b∧w.heap[b]? =some (.cells arr e (0,0))∧c.ncell≤arr.size∧
   (∀j,j<c.ncell→Rep S w ι (c.get j) (arr.getD j undef))∧∀j,¬S b j)
 |.tok esz n=>(n=0→ι.t k=none)∧(0<n→∃b arr e,ι.t k=some (b,n)∧w.heap[b]? =some (.cells arr e (0,0))∧∀j,S b j→j<n*esz)
 |.map es=>∃b ents clock,ι.o k=some b∧w.heap[b]? =some (.map ents clock)∧ents.size=es.length∧
  ∀i (h:i<es.length) (h':i<ents.size),Rep S w ι es[i].1 ents[i].key∧Rep S w ι es[i].2 ents[i].val
 |.dfr=>∃b,ι.o k=some b∧w.heap[b]? =some (.deferred (some []))
 |.loop st pend ps asg body env d=>∃b fn tmps db,ι.o k=some b∧w.heap[b]? =some (.loop {state:=st,pending:=pend,fn:=fn,tmps:=tmps,params:=ps.toArray,assign:=asg,body:=body,defers:=db})∧
  bF S w ι env tmps
 |.ext G pre=>(∀b,ι.x k b→b<w.heap.size)∧vO G∧G pre (ι.x k) S w
 |.mat all l rc=>iJ S w ι k all l rc
 |.pmat n rc=>∃all l rc',iJ S w ι k all l rc'∧rc'.kin rc∧l.length=n∧l.Nodup∧(∀b,b∈all→b∈l)∧∀i,i<n→rc'.at (l.getD i 0)=rc.at i
 |.bld t e s=>nu S w ι k t e s
def AO.excl:AO→Bool
 |.cells _ fz=>!fz
 |_=>true
structure Mem (S:Imm) (w:World) (ι:Ix) (H:Hp):Prop where
 obj:∀k o,ay H k=some o→gP S w ι k o
 liveO:∀k b,ι.o k=some b→∃o,ay H k=some o∧o.isTok=false
 liveT:∀k x,ι.t k=some x→∃o,ay H k=some o∧o.isTok=true
 dist:∀k k' o o' b,ay H k=some o→ay H k'=some o'→o.has ι k b→o'.has ι k' b→k=k'
 imm:∀b j,S b j→(rd w b j).isSome
def owned (ι:Ix) (H:Hp) (b:Nat):Prop:=∃k o,ay H k=some o∧o.excl=true∧o.has ι k b
structure Tr (p:Nat) (S:Imm) (w:World) (ι:Ix) (H:Hp) (S':Imm) (w':World) (ι':Ix) (H':Hp):Prop where
 below:Bel w w'
 same:∀b,b<w.heap.size→¬owned ι H b→w'.heap[b]? =w.heap[b]?
 keeps:Keeps S w S' w'
 immN:∀b j,b<w.heap.size→S' b j→S b j∨owned ι H b
 own:∀b,owned ι' H' b→owned ι H b∨w.heap.size≤b
 protO:∀k,k<p→∀b,ι.o k=some b→ι'.o k=some b
 protT:∀k,k<p→∀b n,ι.t k=some (b,n)→∃b' n',ι'.t k=some (b',n')∧((b'=b∧n≤n')∨n<n')
theorem Tr.refl (p:Nat) (S:Imm) (w:World) (ι:Ix) (H:Hp):Tr p S w ι H S w ι H:=
 ⟨Bel.refl _,fun _ _ _=>rfl,Keeps.refl _ _,fun _ _ _ h=>.inl h,fun _ h=>.inl h,fun _ _ _ h=>h,fun _ _ b n h=>⟨b,n,h,.inl ⟨rfl,ahO _⟩⟩⟩
theorem Tr.trans {p:Nat} {S S' S'':Imm} {w w' w'':World} {ι ι' ι'':Ix} {H H' H'':Hp}
 (h:Tr p S w ι H S' w' ι' H') (g:Tr p S' w' ι' H' S'' w'' ι'' H''):Tr p S w ι H S'' w'' ι'' H'':=by
 have hsz:=h.below.size;refine⟨h.below.trans g.below,fun b hb ho=>?_,h.keeps.trans g.keeps,fun b j hb hs=>?_,fun b ho=>?_,fun k hk b hi=>g.protO k hk b (h.protO k hk b hi),fun k hk b n hi=>?_⟩
 ·rw[g.same b (by omega) (fun ho'=>?_)]
  ·exact h.same b hb ho
  ·rcases h.own b ho' with h1|h1
   ·exact ho h1
   ·omega
 ·rcases g.immN b j (by omega) hs with h1|h1
  ·exact h.immN b j hb h1
  ·rcases h.own b h1 with h2|h2
   ·exact .inr h2
   ·omega
 ·rcases g.own b ho with h1|h1
  ·exact h.own b h1
  ·exact .inr (by omega)
 ·obtain⟨x1,n1,h1,h2⟩:=h.protT k hk b n hi
  obtain⟨x2,n2,g1,g2⟩:=g.protT k hk x1 n1 h1;refine⟨x2,n2,g1,?_⟩;rcases h2 with⟨rfl,h2⟩|h2
  ·rcases g2 with⟨rfl,g2⟩|g2
   ·exact .inl ⟨rfl,by omega⟩
   ·exact .inr (by omega)
  ·rcases g2 with⟨rfl,g2⟩|g2
   ·exact .inr (by omega)
   ·exact .inr (by omega)
theorem eY {w:World} {b j:Nat} (h:(rd w b j).isSome):b<w.heap.size:=by
 unfold rd at h;rcases ahP b w.heap.size with h1|h1
 ·exact h1
 ·rw[ahQ h1]at h;simp at h
theorem aN {w:World} {b:Nat} {arr:Array Value} {e:TypeId} {f:Nat × Nat} (h:w.heap[b]? =some (.cells arr e f)) (j:Nat):rd w b j=arr[j]? :=by
 simp[rd,h]
theorem dh {w w':World} {b:Nat} (h:w'.heap[b]? =w.heap[b]?) (j:Nat):rd w' b j=rd w b j:=by
 simp[rd,h]
theorem MZ.mono {S S':Imm} {w w':World} (hk:Keeps S w S' w') {c:CL} {b:Nat} (h:MZ S w c b) (hb:w'.heap[b]? =w.heap[b]?) (hs:∀j,S' b j→S b j):MZ S' w' c b:=by
 obtain⟨arr,e,h1,h2,h3,h4⟩:=h;exact⟨arr,e,hb.trans h1,h2,fun j hj=>(h3 j hj).mono hk _ (.refl _),fun j hj=>h4 j (hs j hj)⟩
theorem iJ.mono {S S':Imm} {w w':World} (hk:Keeps S w S' w') {ι ι':Ix} (hi:ι.le ι') {k:Nat} {all l:List Nat} {rc:RC} (h:iJ S w ι k all l rc)
 (hb:∀b,ι.x k b→w'.heap[b]? =w.heap[b]?) (hx:ι'.x k=ι.x k) (hs:∀b j,ι.x k b→S' b j→S b j):iJ S' w' ι' k all l rc:=by
 obtain⟨b,arr,e,h1,h2,h3,h4,h5,h6,h7,h8⟩:=h;have hx0:ι.x k b:=(h6 b).2 (.inl rfl);refine⟨b,arr,e,hi.o _ _ h1,(hb b hx0).trans h2,h3,fun j hj=>h4 j (hs b j hx0 hj),h5,fun b'=>by rw[hx];exact h6 b',fun r hr=>?_,h8⟩
 have hxr:ι.x k r:=(h6 r).2 (.inr hr);exact(h7 r hr).mono hk (hb r hxr) (fun j hj=>hs r j hxr hj)
theorem ny {w w':World} {e:TypeId} {v:Value} {n:Nat} {xs:List Value} (h:w.ownsRowF 0 e 1 v n xs) (hb:∀b,v.ownBlock=some b→w'.heap[b]? =w.heap[b]?):w'.ownsRowF 0 e 1 v n xs:=by
 refine⟨h.1,?_⟩;rcases h.2 with h1|⟨g,cap,cur,fz,h1,h2,h3,h4⟩
 ·exact .inl h1
 ·exact .inr ⟨g,cap,cur,fz,h1,h2,(hb g (by subst h1;rfl)).trans h3,h4⟩
theorem nu.mono {S S':Imm} {w w':World} {ι ι':Ix} (hi:ι.le ι') {k t e:Nat} {s:ByteArray} (h:nu S w ι k t e s)
 (hb:∀b,ι.x k b→w'.heap[b]? =w.heap[b]?) (hx:ι'.x k=ι.x k) (hs:∀b j,ι.x k b→S' b j→S b j):nu S' w' ι' k t e s:=by
 obtain⟨b,p,v,h1,h2,h3,h4,h5,h6,h7⟩:=h;refine⟨b,p,v,hi.o _ _ h1,(hb b ((h7 b).2 (.inl rfl))).trans h2,h3,fun b' j hx' hs'=>?_,h5,ny h6 (fun b' hb'=>hb b' ((h7 b').2 (.inr hb'))),fun b'=>by rw[hx];exact h7 b'⟩
 rw[hx]at hx';exact h4 b' j hx' (hs b' j hx' hs')
theorem nu.cong {S:Imm} {w:World} {ι ι1:Ix} {k k1 t e:Nat} {s:ByteArray} (h:nu S w ι k t e s) (ho:ι1.o k1=ι.o k) (hx:ι1.x k1=ι.x k):nu S w ι1 k1 t e s:=by
 obtain⟨b,p,v,h1,h2,h3,h4,h5,h6,h7⟩:=h;exact⟨b,p,v,ho.trans h1,h2,h3,by rw[hx];exact h4,h5,h6,fun b'=>by rw[hx];exact h7 b'⟩
theorem nu.lt {S:Imm} {w:World} {ι:Ix} {k t e:Nat} {s:ByteArray} (h:nu S w ι k t e s) {b:Nat} (hb:ι.x k b):b<w.heap.size:=by
 obtain⟨b0,p,v,h1,h2,h3,h4,h5,h6,h7⟩:=h;rcases(h7 b).1 hb with rfl|h
 ·rcases ahP b w.heap.size with g|g
  ·exact g
  ·rw[ahQ g]at h2;cases h2
 ·exact(h6.lt b h).2
theorem gP.mono {S S':Imm} {w w':World} (hk:Keeps S w S' w') {ι ι':Ix} (hi:ι.le ι') {k:Nat} {o:AO} (h:gP S w ι k o)
 (hbw:Bel w w') (hb:∀b,o.has ι k b→w'.heap[b]? =w.heap[b]?) (hn:o.isTok=true→ι'.t k=ι.t k) (hx:ι'.x k=ι.x k) (hs:∀b j,o.has ι k b→S' b j→S b j):gP S' w' ι' k o:=by
 cases o with
 |cells c fz=>
  cases fz with
  |true=>
   obtain⟨b,h1,h2⟩:=h;refine⟨b,hi.o _ _ h1,fun j hj=>⟨(hk.imm _ _ (h2 j hj).1).1,?_⟩⟩;have:=(h2 j hj).2.mono hk _ (.refl _);simp only[rdv,(hk.imm _ _ (h2 j hj).1).2]at this⊢;exact this
  |false=>
   obtain⟨b,arr,e,h1,h2,h3,h4,h5⟩:=h;exact⟨b,arr,e,hi.o _ _ h1,(hb b h1).trans h2,h3,fun j hj=>(h4 j hj).mono hk _ hi,fun j hj=>h5 j (hs b j h1 hj)⟩
 |tok esz n=>
  obtain⟨h1,h2⟩:=h;have ht:=hn rfl;refine⟨fun hz=>ht.trans (h1 hz),fun hz=>?_⟩;obtain⟨b,arr,e,h3,h4,h5⟩:=h2 hz;have hbl:(AO.tok esz n).has ι k b:=⟨_,h3⟩;exact⟨b,arr,e,ht.trans h3,(hb b hbl).trans h4,fun j hj=>h5 j (hs b j hbl hj)⟩
 |map es=>
  obtain⟨b,ents,clock,h1,h2,h3,h4⟩:=h;exact⟨b,ents,clock,hi.o _ _ h1,(hb b h1).trans h2,h3,fun i hl hl'=>⟨(h4 i hl hl').1.mono hk _ hi,(h4 i hl hl').2.mono hk _ hi⟩⟩
 |dfr=>
  obtain⟨b,h1,h2⟩:=h;exact⟨b,hi.o _ _ h1,(hb b h1).trans h2⟩
 |loop st pend ps asg body env d=>
  obtain⟨b,fn,tmps,db,h1,h2,h3⟩:=h;exact⟨b,fn,tmps,db,hi.o _ _ h1,(hb b h1).trans h2,h3.mono hk hi⟩
 |ext G pre=>
  obtain⟨h1,h2,h3⟩:=h;refine⟨fun b hb'=>?_,h2,?_⟩
  ·rw[hx]at hb';have:=h1 b hb';have:=hbw.size;omega
  ·rw[hx];exact h2 _ _ _ _ _ _ hk hbw hb hs h3
 |mat all l rc=>exact iJ.mono hk hi h hb hx hs
 |pmat n rc=>
  obtain⟨all,l,rc',h1,h2⟩:=h;exact⟨all,l,rc',iJ.mono hk hi h1 hb hx hs,h2⟩
 |bld t e s=>exact nu.mono hi h hb hx hs
def Fw (r:Option Nat):Fence:={Fence.wide with round:=r}
structure xL (w:World) (ι:Ix) (H:Hp) (ds:List Deferred):Prop where
 all:∀d∈ds,∃b,d.target=.collected b∧w.heap[b]? =some (.deferred (some []))∧¬owned ι H b
 nodup:ds.Pairwise fun d d'=>∀b b',d.target=.collected b→d'.target=.collected b'→b≠b'
theorem xL.nil (w:World) (ι:Ix) (H:Hp):xL w ι H []:=⟨fun _ h=>by simp at h,.nil⟩
theorem xL.tr {p:Nat} {S S':Imm} {w w':World} {ι ι':Ix} {H H':Hp} {ds:List Deferred} (h:xL w ι H ds) (t:Tr p S w ι H S' w' ι' H'):xL w' ι' H' ds:=by
 refine⟨fun d hd=>?_,h.nodup⟩;obtain⟨b,h1,h2,h3⟩:=h.all d hd;have hb:b<w.heap.size:=by
  rcases ahP b w.heap.size with h4|h4
  ·exact h4
  ·rw[ahQ h4]at h2;simp at h2
 refine⟨b,h1,(t.same b hb h3).trans h2,fun ho=>?_⟩;rcases t.own b ho with h4|h4
 ·exact h3 h4
 ·omega
theorem lt_of_heap {w:World} {b:Nat} {o:Obj} (h:w.heap[b]? =some o):b<w.heap.size:=by
 rcases ahP b w.heap.size with h1|h1
 ·exact h1
 ·rw[ahQ h1]at h;simp at h
theorem iJ.lt {S:Imm} {w:World} {ι:Ix} {k:Nat} {all l:List Nat} {rc:RC} (h:iJ S w ι k all l rc) {b:Nat} (hb:ι.x k b):b<w.heap.size:=by
 obtain⟨b0,arr,e,h1,h2,_,_,_,h6,h7,_⟩:=h;rcases(h6 b).1 hb with rfl|hr
 ·exact lt_of_heap h2
 ·obtain⟨_,_,g1,_⟩:=h7 b hr;exact lt_of_heap g1
theorem gP.lt {S:Imm} {w:World} {ι:Ix} {k:Nat} {o:AO} (h:gP S w ι k o) {b:Nat} (hb:o.has ι k b):b<w.heap.size:=by
 cases o with
 |cells c fz=>cases fz with
  |true=>exact hb.elim
  |false=>obtain⟨b',arr,e,h1,h2,_⟩:=h;simp only[AO.has]at hb;rw[h1]at hb;cases hb;exact lt_of_heap h2
 |tok esz n=>
  obtain⟨h1,h2⟩:=h;obtain⟨m,hb⟩:=hb;rcases Nat.eq_zero_or_pos n with hz|hz
  ·rw[h1 hz]at hb;simp at hb
  ·obtain⟨b',arr,e,h3,h4,_⟩:=h2 hz
   rw[h3]at hb;cases hb;exact lt_of_heap h4
 |map es=>obtain⟨b',ents,cl,h1,h2,_⟩:=h;simp only[AO.has]at hb;rw[h1]at hb;cases hb;exact lt_of_heap h2
 |dfr=>obtain⟨b',h1,h2⟩:=h;simp only[AO.has]at hb;rw[h1]at hb;cases hb;exact lt_of_heap h2
 |loop st pend ps asg body env d=>obtain⟨b',fn,tmps,db,h1,h2,_⟩:=h;simp only[AO.has]at hb;rw[h1]at hb;cases hb;exact lt_of_heap h2
 |ext G pre=>exact h.1 b hb
 |mat all l rc=>exact iJ.lt h hb
 |pmat n rc=>obtain⟨_,_,_,h,_⟩:=h;exact iJ.lt h hb
 |bld t e s=>exact nu.lt h hb
theorem Mem.step1 {S:Imm} {w:World} {ι:Ix} {H:Hp} (M:Mem S w ι H) {S':Imm} {w':World} {ι':Ix} {k:Nat} {o':AO} {b:Nat}
 (below:Bel w w') (other:∀b',b'<w.heap.size→b'≠b→w'.heap[b']? =w.heap[b']?) (keeps:Keeps S w S' w')
 (hS:∀b' j,S' b' j→S b' j∨b'=b) (himm:∀j,S' b j→(rd w' b j).isSome)
 (hle:ι.le ι') (hio:∀k',k'≠k→ι'.o k'=ι.o k') (hit:∀k',k'≠k→ι'.t k'=ι.t k') (hix:ι'.x=ι.x)
 (hb:w.heap.size≤b∨∃o,ay H k=some o∧o.excl=true∧o.has ι k b)
 (hk:∀b',o'.has ι' k b'→b'=b) (hoT:o'.isTok=true→ι'.o k=none) (hoO:o'.isTok=false→ι'.t k=none)
 (hobj:gP S' w' ι' k o'):Mem S' w' ι' (aQ H k o')∧∀p,Tr p S w ι H S' w' ι' (aQ H k o'):=by
 have hne:∀k' o b',k'≠k→ay H k'=some o→o.has ι k' b'→b'<w.heap.size∧b'≠b:=by
  intro k' o b' hk' ho hbl;have hlt:=(M.obj k' o ho).lt hbl;refine⟨hlt,fun e=>?_⟩;subst e;rcases hb with hb|⟨o2,h1,h2,h3⟩
  ·omega
  ·exact hk' (M.dist k' k o o2 b' ho h1 hbl h3)
 have hbl':∀k' o b',k'≠k→(AO.has ι' k' o b'↔AO.has ι k' o b'):=by
  intro k' o b' hk';cases o<;>simp[AO.has,hio k' hk',hit k' hk',hix]
 have hk:=fun{b'}=>hk b';refine⟨⟨?_,?_,?_,?_,?_⟩,fun p=>⟨below,?_,keeps,?_,?_,?_,?_⟩⟩
 ·intro k' o ho
  rw[bq]at ho;by_cases hk':k'=k
  ·subst hk';simp at ho;subst ho;exact hobj
  ·rw[if_neg hk']at ho
   refine(M.obj k' o ho).mono keeps hle below (fun b' hb'=>?_) (fun _=>hit k' hk') (by rw[hix]) (fun b' j hb' hs=>?_)
   ·obtain⟨h1,h2⟩:=hne k' o b' hk' ho hb'
    exact other b' h1 h2
   ·rcases hS b' j hs with h1|h1
    ·exact h1
    ·exact absurd h1 (hne k' o b' hk' ho hb').2
 ·intro k' b' h
  rw[bq];by_cases hk':k'=k
  ·subst hk'
   refine⟨o',by simp,?_⟩
   cases hT:o'.isTok with
   |false=>rfl
   |true=>rw[hoT hT]at h;simp at h
  ·rw[if_neg hk'];rw[hio k' hk']at h;exact M.liveO k' b' h
 ·intro k' x h
  rw[bq];by_cases hk':k'=k
  ·subst hk'
   refine⟨o',by simp,?_⟩
   cases hT:o'.isTok with
   |true=>rfl
   |false=>rw[hoO hT]at h;simp at h
  ·rw[if_neg hk'];rw[hit k' hk']at h;exact M.liveT k' x h
 ·intro k1 k2 o1 o2 b' h1 h2 hb1 hb2
  rw[bq]at h1 h2;by_cases e1:k1=k
  ·by_cases e2:k2=k
   ·rw[e1,e2]
   ·subst e1;simp at h1;subst h1;rw[if_neg e2]at h2;rw[hbl' k2 o2 _ e2]at hb2
    have hb1:=hk hb1;exact absurd hb1 (hne k2 o2 _ e2 h2 hb2).2
  ·rw[if_neg e1]at h1;rw[hbl' k1 o1 _ e1]at hb1
   by_cases e2:k2=k
   ·subst e2;simp at h2;subst h2
    have hb2:=hk hb2;exact absurd hb2 (hne k1 o1 _ e1 h1 hb1).2
   ·rw[if_neg e2]at h2;rw[hbl' k2 o2 _ e2]at hb2
    exact M.dist k1 k2 o1 o2 b' h1 h2 hb1 hb2
 ·intro b' j hs
  by_cases e:b'=b
  ·subst e;exact himm j hs
  ·rcases hS b' j hs with h1|h1
   ·rw[(keeps.imm b' j h1).2];exact M.imm b' j h1
   ·exact absurd h1 e
 ·intro b' hlt ho
  refine other b' hlt (fun e=>?_);subst e;rcases hb with hb|⟨o2,h1,h2,h3⟩
  ·omega
  ·exact ho ⟨k,o2,h1,h2,h3⟩
 ·intro b' j hlt hs
  rcases hS b' j hs with h1|h1
  ·exact .inl h1
  ·subst h1
   rcases hb with hb|⟨o2,h1,h2,h3⟩
   ·omega
   ·exact .inr ⟨k,o2,h1,h2,h3⟩
 ·rintro b' ⟨k',o,h1,h2,h3⟩
  rw[bq]at h1;by_cases e1:k'=k
  ·subst e1;simp at h1;subst h1;have h3:=hk h3;subst h3
   rcases hb with hb|⟨o2,g1,g2,g3⟩
   ·exact .inr hb
   ·exact .inl ⟨k',o2,g1,g2,g3⟩
  ·rw[if_neg e1]at h1;rw[hbl' k' o _ e1]at h3
   exact .inl ⟨k',o,h1,h2,h3⟩
 ·exact fun k' _ b' h=>hle.o k' b' h
 ·exact fun k' _ b' n h=>hle.t k' b' n h
theorem Mem.step {S:Imm} {w:World} {ι:Ix} {H:Hp} (M:Mem S w ι H) {S':Imm} {w':World} {ι':Ix} {k:Nat} {o':AO} {b:Nat}
 (below:Bel w w') (other:∀b',b'<w.heap.size→b'≠b→w'.heap[b']? =w.heap[b']?) (keeps:Keeps S w S' w')
 (hS:∀b' j,S' b' j→S b' j∨b'=b) (himm:∀j,S' b j→(rd w' b j).isSome)
 (hle:ι.le ι') (hio:∀k',k'≠k→ι'.o k'=ι.o k') (hit:∀k',k'≠k→ι'.t k'=ι.t k') (hix:ι'.x=ι.x)
 (hb:w.heap.size≤b∨∃o,ay H k=some o∧o.excl=true∧o.has ι k b)
 (hk:∀b',o'.has ι' k b'↔b'=b) (hoT:o'.isTok=true→ι'.o k=none) (hoO:o'.isTok=false→ι'.t k=none)
 (hobj:gP S' w' ι' k o'):Mem S' w' ι' (aQ H k o')∧∀p,Tr p S w ι H S' w' ι' (aQ H k o'):=
 M.step1 below other keeps hS himm hle hio hit hix hb (fun b'=>(hk b').1) hoT hoO hobj
def Ix.seto (ι:Ix) (k b:Nat):Ix:=⟨fun k'=>if k'=k then some b else ι.o k',ι.t,ι.x⟩
def Ix.sett (ι:Ix) (k b n:Nat):Ix:=⟨ι.o,fun k'=>if k'=k then some (b,n)else ι.t k',ι.x⟩
theorem Mem.none_o {S:Imm} {w:World} {ι:Ix} {H:Hp} (M:Mem S w ι H) {k:Nat} (h:ay H k=none):ι.o k=none:=by
 cases e:ι.o k with
 |none=>rfl
 |some b=>obtain⟨o,h1,_⟩:=M.liveO k b e;rw[h]at h1;cases h1
theorem Mem.none_t {S:Imm} {w:World} {ι:Ix} {H:Hp} (M:Mem S w ι H) {k:Nat} (h:ay H k=none):ι.t k=none:=by
 cases e:ι.t k with
 |none=>rfl
 |some b=>obtain⟨o,h1,_⟩:=M.liveT k b e;rw[h]at h1;cases h1
theorem jG {ι:Ix} {k b:Nat} (h:ι.o k=none):ι.le (ι.seto k b):=
 ⟨fun k' b' h'=>by
  by_cases e:k'=k
  ·subst e;rw[h]at h';cases h'
  ·simp[Ix.seto,e,h'],fun k' b' n h'=>⟨b',n,h',.inl ⟨rfl,ahO _⟩⟩⟩
theorem gX {w:World} {o:Obj} {b:Nat} (h:b<w.heap.size):({w with heap:=w.heap.push o}:World).heap[b]? =w.heap[b]? :=by
 simp only[ahS];rw[if_neg (by omega)]
theorem fQ (w:World) (o:Obj):({w with heap:=w.heap.push o}:World).heap[w.heap.size]? =some o:=by simp
theorem kG (w:World) (o:Obj) (ho:Unf (some o)):Bel w {w with heap:=w.heap.push o}:=
 .block w.heap.size rfl rfl rfl (by simp) (fun b' hb'=>by simp only[ahS];rw[if_neg hb']) (by rw[ahQ (ahO _)];exact ni) (by rw[fQ];exact ho)
theorem kH {S:Imm} {w:World} (hi:∀b j,S b j→(rd w b j).isSome) (o:Obj):Keeps S w S {w with heap:=w.heap.push o}:=by
 have:∀b j,(rd w b j).isSome→rd {w with heap:=w.heap.push o} b j=rd w b j:=fun b j h=>dh (gX (eY h)) j;exact⟨fun b j h=>⟨h,this b j (hi b j h)⟩,fun b j h=>by rw[this b j h];exact h⟩
theorem Mem.new {S:Imm} {w:World} {ι:Ix} {H:Hp} (M:Mem S w ι H) {k:Nat} (hk:ay H k=none) {c:CL} {arr:Array Value} {e:TypeId}
 (hn:c.ncell≤arr.size) (hc:∀j,j<c.ncell→Rep S w ι (c.get j) (arr.getD j undef)):
 Mem S {w with heap:=w.heap.push (.cells arr e)} (ι.seto k w.heap.size) (aQ H k (.cells c false))∧
 ∀p,Tr p S w ι H S {w with heap:=w.heap.push (.cells arr e)} (ι.seto k w.heap.size) (aQ H k (.cells c false)):=by
 have ho:=M.none_o hk;have hkeep:=kH M.imm (w:=w) (.cells arr e);have hnoS:∀j,¬S w.heap.size j:=fun j hs=>by have:=eY (M.imm _ _ hs);omega
 refine M.step (b:=w.heap.size) (kG _ _ (fJ _ _)) (fun b' hb' _=>gX hb') hkeep (fun b' j h=>.inl h) (fun j h=>absurd h (hnoS j))
  (jG ho) (fun k' h=>by simp[Ix.seto,h]) (fun _ _=>rfl) rfl (.inl (ahO _)) (fun b'=>by simp[AO.has,Ix.seto,eq_comm]) (by simp[AO.isTok]) (fun _=>M.none_t hk) ?_
 exact⟨w.heap.size,arr,e,by simp[Ix.seto],fQ _ _,hn,fun j hj=>(hc j hj).mono hkeep _ (jG ho),hnoS⟩
structure Upd (w w':World) (b:Nat) (arr':Array Value) (e:TypeId):Prop where
 below:Bel w w'
 other:∀b',b'≠b→w'.heap[b']? =w.heap[b']?
 here:w'.heap[b]? =some (.cells arr' e (0,0))
theorem Upd.keeps {S:Imm} {w w':World} {b:Nat} {arr arr':Array Value} {e:TypeId} (u:Upd w w' b arr' e) (h:w.heap[b]? =some (.cells arr e (0,0)))
 (hsz:arr.size≤arr'.size) (hS:∀j,S b j→arr'[j]? =arr[j]?):Keeps S w S w':=by
 refine⟨fun b' j hs=>⟨hs,?_⟩,fun b' j hs=>?_⟩
 ·by_cases eb:b'=b
  ·subst eb;rw[aN u.here,aN h];exact hS j hs
  ·exact dh (u.other b' eb) j
 ·by_cases eb:b'=b
  ·subst eb
   rw[aN h]at hs;rw[aN u.here];have:j<arr.size:=by
    rcases ahP j arr.size with h1|h1
    ·exact h1
    ·rw[ahQ h1]at hs;simp at hs
   rw[ahT (by omega)];rfl
  ·rw[dh (u.other b' eb) j];exact hs
theorem Mem.write {S:Imm} {w w':World} {ι:Ix} {H:Hp} (M:Mem S w ι H) {k b:Nat} {c c':CL} {arr arr':Array Value} {e:TypeId}
 (ho:ay H k=some (.cells c false)) (hk:ι.o k=some b) (h:w.heap[b]? =some (.cells arr e (0,0))) (u:Upd w w' b arr' e) (hsz:arr.size≤arr'.size)
 (hn:c'.ncell≤arr'.size) (hc:∀j,j<c'.ncell→Rep S w ι (c'.get j) (arr'.getD j undef)):
 Mem S w' ι (aQ H k (.cells c' false))∧∀p,Tr p S w ι H S w' ι (aQ H k (.cells c' false)):=by
 obtain⟨b0,arr0,e0,h1,h2,h3,h4,h5⟩:=M.obj k _ ho;rw[hk]at h1;cases h1
 have hkeep:Keeps S w S w':=u.keeps h hsz (fun j hs=>absurd hs (h5 j));have ht:ι.t k=none:=by
  cases et:ι.t k with
  |none=>rfl
  |some x=>obtain⟨o,g1,g2⟩:=M.liveT k x et;rw[ho]at g1;cases g1;simp[AO.isTok]at g2
 refine M.step (b:=b) u.below (fun b' _ hb'=>u.other b' hb') hkeep (fun b' j h=>.inl h) (fun j hs=>absurd hs (h5 j)) (.refl _) (fun _ _=>rfl) (fun _ _=>rfl)
  rfl (.inr ⟨_,ho,rfl,hk⟩) (fun b'=>by simp[AO.has,hk,eq_comm]) (by simp[AO.isTok]) (fun _=>ht) ?_
 exact⟨b,arr',e,hk,u.here,hn,fun j hj=>(hc j hj).mono hkeep _ (.refl _),h5⟩
theorem fT {w:World} {b o:Nat}:w.cell? ⟨b,o,none⟩=rd w b o:=by
 unfold World.cell? rd;cases w.heap[b]? with
 |none=>rfl
 |some x=>cases x<;>rfl
theorem M0 {w:World} {b o:Nat} {arr:Array Value} {e:TypeId} (h:w.heap[b]? =some (.cells arr e (0,0))):w.frozen? ⟨b,o,none⟩=false:=by
 simp[World.frozen?,h]
theorem yH {w:World} {b o:Nat} {arr:Array Value} {e:TypeId} (h:w.heap[b]? =some (.cells arr e (0,0))) (v:Value):
 Upd w (w.setCell ⟨b,o,none⟩ v) b (arr.setIfInBounds o v) e:=by
 have here:(w.setCell ⟨b,o,none⟩ v).heap[b]? =some (.cells (arr.setIfInBounds o v) e (0,0)):=by
  simp only[World.setCell,ahU,if_true,h,ahV];simp
 refine⟨.block b rfl rfl rfl (by simp[World.setCell]) (fun b' hb'=>Below.heap_setCell w _ v b' hb') (by rw[h];exact fJ _ _) (by rw[here];exact fJ _ _) (fun _=>by simp[bsz,h,here]),fun b' hb'=>Below.heap_setCell w _ v b' hb',?_⟩
 simp only[World.setCell,ahU,if_true,h,ahV];simp
theorem dX (b o n:Nat):(⟨b,o,none⟩:Addr).add n=⟨b,o+n,none⟩:=by
 unfold Addr.add;split
 ·subst_vars;rfl
 ·rfl
def putRow (arr:Array Value):Nat→List Value→Array Value
 |_,[]=>arr
 |o,v::vs=>putRow (arr.setIfInBounds o v) (o+1) vs
theorem eT (vs:List Value):∀(arr:Array Value) (o:Nat),(putRow arr o vs).size=arr.size:=by
 induction vs with
 |nil=>intro arr o;rfl
 |cons v vs ih=>intro arr o;simp[putRow,ih]
theorem ji (vs:List Value):∀(arr:Array Value) (o j:Nat),o+vs.length≤arr.size→
 (putRow arr o vs).getD j undef=if o≤j∧j<o+vs.length then vs.getD (j-o) undef else arr.getD j undef:=by
 induction vs with
 |nil=>intro arr o j h;simp only[putRow,ahG];rw[if_neg (by omega)]
 |cons v vs ih=>
  intro arr o j h;simp only[ahK]at h;rw[putRow,ih _ _ _ (by simp;omega)]
  by_cases h1:j=o
  ·subst h1
   rw[if_neg (by omega),if_pos (by simp only[ahK];omega)]
   simp[ahW,show j<arr.size by omega]
  ·by_cases h2:o+1≤j∧j<o+1+vs.length
   ·rw[if_pos h2,if_pos (by simp only[ahK];omega)]
    obtain⟨d,rfl⟩:∃d,j=o+1+d:=⟨j-(o+1),by omega⟩
    rw[show o+1+d-(o+1)=d by omega,show o+1+d-o=d+1 by omega];simp
   ·rw[if_neg h2,if_neg (by simp only[ahK];omega)]
    simp[ahW,Ne.symm h1]
theorem eH (P:Program) (vs:List Value):∀{w:World} {b o i:Nat} {arr:Array Value} {e:TypeId} (h:w.heap[b]? =some (.cells arr e (0,0)))
 (hv:∀v∈vs,v.oneCell'=true) (hsz:o+i+vs.length≤arr.size),∃w',(storeCells ⟨b,o,none⟩ vs i).run P w=.ok () w'∧Upd w w' b (putRow arr (o+i) vs) e:=by
 induction vs with
 |nil=>intro w b o i arr e h hv hsz;exact⟨w,rfl,⟨Bel.refl _,fun _ _=>rfl,h⟩⟩
 |cons v vs ih=>
  intro w b o i arr e h hv hsz;simp only[ahK]at hsz;have u:=yH (o:=o+i) h v;obtain⟨w',h1,h2⟩:=ih (o:=o) (i:=i+1) u.here (fun x hx=>hv x (List.mem_cons_of_mem _ hx)) (by simp;omega)
  refine⟨w',?_,⟨u.below.trans h2.below,fun b' hb'=>(h2.other b' hb').trans (u.other b' hb'),?_⟩⟩
  ·rw[storeCells]
   have hcell:w.cell? ⟨b,o+i,none⟩=some arr[o+i]:=by rw[fT,aN h,ahT (by omega)]
   simp only[Sem.run_bind,dX,run_store P w _ v _ (hv v (by simp)),hcell,M0 h,Result.andThen]
   simpa using h1
  ·have:=h2.here
   rw[show o+(i+1)=o+i+1 by omega]at this
   exact this
theorem run_loadCellsFrom (P:Program) {w:World} {b o:Nat} (n:Nat):∀(i:Nat) (acc:Array Value),(∀j,j<n→(rd w b (o+i+j)).isSome)→
 (loadCellsFrom ⟨b,o,none⟩ i n acc).run P w=.ok (acc++((ahX n).map fun j=>rdv w b (o+i+j)).toArray) w:=by
 induction n with
 |zero=>intro i acc h;simp[loadCellsFrom]
 |succ n ih=>
  intro i acc h;have h0:=h 0 (by omega)
  obtain⟨v,hv⟩:=ahY.1 h0;rw[loadCellsFrom];simp only[Sem.run_bind,dX,run_load,fT];rw[show o+i=o+i+0 by omega,hv]
  simp only[Result.andThen];rw[ih (i+1) _ (fun j hj=>by have:=h (j+1) (by omega);rwa [show o+i+(j+1)=o+(i+1)+j by omega]at this)]
  congr 1
  rw[List.range_succ_eq_map];simp only[List.map_cons,List.map_map];have e1:rdv w b (o+i+0)=v:=by unfold rdv;rw[hv];rfl
  rw[e1];apply Array.ext';simp only[Array.toList_append,Array.toList_push,List.append_assoc,List.singleton_append];congr 2;apply List.map_congr_left;intro j hj;simp only[Function.comp];congr 1;omega
theorem run_loadCells (P:Program) {w:World} {b o n:Nat} (h:∀j,j<n→(rd w b (o+j)).isSome):
 (loadCells ⟨b,o,none⟩ n).run P w=.ok ((ahX n).map fun j=>rdv w b (o+j)).toArray w:=by
 have:=run_loadCellsFrom P (w:=w) (b:=b) (o:=o) n 0 #[] (by simpa using h)
 simpa [loadCells]using this
theorem Mem.multi {S:Imm} {w w':World} {ι ι':Ix} {H H':Hp} (M:Mem S w ι H) (C:Nat→Prop) (below:Bel w w') (keeps:Keeps S w S w') (le:ι.le ι')
 (hH:∀k,¬C k→ay H' k=ay H k) (ho:∀k,¬C k→ι'.o k=ι.o k) (ht:∀k,¬C k→ι'.t k=ι.t k) (hx:∀k,¬C k→ι'.x k=ι.x k)
 (other:∀b,b<w.heap.size→(∀k o,C k→ay H k=some o→o.excl=true→¬o.has ι k b)→w'.heap[b]? =w.heap[b]?)
 (hobj:∀k o',C k→ay H' k=some o'→gP S w' ι' k o')
 (hblk:∀k o' b,C k→ay H' k=some o'→o'.has ι' k b→w.heap.size≤b∨∃k0 o0,C k0∧ay H k0=some o0∧o0.excl=true∧o0.has ι k0 b)
 (liveO:∀k b,C k→ι'.o k=some b→∃o,ay H' k=some o∧o.isTok=false) (liveT:∀k x,C k→ι'.t k=some x→∃o,ay H' k=some o∧o.isTok=true)
 (dist:∀k1 k2 o1 o2 b,C k1→C k2→ay H' k1=some o1→ay H' k2=some o2→o1.has ι' k1 b→o2.has ι' k2 b→k1=k2):
 Mem S w' ι' H'∧∀p,Tr p S w ι H S w' ι' H':=by
 have hne:∀k o b,¬C k→ay H k=some o→o.has ι k b→b<w.heap.size∧∀k0 o0,C k0→ay H k0=some o0→o0.excl=true→¬o0.has ι k0 b:=by
  intro k o b hk h1 h2;refine⟨(M.obj k o h1).lt h2,fun k0 o0 g1 g2 _ g4=>?_⟩;have:=M.dist k k0 o o0 b h1 g2 h2 g4;subst this;exact hk g1
 have hhas:∀k o b,¬C k→(AO.has ι' k o b↔AO.has ι k o b):=by
  intro k o b hk;cases o<;>simp[AO.has,ho k hk,ht k hk,hx k hk]
 have mixed:∀k1 k2 o1 o2 b,C k1→¬C k2→ay H' k1=some o1→ay H k2=some o2→o1.has ι' k1 b→o2.has ι k2 b→False:=by
  intro k1 k2 o1 o2 b c1 c2 h1 h2 b1 b2;obtain⟨hlt,hno⟩:=hne k2 o2 b c2 h2 b2;rcases hblk k1 o1 b c1 h1 b1 with h|⟨k0,o0,g1,g2,g3,g4⟩
  ·omega
  ·exact hno k0 o0 g1 g2 g3 g4
 refine⟨⟨fun k o h=>?_,fun k b h=>?_,fun k x h=>?_,fun k1 k2 o1 o2 b h1 h2 b1 b2=>?_,fun b j hs=>?_⟩,fun p=>⟨below,fun b hb hno=>?_,keeps,fun b j _ h=>.inl h,?_,fun k _ b h=>le.o k b h,fun k _ b n h=>le.t k b n h⟩⟩
 ·by_cases c:C k
  ·exact hobj k o c h
  ·rw[hH k c]at h
   refine(M.obj k o h).mono keeps le below (fun b hb=>?_) (fun _=>ht k c) (hx k c) (fun _ _ _ h=>h);obtain⟨h1,h2⟩:=hne k o b c h hb;exact other b h1 h2
 ·by_cases c:C k
  ·exact liveO k b c h
  ·rw[hH k c];rw[ho k c]at h;exact M.liveO k b h
 ·by_cases c:C k
  ·exact liveT k x c h
  ·rw[hH k c];rw[ht k c]at h;exact M.liveT k x h
 ·by_cases c1:C k1
  ·by_cases c2:C k2
   ·exact dist k1 k2 o1 o2 b c1 c2 h1 h2 b1 b2
   ·rw[hH k2 c2]at h2;exact(mixed k1 k2 o1 o2 b c1 c2 h1 h2 b1 ((hhas _ _ _ c2).1 b2)).elim
  ·rw[hH k1 c1]at h1
   by_cases c2:C k2
   ·exact(mixed k2 k1 o2 o1 b c2 c1 h2 h1 b2 ((hhas _ _ _ c1).1 b1)).elim
   ·rw[hH k2 c2]at h2;exact M.dist k1 k2 o1 o2 b h1 h2 ((hhas _ _ _ c1).1 b1) ((hhas _ _ _ c2).1 b2)
 ·rw[(keeps.imm b j hs).2];exact M.imm b j hs
 ·exact other b hb (fun k o _ h1 h2 h3=>hno ⟨k,o,h1,h2,h3⟩)
 ·rintro b ⟨k,o,h1,h2,h3⟩
  by_cases c:C k
  ·rcases hblk k o b c h1 h3 with h|⟨k0,o0,_,g2,g3,g4⟩
   ·exact .inr h
   ·exact .inl ⟨k0,o0,g2,g3,g4⟩
  ·rw[hH k c]at h1;exact .inl ⟨k,o,h1,h2,(hhas _ _ _ c).1 h3⟩
theorem Mem.stay {S:Imm} {w w':World} {ι:Ix} {H:Hp} (M:Mem S w ι H) {k:Nat} {o o':AO} (hk:ay H k=some o) (hx:o.excl=true) (hT:o.isTok=false) (hT':o'.isTok=false) (below:Bel w w') (keeps:Keeps S w S w')
 (other:∀b,¬o.has ι k b→w'.heap[b]? =w.heap[b]?) (hhas:∀b,o'.has ι k b→o.has ι k b) (hobj:gP S w' ι k o'):Mem S w' ι (aQ H k o')∧∀p,Tr p S w ι H S w' ι (aQ H k o'):=by
 have hg:ay (aQ H k o') k=some o':=by rw[bq];simp
 refine M.multi (fun k'=>k'=k) below keeps (.refl _) (fun k' h=>by rw[bq,if_neg h]) (fun _ _=>rfl) (fun _ _=>rfl) (fun _ _=>rfl)
  (fun b _ h=>other b (h k o rfl hk hx)) (fun k' o2 e h=>?_) (fun k' o2 b e h hb=>?_) (fun k' b e _=>?_) (fun k' x e h=>?_) (fun k1 k2 _ _ _ e1 e2 _ _ _ _=>e1.trans e2.symm)
 ·subst e;rw[hg]at h;cases h;exact hobj
 ·subst e;rw[hg]at h;cases h;exact .inr ⟨k',o,rfl,hk,hx,hhas b hb⟩
 ·subst e;exact⟨_,hg,hT'⟩
 ·subst e
  obtain⟨o3,g1,g2⟩:=M.liveT k' x h;rw[hk]at g1;cases g1;rw[hT]at g2;cases g2
theorem Mem.matOrd {S:Imm} {w w':World} {ι:Ix} {H:Hp} (M:Mem S w ι H) {k b0:Nat} {all l l':List Nat} {rc:RC} (hk:ay H k=some (.mat all l rc)) (hb0:ι.o k=some b0)
 {arr arr':Array Value} {e:TypeId} (h0:w.heap[b0]? =some (.cells arr e (0,0))) (u:Upd w w' b0 arr' e) (hsz:arr.size≤arr'.size) (hl:l'.length≤arr'.size)
 (hc:∀i,i<l'.length→l'.getD i 0∈all∧∃cap,(rc.at (l'.getD i 0)).cnt≤cap∧arr'.getD i undef=.slice (some ⟨l'.getD i 0,0,none⟩) (rc.at (l'.getD i 0)).cnt cap):
 Mem S w' ι (aQ H k (.mat all l' rc))∧Keeps S w S w'∧∀p,Tr p S w ι H S w' ι (aQ H k (.mat all l' rc)):=by
 obtain⟨b,arr0,e0,h1,h2,h3,h4,h5,h6,h7,h8⟩:=M.obj k _ hk;rw[hb0]at h1;cases h1
 have hkeep:Keeps S w S w':=u.keeps h0 hsz (fun j hs=>absurd hs (h4 j));have:=M.stay (o':=.mat all l' rc) hk rfl rfl rfl u.below hkeep (fun b hb=>u.other b (fun eb=>hb (by rw[eb];exact(h6 b0).2 (.inl rfl)))) (fun b hb=>hb)
  ⟨b0,arr',e,hb0,u.here,hl,h4,h5,h6,fun r hr=>(h7 r hr).mono hkeep (u.other r (fun er=>h5 (er▸hr))) (fun _ h=>h),hc⟩
 exact⟨this.1,hkeep,this.2⟩
theorem Mem.matRow {S:Imm} {w w':World} {ι:Ix} {H:Hp} (M:Mem S w ι H) {k b:Nat} {all l:List Nat} {rc rc':RC} (hk:ay H k=some (.mat all l rc)) (hb:b∈all)
 {arr arr':Array Value} {e:TypeId} (h0:w.heap[b]? =some (.cells arr e (0,0))) (u:Upd w w' b arr' e) (hsz:arr.size≤arr'.size)
 (hne:∀b',b'≠b→rc'.at b'=rc.at b') (hcnt:(rc'.at b).cnt=(rc.at b).cnt) (hn:(rc'.at b).ncell≤arr'.size) (hc:∀j,j<(rc'.at b).ncell→Rep S w noI ((rc'.at b).get j) (arr'.getD j undef)):
 Mem S w' ι (aQ H k (.mat all l rc'))∧Keeps S w S w'∧∀p,Tr p S w ι H S w' ι (aQ H k (.mat all l rc')):=by
 obtain⟨b0,arr0,e0,h1,h2,h3,h4,h5,h6,h7,h8⟩:=M.obj k _ hk;have hnS:∀j,¬S b j:=by obtain⟨_,_,_,_,_,g⟩:=h7 b hb;exact g
 have hkeep:Keeps S w S w':=u.keeps h0 hsz (fun j hs=>absurd hs (hnS j));have hcn:∀b',(rc'.at b').cnt=(rc.at b').cnt:=fun b'=>by
  by_cases eb:b'=b
  ·subst eb;exact hcnt
  ·rw[hne b' eb]
 have:=M.stay (o':=.mat all l rc') hk rfl rfl rfl u.below hkeep (fun b2 hb2=>u.other b2 (fun eb=>hb2 (by rw[eb];exact(h6 b).2 (.inr hb)))) (fun b hb=>hb)
  ⟨b0,arr0,e0,h1,(u.other b0 (fun eb=>h5 (eb▸hb))).trans h2,h3,h4,h5,h6,fun r hr=>?_,fun i hi=>?_⟩
 ·exact⟨this.1,hkeep,this.2⟩
 ·by_cases er:r=b
  ·subst er
   exact⟨arr',e,u.here,hn,fun j hj=>(hc j hj).mono hkeep _ (.refl _),hnS⟩
  ·rw[hne r er]
   exact(h7 r hr).mono hkeep (u.other r er) (fun _ h=>h)
 ·obtain⟨g1,cap,g2,g3⟩:=h8 i hi
  exact⟨g1,cap,by rw[hcn];exact g2,by rw[hcn];exact g3⟩
def Ix.setm (ι:Ix) (n b:Nat) (X:Nat→Prop):Ix:=⟨fun k=>if k=n then some b else ι.o k,ι.t,fun k=>if k=n then X else ι.x k⟩
theorem Y7 {ι:Ix} {n b:Nat} {X:Nat→Prop} (h:ι.o n=none):ι.le (ι.setm n b X):=
 ⟨fun k b' h'=>by
  by_cases e:k=n
  ·subst e;rw[h]at h';cases h'
  ·simp[Ix.setm,e,h'],fun k b' m h'=>⟨b',m,h',.inl ⟨rfl,ahO _⟩⟩⟩
theorem QF {ι:Ix} {n b k:Nat} {X:Nat→Prop} (h:k≠n):(ι.setm n b X).o k=ι.o k:=by simp[Ix.setm,h]
theorem acH {ι:Ix} {n b k:Nat} {X:Nat→Prop} (h:k≠n):(ι.setm n b X).x k=ι.x k:=by simp[Ix.setm,h]
theorem Mem.tok_none {S:Imm} {w:World} {ι:Ix} {H:Hp} (M:Mem S w ι H) {k:Nat} {o:AO} (h:ay H k=some o) (ho:o.isTok=false):ι.t k=none:=by
 cases et:ι.t k with
 |none=>rfl
 |some x=>obtain⟨o',g1,g2⟩:=M.liveT k x et;rw[h]at g1;cases g1;rw[ho]at g2;cases g2
theorem Mem.gather {S:Imm} {w w':World} {ι:Ix} {H:Hp} (M:Mem S w ι H) (ks:List Nat) {n bn:Nat} {o':AO} {X:Nat→Prop} {arrn:Array Value} {en:TypeId}
 (hks:∀k,k∈ks→∃o b,ay H k=some o∧o.excl=true∧o.isTok=false∧ι.o k=some b) (hn:ay H n=none) (hoT:o'.isTok=false) (hhas:∀b,o'.has (ι.setm n bn X) n b↔X b)
 (below:Bel w w') (hw:w'.heap[bn]? =some (.cells arrn en (0,0))) (other:∀b,b<w.heap.size→b≠bn→w'.heap[b]? =w.heap[b]?)
 (hbn:w.heap.size≤bn∨((∃k o,k∈ks∧ay H k=some o∧o.has ι k bn)∧∃arr e,w.heap[bn]? =some (.cells arr e (0,0))∧arr.size≤arrn.size)) (hnS:∀j,¬S bn j)
 (hX:∀b,X b→w.heap.size≤b∨∃k o,k∈ks∧ay H k=some o∧o.has ι k b)
 (hobj:Keeps S w S w'→ι.le (ι.setm n bn X)→gP S w' (ι.setm n bn X) n o') {H':Hp} (hH:∀k,ay H' k=if k=n then some o' else if k∈ks then some (.cells (.pv []) true)else ay H k):
 Mem S w' (ι.setm n bn X) H'∧ι.le (ι.setm n bn X)∧Keeps S w S w'∧∀p,Tr p S w ι H S w' (ι.setm n bn X) H':=by
 have le:ι.le (ι.setm n bn X):=Y7 (M.none_o hn);have hnk:n∉ks:=fun h=>by obtain⟨o,b,g,_⟩:=hks n h;rw[hn]at g;cases g
 have keeps:Keeps S w S w':=by
  refine⟨fun b j hs=>⟨hs,?_⟩,fun b j hs=>?_⟩
  ·by_cases e:b=bn
   ·subst e;exact absurd hs (hnS j)
   ·exact dh (other b (eY (M.imm b j hs)) e) j
  ·by_cases e:b=bn
   ·subst e
    rcases hbn with h|⟨_,arr,e,h1,h2⟩
    ·have:=eY hs;omega
    ·rw[aN h1]at hs
     rw[aN hw];have:j<arr.size:=by
      rcases ahP j arr.size with h3|h3
      ·exact h3
      ·rw[ahQ h3]at hs;simp at hs
     rw[ahT (by omega)];rfl
   ·rw[dh (other b (eY hs) e) j];exact hs
 have hmn:∀k,k∈ks→k≠n:=fun k hk e=>hnk (e▸hk);have hd:∀k,k∈ks→ay H' k=some (.cells (.pv []) true):=fun k hk=>by rw[hH,if_neg (hmn k hk),if_pos hk]
 have h0:ay H' n=some o':=by rw[hH,if_pos rfl]
 have:=M.multi (w':=w') (ι':=ι.setm n bn X) (H':=H') (fun k=>k=n∨k∈ks) below keeps le
  (fun k hc=>by rw[hH,if_neg (fun e=>hc (.inl e)),if_neg (fun e=>hc (.inr e))]) (fun k hc=>QF (fun e=>hc (.inl e))) (fun _ _=>rfl) (fun k hc=>acH (fun e=>hc (.inl e)))
  (fun b hb hno=>other b hb (fun e=>by
   subst e;rcases hbn with h|⟨⟨k,o,h1,h2,h3⟩,_⟩
   ·omega
   ·obtain⟨o2,b2,g1,g2,_⟩:=hks k h1
    rw[h2]at g1;cases g1
    exact hno k o (.inr h1) h2 g2 h3))
  (fun k o2 hc h=>by
   rcases hc with rfl|hk
   ·rw[h0]at h;cases h;exact hobj keeps le
   ·rw[hd k hk]at h;cases h
    obtain⟨o,b,_,_,_,g⟩:=hks k hk;exact⟨b,by rw[QF (hmn k hk)];exact g,fun j hj=>by simp[CL.ncell]at hj⟩)
  (fun k o2 b hc h hb=>by
   rcases hc with rfl|hk
   ·rw[h0]at h;cases h
    rcases hX b ((hhas b).1 hb)with h1|⟨k0,o0,h1,h2,h3⟩
    ·exact .inl h1
    ·obtain⟨o3,b3,g1,g2,_⟩:=hks k0 h1
     rw[h2]at g1;cases g1
     exact .inr ⟨k0,o0,.inr h1,h2,g2,h3⟩
   ·rw[hd k hk]at h;cases h;exact hb.elim)
  (fun k b hc h=>by
   rcases hc with rfl|hk
   ·exact⟨_,h0,hoT⟩
   ·exact⟨_,hd k hk,rfl⟩)
  (fun k x hc h=>by
   rcases hc with rfl|hk
   ·have h2:ι.t k=some x:=h
    rw[M.none_t hn]at h2;cases h2
   ·obtain⟨o,b,g1,_,g3,_⟩:=hks k hk
    have h2:ι.t k=some x:=h;rw[M.tok_none g1 g3]at h2;cases h2)
  (fun k1 k2 o1 o2 b c1 c2 h1 h2 b1 b2=>by
   rcases c1 with rfl|c1
   ·rcases c2 with rfl|c2
    ·rfl
    ·rw[hd k2 c2]at h2;cases h2;exact b2.elim
   ·rw[hd k1 c1]at h1;cases h1;exact b1.elim)
 exact⟨this.1,le,keeps,this.2⟩
theorem Mem.absorb {S:Imm} {w w':World} {ι:Ix} {H:Hp} (M:Mem S w ι H) {a n ba:Nat} {c:CL} (ha:ay H a=some (.cells c false)) (hn:ay H n=none) (hba:ι.o a=some ba)
 {rc:RC} (hrc:∀b,rc.at b=c) (hno:∀j,j<c.ncell→∀v,Rep S w ι (c.get j) v→Rep S w noI (c.get j) v) {arr:Array Value} {e:TypeId} (hsz:1≤arr.size) {cap:Nat} (hcap:c.cnt≤cap)
 (harr:arr.getD 0 undef=.slice (some ⟨ba,0,none⟩) c.cnt cap) (hheap:w'.heap=w.heap.push (.cells arr e)) (hbelow:Bel w w'):
 ∃X,Mem S w' (ι.setm n w.heap.size X) (aQ (aQ H a (.cells (.pv []) true)) n (.pmat 1 rc))∧ι.le (ι.setm n w.heap.size X)∧Keeps S w S w'∧∀p,Tr p S w ι H S w' (ι.setm n w.heap.size X) (aQ (aQ H a (.cells (.pv []) true)) n (.pmat 1 rc)):=by
 obtain⟨b,arr0,e0,h1,h2,h3,h4,h5⟩:=M.obj a _ ha;rw[hba]at h1;cases h1
 have hlt:=lt_of_heap h2;have old:∀b',b'<w.heap.size→w'.heap[b']? =w.heap[b']? :=fun b' hb'=>by rw[hheap,ahS,if_neg (by omega)]
 refine⟨fun b=>b=w.heap.size∨b=ba,M.gather [a] (o':=.pmat 1 rc) (arrn:=arr) (en:=e) (fun k hk=>by simp at hk;subst hk;exact⟨_,_,ha,rfl,rfl,hba⟩) hn rfl (fun b=>by simp[AO.has,Ix.setm]) hbelow (by rw[hheap];simp) (fun b hb _=>old b hb)
  (.inl (ahO _)) (fun j hs=>by have:=eY (M.imm _ _ hs);omega) (fun b hb=>?_) (fun hk hl=>?_) (fun k=>by rw[bq,bq];simp)⟩
 ·rcases hb with rfl|rfl
  ·exact .inl (ahO _)
  ·exact .inr ⟨a,_,by simp,ha,hba⟩
 ·refine⟨[ba],[ba],rc,⟨w.heap.size,arr,e,by simp[Ix.setm],by rw[hheap];simp,by simpa using hsz,fun j hs=>by have:=eY (M.imm _ _ hs);omega,by simp;omega,fun b'=>by simp[Ix.setm],fun r hr=>?_,fun i hi=>?_⟩,RC.kin_refl _,rfl,by simp,fun b hb=>hb,fun i hi=>by rw[hrc,hrc]⟩
  ·simp at hr;subst hr
   rw[hrc];exact⟨arr0,e0,(old _ hlt).trans h2,h3,fun j hj=>(hno j hj _ (h4 j hj)).mono hk _ (.refl _),h5⟩
  ·simp at hi;subst hi
   refine⟨by simp,cap,?_,?_⟩
   ·rw[hrc];exact hcap
   ·rw[hrc];simpa using harr
theorem Mem.matApp {S:Imm} {w w':World} {ι:Ix} {H:Hp} (M:Mem S w ι H) {k d n m r b0 bd bn:Nat} {rc0 rc rc2:RC} (hk:ay H k=some (.pmat m rc0)) (hd:ay H d=some (.pmat r rc)) (hn:ay H n=none) (hkd:k≠d)
 (hb0:ι.o k=some b0) (hbd:ι.o d=some bd) (hkin:rc0.kin rc) (hkin2:rc2.kin rc0) (hrc2:∀i,rc2.at i=if i<m then rc0.at i else rc.at (i-m))
 {arrn:Array Value} {en:TypeId} (below:Bel w w') (hw:w'.heap[bn]? =some (.cells arrn en (0,0))) (other:∀b,b<w.heap.size→b≠bn→w'.heap[b]? =w.heap[b]?)
 (hbn:w.heap.size=bn∨(bn=b0∧∃arr e,w.heap[bn]? =some (.cells arr e (0,0))∧arr.size≤arrn.size)) (hsz:m+r≤arrn.size)
 (hold:∀i,i<m→some (arrn.getD i undef)=rd w b0 i) (hnew:∀i,i<r→some (arrn.getD (m+i) undef)=rd w bd i):
 ∃X,Mem S w' (ι.setm n bn X) (aQ (aQ (aQ H k (.cells (.pv []) true)) d (.cells (.pv []) true)) n (.pmat (m+r) rc2))∧ι.le (ι.setm n bn X)∧Keeps S w S w'∧
  ∀p,Tr p S w ι H S w' (ι.setm n bn X) (aQ (aQ (aQ H k (.cells (.pv []) true)) d (.cells (.pv []) true)) n (.pmat (m+r) rc2)):=by
 obtain⟨allk,lk,rk,⟨b1,arrk,ek,p1,p2,p3,p4,p5,p6,p7,p8⟩,pk,pl,pn,pall,pa⟩:=M.obj k _ hk;obtain⟨alld,ld,rd',⟨b2,arrd,ed,q1,q2,q3,q4,q5,q6,q7,q8⟩,qk,ql,qn,qall,qa⟩:=M.obj d _ hd;rw[hb0]at p1;cases p1
 rw[hbd]at q1;cases q1
 have gU:∀b,ι.x k b→ι.x d b→False:=fun b h1 h2=>hkd (M.dist k d _ _ b hk hd h1 h2);have xk:∀{b},b∈allk→ι.x k b:=fun h=>(p6 _).2 (.inr h);have xd:∀{b},b∈alld→ι.x d b:=fun h=>(q6 _).2 (.inr h);have ltk:∀{b},ι.x k b→b<w.heap.size:=fun h=>(M.obj k _ hk).lt h;have ltd:∀{b},ι.x d b→b<w.heap.size:=fun h=>(M.obj d _ hd).lt h;have hbn0:∀{b},b∈allk→b≠bn:=fun{b} h e=>by
  rcases hbn with h1|⟨h1,_⟩
  ·have:=ltk (xk h);omega
  ·rw[e,h1]at h;exact p5 h
 have hbn1:∀{b},b∈alld→b≠bn:=fun{b} h e=>by
  rcases hbn with h1|⟨h1,_⟩
  ·have:=ltd (xd h);omega
  ·exact gU b ((p6 b).2 (.inl (e.trans h1))) (xd h)
 have hj:rk.kin rd':=RC.kin_trans (RC.kin_trans pk hkin) (RC.kin_symm qk);have jat:=RC.join_at hj allk;have jd:∀{b},b∈alld→b∉allk:=fun h h'=>gU _ (xk h') (xd h);have getl:∀i,(lk++ld).getD i 0=if i<m then lk.getD i 0 else ld.getD (i-m) 0:=fun i=>by
  rw[ahZ];split
  ·rw[List.getElem?_append_left (by omega),ahZ]
  ·rw[List.getElem?_append_right (by omega),ahZ,pl]
 refine⟨fun b=>b=bn∨b∈allk++alld,M.gather [k,d] (o':=.pmat (m+r) rc2) (arrn:=arrn) (en:=en) (fun k' hk'=>?_) hn rfl (fun b=>by simp[AO.has,Ix.setm]) below hw other ?_ (fun j hs=>?_) (fun b hb=>?_) (fun hkp hl=>?_) (fun k'=>?_)⟩
 ·simp at hk'
  rcases hk' with rfl|rfl
  ·exact⟨_,_,hk,rfl,rfl,hb0⟩
  ·exact⟨_,_,hd,rfl,rfl,hbd⟩
 ·rcases hbn with h1|⟨h1,h2⟩
  ·exact .inl (by omega)
  ·exact .inr ⟨⟨k,_,by simp,hk,(p6 _).2 (.inl h1)⟩,h2⟩
 ·rcases hbn with h1|⟨h1,_⟩
  ·have:=eY (M.imm _ _ hs);omega
  ·rw[h1]at hs;exact p4 j hs
 ·rcases hb with rfl|hb
  ·rcases hbn with h1|⟨h1,_⟩
   ·exact .inl (by omega)
   ·exact .inr ⟨k,_,by simp,hk,(p6 _).2 (.inl h1)⟩
  ·rcases ah0.1 hb with h|h
   ·exact .inr ⟨k,_,by simp,hk,xk h⟩
   ·exact .inr ⟨d,_,by simp,hd,xd h⟩
 ·refine⟨allk++alld,lk++ld,rk.join allk rd',⟨bn,arrn,en,by simp[Ix.setm],hw,by simp;omega,fun j hs=>?_,?_,fun b'=>by simp[Ix.setm],fun x hx=>?_,fun i hi=>?_⟩,?_,by simp;omega,?_,fun b hb=>?_,fun i hi=>?_⟩
  ·rcases hbn with h1|⟨h1,_⟩
   ·have:=eY (M.imm _ _ hs);omega
   ·rw[h1]at hs;exact p4 j hs
  ·intro h
   rcases ah0.1 h with h|h
   ·exact hbn0 h rfl
   ·exact hbn1 h rfl
  ·rw[jat]
   rcases ah0.1 hx with h|h
   ·rw[if_pos h];exact(p7 x h).mono hkp (other x (ltk (xk h)) (hbn0 h)) (fun _ h=>h)
   ·rw[if_neg (jd h)];exact(q7 x h).mono hkp (other x (ltd (xd h)) (hbn1 h)) (fun _ h=>h)
  ·simp only[List.length_append]at hi
   rw[getl];split
   ·rename_i him
    obtain⟨g1,cap,g2,g3⟩:=p8 i (by omega)
    rw[jat,if_pos g1];refine⟨ah1 _ g1,cap,g2,?_⟩;have:=hold i him;rw[aN p2,ahT (by omega)]at this
    rw[Option.some.inj this,←g3,ahW,ahT (by omega)];rfl
   ·rename_i him
    obtain⟨g1,cap,g2,g3⟩:=q8 (i-m) (by omega)
    rw[jat,if_neg (jd g1)];refine⟨ah2 _ g1,cap,g2,?_⟩;have:=hnew (i-m) (by omega)
    rw[show m+(i-m)=i by omega,aN q2,ahT (by omega)]at this
    rw[Option.some.inj this,←g3,ahW,ahT (by omega)];rfl
  ·exact RC.kin_trans (RC.kin_trans (RC.join_kin hj allk) pk) (RC.kin_symm hkin2)
  ·refine List.nodup_append.2 ⟨pn,qn,fun a ha b hb e=>?_⟩
   subst e;obtain⟨i,hi,rfl⟩:=ah3 ha;obtain⟨j,hj,e2⟩:=ah3 hb;have g1:=(p8 i hi).1;have g2:=(q8 j hj).1;rw[ahZ,ah4 hi]at g1;rw[ahZ,ah4 hj]at g2;simp only[ah5]at g1 g2;rw[e2]at g2;exact jd g2 g1
  ·rcases ah0.1 hb with h|h
   ·exact ah1 _ (pall b h)
   ·exact ah2 _ (qall b h)
  ·rw[getl,hrc2]
   split
   ·rename_i him
    rw[jat,if_pos (p8 i (by omega)).1,pa i him]
   ·rename_i him
    rw[jat,if_neg (jd (q8 (i-m) (by omega)).1),qa (i-m) (by omega)]
 ·rw[bq,bq,bq]
  by_cases e1:k'=n
  ·rw[if_pos e1,if_pos e1]
  ·rw[if_neg e1,if_neg e1]
   by_cases e2:k'=d
   ·rw[if_pos e2,if_pos (by simp[e2])]
   ·rw[if_neg e2]
    by_cases e3:k'=k
    ·rw[if_pos e3,if_pos (by simp[e3])]
    ·rw[if_neg e3,if_neg (by simp[e2,e3])]
theorem Mem.matNew {S:Imm} {w w':World} {ι:Ix} {H:Hp} (M:Mem S w ι H) {d n r bd:Nat} {rc:RC} (hd:ay H d=some (.pmat r rc)) (hn:ay H n=none) (hbd:ι.o d=some bd)
 {arrn:Array Value} {en:TypeId} (below:Bel w w') (hw:w'.heap[w.heap.size]? =some (.cells arrn en (0,0))) (other:∀b,b<w.heap.size→w'.heap[b]? =w.heap[b]?)
 (hsz:r≤arrn.size) (hnew:∀i,i<r→some (arrn.getD i undef)=rd w bd i):
 ∃X,Mem S w' (ι.setm n w.heap.size X) (aQ (aQ H d (.cells (.pv []) true)) n (.pmat r rc))∧ι.le (ι.setm n w.heap.size X)∧Keeps S w S w'∧
  ∀p,Tr p S w ι H S w' (ι.setm n w.heap.size X) (aQ (aQ H d (.cells (.pv []) true)) n (.pmat r rc)):=by
 obtain⟨alld,ld,rd',⟨b2,arrd,ed,q1,q2,q3,q4,q5,q6,q7,q8⟩,qk,ql,qn,qall,qa⟩:=M.obj d _ hd;rw[hbd]at q1;cases q1
 have xd:∀{b},b∈alld→ι.x d b:=fun h=>(q6 _).2 (.inr h);have ltd:∀{b},ι.x d b→b<w.heap.size:=fun h=>(M.obj d _ hd).lt h;have hnS:∀j,¬S w.heap.size j:=fun j hs=>by have:=eY (M.imm _ _ hs);omega
 refine⟨fun b=>b=w.heap.size∨b∈alld,M.gather [d] (o':=.pmat r rc) (arrn:=arrn) (en:=en) (fun k' hk'=>by simp at hk';subst hk';exact⟨_,_,hd,rfl,rfl,hbd⟩) hn rfl (fun b=>by simp[AO.has,Ix.setm]) below hw (fun b hb _=>other b hb)
  (.inl (ahO _)) hnS (fun b hb=>?_) (fun hkp hl=>?_) (fun k=>by rw[bq,bq];simp)⟩
 ·rcases hb with rfl|hb
  ·exact .inl (ahO _)
  ·exact .inr ⟨d,_,by simp,hd,xd hb⟩
 ·refine⟨alld,ld,rd',⟨w.heap.size,arrn,en,by simp[Ix.setm],hw,by omega,hnS,fun h=>by have:=ltd (xd h);omega,fun b'=>by simp[Ix.setm],fun x hx=>(q7 x hx).mono hkp (other x (ltd (xd hx))) (fun _ h=>h),fun i hi=>?_⟩,qk,ql,qn,qall,qa⟩
  obtain⟨g1,cap,g2,g3⟩:=q8 i hi;refine⟨g1,cap,g2,?_⟩;have:=hnew i (by omega)
  rw[aN q2,ahT (by omega)]at this
  rw[Option.some.inj this,←g3,ahW,ahT (by omega)];rfl
def inR (k:IntKind) (n:Int):Prop:=
 match k with
 |.i8=> -128≤n∧n≤127
 |.i16=> -32768≤n∧n≤32767
 |.i32=> -2147483648≤n∧n≤2147483647
 |.i64=> -9223372036854775808≤n∧n≤9223372036854775807
 |.u8=>0≤n∧n≤255
 |.u16=>0≤n∧n≤65535
 |.u32=>0≤n∧n≤4294967295
 |.u64=>0≤n∧n≤18446744073709551615
theorem sG {k:IntKind} {n:Int} (h:inR k n):k.wrap n=n:=by
 cases k<;>simp only[inR]at h<;>simp only[IntKind.wrap,IntKind.bits,IntKind.signed]<;>simp<;>omega
def one:PV→Bool
 |.any=>false
 |.agg _=>false
 |.tup _=>false
 |_=>true
def setCells:List PV→Nat→List PV→List PV
 |l,_,[]=>l
 |l,o,p::ps=>setCells (l.set o p) (o+1) ps
def om:List PV→Bool
 | []=>true
 |p::ps=>match one p with|true=>om ps|false=>false
theorem o7 (l:List PV) (h:om l=true):∀i,i<l.length→one (aD l i)=true:=by
 induction l with
 |nil=>intro i hi;simp at hi
 |cons p ps ih=>
  intro i hi;unfold om at h;cases hp:one p with
  |false=>rw[hp]at h;cases h
  |true=>
   rw[hp]at h;cases i with
   |zero=>exact hp
   |succ i=>exact ih h i (by simpa using hi)
def ifK (b:Bool) (k:Prop):Prop:=match b with|true=>k|false=>False
def vP (agg:Bool) (size:Nat) (v:PV) (k:List PV→Prop):Prop:=
 match agg with
 |true=>match v with
  |.agg cs=>ifK (ah6 cs.length size&&om cs) (k cs)
  |_=>False
 |false=>ifK (one v) (ifK (ah6 size 1) (k [v]))
def ranged:Nat→Nat→List Nat
 |_,0=>[]
 |a,n+1=>a::ranged (a+1) n
def CL.gets (c:CL) (off:Nat):Nat→List PV
 |0=>[]
 |n+1=>c.get off::CL.gets c (off+1) n
def Ad (c:CL) (n:Nat) (k:Prop):Prop:=
 match c with
 |.pv cs=>ifK (ah7 n cs.length) k
 |c=>n≤c.ncell∧k
def rdK (te:TE) (c:CL) (off:Nat) (k:PV→Prop):Prop:=
 match te.isAgg with
 |true=>Ad c (off+te.size) (bN (c.gets off te.size) fun cs=>k (.agg cs))
 |false=>Ad c (off+1) (bM (c.get off) k)
def wrK (c:CL) (off:Nat) (cs:List PV) (k:CL→Prop):Prop:=
 match c with
 |.pv ds=>ifK (ah7 (off+cs.length) ds.length) (bN (setCells ds off cs) fun es=>k (.pv es))
 |.ints q xs=>match cs with
  | [.int q' n]=>ifK (decide (q=q')) (off<xs.length∧k (.ints q (xs.set off n)))
  |_=>False
 |.bools xs=>match cs with
  | [.bp b]=>off<xs.length∧k (.bools (xs.set off b))
  | [.bool b]=>off<xs.length∧k (.bools (xs.set off b))
  |_=>False
 |.strs xs=>match cs with
  | [.str s]=>off<xs.length∧k (.strs (xs.set off s))
  |_=>False
 |.rows q xss=>match cs with
  | [.isl (.ints q' ys) _]=>ifK (decide (q=q')) (off<xss.length∧k (.rows q (xss.set off ys)))
  | [.nils]=>off<xss.length∧k (.rows q (xss.set off []))
  |_=>False
 |_=>False
def CL.sub (c:CL) (a b:Nat):CL:=
 match c with
 |.pv cs=>.pv ((cs.drop a).take (b-a))
 |.ints k xs=>.ints k ((xs.drop a).take (b-a))
 |.bools xs=>.bools ((xs.drop a).take (b-a))
 |.strs xs=>.strs ((xs.drop a).take (b-a))
 |.rows k xss=>.rows k ((xss.drop a).take (b-a))
 |.recs m rs=>.recs m ((rs.drop a).take (b-a))
 |.gen _ f=>.gen (b-a) (fun i=>f (a+i))
 |.genr m _ f=>.genr m (b-a) (fun i=>f (a+i))
def F3 (c d:CL) (k:CL→Prop):Prop:=
 match c,d with
 |.pv xs,.pv ys=>k (.pv (xs++ys))
 |.ints q xs,.ints q' ys=>ifK (decide (q=q')) (k (.ints q (xs++ys)))
 |.bools xs,.bools ys=>k (.bools (xs++ys))
 |.strs xs,.strs ys=>k (.strs (xs++ys))
 |.rows q xs,.rows q' ys=>ifK (decide (q=q')) (k (.rows q (xs++ys)))
 |.recs m xs,.recs m' ys=>ifK (ah6 m m') (k (.recs m (xs++ys)))
 |_,_=>False
abbrev KR:=PV→List (Nat × AO)→List Nat→List Nat→Prop
def dV (H:Hp) (n:Nat) (k:Prop):Prop:=match ay H n with|none=>k|some _=>False
def arK (md:Nat) (k:IntKind) (n:Int) (K:PV→Prop):Prop:=
 match md with
 |2=>K (.int k (k.wrap n))
 |_=>inR k n∧K (.int k n)
def M8 (md:Nat) (op:BinOp) (a:IntKind) (m n:Int) (K:PV→Prop):Prop:=
 match op with
 |.add=>arK md a (m+n) K
 |.sub=>arK md a (m-n) K
 |.mul=>arK md a (m*n) K
 |.quo=>match md with
  |0=>(0≤m∧0<n∧inR a (m / n))∧K (.int a (m / n))
  |1=>(n≠0∧inR a (m.tdiv n))∧K (.int a (m.tdiv n))
  |_=>n≠0∧K (.int a (a.wrap (m.tdiv n)))
 |.rem=>match md with
  |0=>(0≤m∧0<n)∧K (.int a (m % n))
  |_=>n≠0∧K (.int a (m.tmod n))
 |.eql=>K (.bp (decide (m=n)))
 |.neq=>K (.bp (decide (m≠n)))
 |.lss=>K (.bp (decide (m<n)))
 |.leq=>K (.bp (decide (m≤n)))
 |.gtr=>K (.bp (decide (n<m)))
 |.geq=>K (.bp (decide (n≤m)))
 |.and=>K (.int a (a.wrap (ah8 a.bits m&&& ah8 a.bits n).toNat))
 |.or=>K (.int a (a.wrap (ah8 a.bits m|||ah8 a.bits n).toNat))
 |.xor=>K (.int a (a.wrap (ah8 a.bits m ^^^ ah8 a.bits n).toNat))
 |.andNot=>K (.int a (a.wrap (ah8 a.bits m&&& ~~~ah8 a.bits n).toNat))
 |_=>False
def Uv (op:BinOp) (x y:ByteArray) (K:PV→Prop):Prop:=
 match op with
 |.add=>x.size+y.size≤9223372036854775807∧K (.str (x++y))
 |.eql=>K (.bp (decide (x=y)))
 |.neq=>K (.bp (decide (x≠y)))
 |.lss=>K (.bp (Op.bytesLess x.toList y.toList))
 |_=>False
def yX (op:BinOp) (x y:Bool) (K:PV→Prop):Prop:=
 match op with
 |.eql=>K (.bp (x==y))
 |.neq=>K (.bp (!(x==y)))
 |_=>False
def M9 (k:CK) (c d:PV) (K:Bool→Prop):Prop:=
 match k with
 |.int q=>match c with
  |.int a m=>match d with
   |.int b n=>ifK (decide (a=q)&&decide (b=q)) (K (decide (m=n)))
   |_=>False
  |_=>False
 |.str=>match c with
  |.str s=>match d with
   |.str t=>K (decide (s=t))
   |_=>False
  |_=>False
 |.bool=>match c with
  |.bp s=>match d with
   |.bp t=>K (s==t)
   |_=>False
  |_=>False
def flatK:List CK→List PV→List PV→(Bool→Prop)→Prop
 | [],cs,ds,K=>match cs with
  | []=>match ds with
   | []=>K true
   |_::_=>False
  |_::_=>False
 |k::r,cs,ds,K=>match cs with
  | []=>False
  |c::cs=>match ds with
   | []=>False
   |d::ds=>M9 k c d fun b=>flatK r cs ds fun t=>K (b&&t)
def Uw (md:Nat) (op:BinOp) (te:TE) (x y:PV) (K:PV→Prop):Prop:=
 match x with
 |.agg cs=>match y with
  |.agg ds=>match te.cmp with
   |some ks=>match op with
    |.eql=>flatK ks cs ds fun r=>K (.bp r)
    |.neq=>flatK ks cs ds fun r=>K (.bp (!r))
    |_=>False
   |none=>False
  |_=>False
 |.int a m=>match y with
  |.int b n=>match op with
   |.shl=>(0≤n∧n.toNat≤a.bits)∧arK md a (m*2 ^ n.toNat) K
   |.shr=>(0≤n∧n.toNat≤a.bits∧0≤m)∧K (.int a (m / 2 ^ n.toNat))
   |op=>ifK (decide (a=b)) (M8 md op a m n K)
  |_=>False
 |.str s=>match y with
  |.str t=>Uv op s t K
  |_=>False
 |.bp s=>match te.und with
  |.bool=>match y with
   |.bp t=>yX op s t K
   |.bool t=>yX op s t K
   |_=>False
  |_=>False
 |.bool s=>match te.und with
  |.bool=>match y with
   |.bp t=>yX op s t K
   |.bool t=>yX op s t K
   |_=>False
  |_=>False
 |.isl c _=>match y with
  |.nils=>match te.und with
   |.slice _=>match op with
    |.eql=>(c.cnt≠0)∧K (.bp false)
    |.neq=>(c.cnt≠0)∧K (.bp true)
    |_=>False
   |_=>False
  |_=>False
 |.nils=>match y with
  |.nils=>match te.und with
   |.slice _=>match op with
    |.eql=>K (.bool true)
    |.neq=>K (.bool false)
    |_=>False
   |_=>False
  |_=>False
 |.rsl _ _ _=>match y with
  |.nils=>match te.und with
   |.slice _=>match op with
    |.eql=>K (.bool false)
    |.neq=>K (.bool true)
    |_=>False
   |_=>False
  |_=>False
 |_=>False
def unK (md:Nat) (op:UnOp) (x:PV) (K:PV→Prop):Prop:=
 match op with
 |.not=>match x with
  |.bp b=>K (.bp (!b))
  |.bool b=>match b with|true=>K (.bool false)|false=>K (.bool true)
  |_=>False
 |.neg=>match x with
  |.int k n=>arK md k (0-n) K
  |_=>False
 |_=>False
def Xz (md:Nat) (td:TE) (x:PV) (K:PV→Prop):Prop:=
 match td.und with
 |.int k=>match x with
  |.int _ n=>arK md k n K
  |_=>False
 |.string=>match x with
  |.str s=>K (.str s)
  |_=>False
 |_=>False
def fu:PV→Option PV
 |.int k n=>some (.int k n)
 |.bool b=>some (.bool b)
 |.bp b=>some (.bp b)
 |.str s=>some (.str s)
 |.nilf=>some .nilf
 |.nils=>some .nils
 |.nilp=>some .nilp
 |.nilm=>some .nilm
 |.nili=>some .nili
 |.isl c .full=>some (.isl c .full)
 |.isl c _=>some (.isl c .none)
 |.ip c o=>some (.ip c o)
 |.ipe c i j=>some (.ipe c i j)
 |.fv f us vs=>some (.fv f us vs)
 |.fn f us vs=>match inlF us with
  |true=>match inlF vs with
   |true=>some (.fn f us vs)
   |false=>none
  |false=>none
 |_=>none
where
 inlF:List PV→Bool
  | []=>true
  |x::xs=>match x with
   |.int _ _=>inlF xs
   |.bool _=>inlF xs
   |.bp _=>inlF xs
   |.str _=>inlF xs
   |.nilf=>inlF xs
   |.nils=>inlF xs
   |.nilp=>inlF xs
   |.isl _ .none=>inlF xs
   |.isl _ .full=>inlF xs
   |.ip _ _=>inlF xs
   |.ipe _ _ _=>inlF xs
   |.fv _ _ _=>inlF xs
   |_=>false
def mg:List PV→Option (List PV)
 | []=>some []
 |x::xs=>match fu x with
  |some y=>match mg xs with
   |some ys=>some (y::ys)
   |none=>none
  |none=>none
def sH (k:IntKind):List PV→Option (List Int)
 | []=>some []
 |.int k' n::r=>match decide (k=k')with
  |true=>match sH k r with|some l=>some (n::l)|none=>none
  |false=>none
 |_=>none
def nA:List PV→Option (List Bool)
 | []=>some []
 |.bp n::r=>match nA r with|some l=>some (n::l)|none=>none
 |.bool n::r=>match nA r with|some l=>some (n::l)|none=>none
 |_=>none
def strsOf:List PV→Option (List ByteArray)
 | []=>some []
 |.str n::r=>match strsOf r with|some l=>some (n::l)|none=>none
 |_=>none
def rowsOf (k:IntKind):List PV→Option (List (List Int))
 | []=>some []
 |.isl (.ints k' n) _::r=>match decide (k=k')with
  |true=>match rowsOf k r with|some l=>some (n::l)|none=>none
  |false=>none
 |.nils::r=>match rowsOf k r with|some l=>some ([]::l)|none=>none
 |_=>none
def Ux (z:Value) (els:List PV) (K:CL→Prop):Prop:=
 match z with
 |.int k _=>match sH k els with|some l=>K (.ints k l)|none=>False
 |.bool _=>match nA els with|some l=>K (.bools l)|none=>False
 |.string _=>match strsOf els with|some l=>K (.strs l)|none=>False
 |.slice _ _ _=>match rowsOf .i64 els with
  |some l=>K (.rows .i64 l)
  |none=>match mg els with|some l=>K (.pv l)|none=>False
 |_=>match mg els with|some l=>K (.pv l)|none=>False
def mkK (z:Value) (n:Nat) (K:CL→Prop):Prop:=
 match z with
 |.int k x=>K (.ints k (ah9 n x))
 |.bool x=>K (.bools (ah9 n x))
 |.string x=>K (.strs (ah9 n x))
 |.slice none 0 0=>K (.rows .i64 (ah9 n []))
 |_=>False
def jT (l:List PV) (esz:Nat):List (Nat × PV)→Option (List PV)
 | []=>some l
 |(i,v)::r=>match v with
  |.agg cs=>match ah6 cs.length esz&&ah7 (i*esz+esz) l.length with
   |true=>jT (setCells l (i*esz) cs) esz r
   |false=>none
  |v=>match one v&&ah6 esz 1&&ah7 (i+1) l.length with
   |true=>jT (l.set i v) esz r
   |false=>none
def q9 (k:List PV→Prop):List PV→List PV→Nat→Prop
 | [],l,_=>k l
 |p::ps,l,o=>rU l o p fun l'=>q9 k ps l' (o+1)
theorem F4 (k:List PV→Prop):∀(ps l:List PV) (o:Nat),q9 k ps l o=k (setCells l o ps):=by
 intro ps;induction ps with
 |nil=>intro l o;rfl
 |cons p ps ih=>intro l o;simp only[q9,mZ,ih,setCells]
def vQ (esz:Nat) (k:List PV→Prop):List (Nat × PV)→List PV→Prop
 | [],l=>k l
 |(i,v)::r,l=>bM v fun v=>match v with
  |.agg cs=>ifK (ah6 cs.length esz&&ah7 (i*esz+esz) l.length) (q9 (fun l'=>vQ esz k r l') cs l (i*esz))
  |v=>ifK (one v&&ah6 esz 1&&ah7 (i+1) l.length) (rU l i v fun l'=>vQ esz k r l')
theorem QG (esz:Nat) (k:List PV→Prop):∀(ps:List (Nat × PV)) (l:List PV),vQ esz k ps l=(match jT l esz ps with|some cs=>k cs|none=>False):=by
 intro ps;induction ps with
 |nil=>intro l;rfl
 |cons x r ih=>
  intro l;obtain⟨i,v⟩:=x;unfold vQ jT;rw[bH];cases v<;>simp only[ifK,F4,mZ,ih]<;>(split<;>simp_all)
def ru (l:List PV) (pl:List (Nat × Nat)):List (Nat × PV)→Option (List PV)
 | []=>some l
 |(i,v)::r=>match pl[i]? with
  |none=>none
  |some (o,sz)=>match v with
   |.agg cs=>match ah6 cs.length sz&&ah7 (o+sz) l.length with
    |true=>ru (setCells l o cs) pl r
    |false=>none
   |v=>match one v&&ah6 sz 1&&ah7 (o+1) l.length with
    |true=>ru (l.set o v) pl r
    |false=>none
abbrev CPT:=FuncId→List PV→Nat→Hp→KR→Prop
def teK (τ:TypeId→Option TE) (t:TypeId) (k:TE→Prop):Prop:=match τ t with|some te=>k te|none=>False
def placesOf (τ:TypeId→Option TE):List Field→Option (List (Nat × Nat))
 | []=>some []
 |f::fs=>match τ f.type with
  |some te=>match placesOf τ fs with
   |some l=>some ((f.offset,te.size)::l)
   |none=>none
  |none=>none
def partsOf (ρ:Operand→PV):List (Nat × Operand)→List (Nat × PV)
 | []=>[]
 |(i,x)::r=>(i,ρ x)::partsOf ρ r
def kQ (ρ:Operand→PV):List Operand→List PV
 | []=>[]
 |x::r=>ρ x::kQ ρ r
def lJ:Nat→List PV
 |0=>[]
 |n+1=>.any::lJ n
def chunks (m:Nat):Nat→List PV→List (List PV)
 |0,_=>[]
 |n+1,l=>l.take m::chunks m n (l.drop m)
def gT (n:Nat):List Nat→Bool
 | []=>false
 |m::r=>match ah6 n m with|true=>true|false=>gT n r
def iK (c:CL) (K:Nat→Prop):Prop:=
 match c with
 |.pv cs=>K cs.length
 |.ints _ xs=>K xs.length
 |.bools xs=>K xs.length
 |.strs xs=>K xs.length
 |.rows _ xss=>K xss.length
 |.recs _ rs=>K rs.length
 |.gen n _=>K n
 |.genr _ n _=>K n
theorem dZ (c:CL) (K:Nat→Prop):iK c K=K c.cnt:=by cases c<;>rfl
def nC (c:CL) (K:Nat→Prop):Prop:=
 match c with
 |.recs m _=>K m
 |.genr m _ _=>K m
 |_=>K 1
theorem gM (c:CL) (K:Nat→Prop):nC c K=K c.esz:=by cases c<;>rfl
def Ae (s:ByteArray) (z:PV) (ok:Bool):List (PV × PV)→(PV→Prop)→Prop
 | [],K=>bM z fun z=>K (match ok with|true=>.tup [z,.bool false]|false=>z)
 |(.str t,v)::r,K=>(s=t→bM v fun v=>K (match ok with|true=>.tup [v,.bool true]|false=>v))∧(s≠t→Ae s z ok r K)
 |_,_=>False
def vR (s:ByteArray):List (PV × PV)→Prop
 | []=>True
 |(.str t,_)::r=>s≠t∧vR s r
 |_=>False
def vS (i:PV) (n:Nat) (K:Nat→Prop):Prop:=
 match i with
 |.int _ x=>(0≤x∧x<n)∧K x.toNat
 |_=>False
def pO:List (List PV)→Prop
 | []=>True
 |x::r=>fu.inlF x=true∧pO r
def qp (c:CL) (K:CL→Prop):Prop:=
 match c with
 |.ints k xs=>K (.ints k xs)
 |.bools xs=>K (.bools xs)
 |.strs xs=>K (.strs xs)
 |.rows k xs=>K (.rows k xs)
 |.pv cs=>match mg cs with
  |some ds=>K (.pv ds)
  |none=>False
 |.recs m rs=>pO rs∧K (.recs m rs)
 |_=>False
def yY (H:Hp) (x:PV) (K:CL→List Nat→Prop):Prop:=
 match x with
 |.isl c _=>K c []
 |.rsl k off n=>bU H k fun o=>match o with
  |.cells c _=>qp c fun c=>nC c fun ce=>iK c fun cn=>off+n≤cn∧ifK (ah6 ce 1) (K (c.sub off (off+n)) [k])
  |_=>False
 |_=>False
def Cm (m:Nat):List (List PV)→Prop
 | []=>True
 |r::rs=>(ah6 r.length m&&om r)=true∧Cm m rs
def Na (d:CL) (K:Prop):Prop:=
 match d with
 |.pv cs=>ifK (om cs) K
 |.ints _ _=>K
 |.bools _=>K
 |.strs _=>K
 |.rows _ _=>K
 |.recs m rs=>Cm m rs∧K
 |_=>False
def KU (H:Hp) (n:Nat) (s x:PV) (K:KR):Prop:=
 match s with
 |.nils=>match x with
  |.nils=>K .nils [] [] []
  |x=>yY H x fun d acc=>iK d fun dn=>nC d fun de=>dV H n (K (.isl d (.own n)) [(n,.tok de dn)] acc [n])
 |.isl c t=>match x with
  |.nils=>K (.isl c .none) [] [] []
  |x=>yY H x fun d acc=>match t with
   |.own k=>bU H k fun o=>match o with
    |.tok m hw=>iK c fun cn=>iK d fun dn=>nC d fun de=>hw=cn∧ifK (ah6 m de) (Na d (F3 c d fun e=>K (.isl e (.own k)) [(k,.tok m (hw+dn))] (k::acc) []))
    |_=>False
   |.full=>iK c fun cn=>iK d fun dn=>(cn=0∨0<dn)∧F3 c d fun e=>iK e fun en=>nC e fun ee=>dV H n (K (.isl e (.own n)) [(n,.tok ee en)] acc [n])
   |.none=>False
 |_=>False
def Cn (te:TE) (H:Hp) (n k off m:Nat) (x:PV) (K:KR):Prop:=
 yY H (.rsl k off m) fun c acc=>yY H x fun d acc'=>bU H k fun o=>match o with
  |.cells _ false=>iK d fun dn=>nC c fun ce=>(0<m+dn∧m+dn≤1073741824)∧ifK (ah6 off 0&&ah6 ce te.size&&ah6 ce 1)
   (Na d (F3 c d fun e=>dV H n (K (.rsl n 0 (m+dn)) [(k,.cells (.pv []) true),(n,.cells e false)] (k::(acc++acc')) [n])))
  |_=>False
def xM (te:TE) (H:Hp) (n:Nat) (x:PV) (K:KR):Prop:=
 yY H x fun d acc=>iK d fun dn=>nC d fun de=>(0<dn∧dn≤1073741824)∧ifK (ah6 de te.size&&ah6 de 1) (dV H n (K (.rsl n 0 dn) [(n,.cells d false)] acc [n]))
def nD (te:TE) (H:Hp) (n:Nat) (s x:PV) (K:KR):Prop:=
 KU H n s x fun v sets acc news=>match v with|.isl c _=>iK c fun cn=>nC c fun ce=>cn≤1073741824∧ifK (ah6 ce te.size) (K v sets acc news)|_=>K v sets acc news
def Co (mu:Bool) (te:TE) (H:Hp) (n:Nat) (s x:PV) (K:KR):Prop:=
 match s with
 |.rsl k off m=>Cn te H n k off m x K
 |.nils=>match mu with
  |true=>xM te H n x K
  |false=>nD te H n .nils x K
 |.isl c t=>match mu with
  |true=>match t with
   |.full=>iK c fun cn=>match ah6 cn 0 with
    |true=>xM te H n x K
    |false=>nD te H n (.isl c t) x K
   |t=>nD te H n (.isl c t) x K
  |false=>nD te H n (.isl c t) x K
 |s=>nD te H n s x K
abbrev Fq:AO:=.cells (.pv []) true
def F5 (H:Hp) (x:PV):Option (Nat × Nat × Nat × RC):=
 match x with
 |.rsl d off r=>match off with
  |0=>match ay H d with
   |some o=>match o with
    |.pmat q rc=>some (d,r,q,rc)
    |_=>none
   |none=>none
  |_+1=>none
 |_=>none
def Nb (a:RC) (m:Nat) (b:RC) (K:RC→Prop):Prop:=
 match a with
 |.ints q c=>match b with
  |.ints q' c'=>ifK (decide (q=q')) (K (.ints q (fun i=>if i<m then c i else c' (i-m))))
  |_=>False
 |.recs e c=>match b with
  |.recs e' c'=>ifK (ah6 e e') (K (.recs e (fun i=>if i<m then c i else c' (i-m))))
  |_=>False
def KV (te:TE) (H:Hp) (n:Nat) (s:PV) (d r q:Nat) (rc:RC) (K:KR):Prop:=
 match s with
 |.nils=>(r=q∧0<r∧r≤1073741824)∧ifK (ah6 te.size 1) (dV H n (K (.rsl n 0 r) [(d,Fq),(n,.pmat r rc)] [d] [n]))
 |.rsl k off m=>bU H k fun o=>match o with
  |.pmat m' rc0=>(m=m'∧r=q∧0<r∧m+r≤1073741824)∧ifK (ah6 te.size 1&&ah6 off 0&&!ah6 k d) (Nb rc0 m rc fun rc2=>dV H n (K (.rsl n 0 (m+r)) [(k,Fq),(d,Fq),(n,.pmat (m+r) rc2)] [k,d] [n]))
  |_=>False
 |_=>False
def Cq (mu:Bool) (te:TE) (H:Hp) (n:Nat) (s x:PV) (K:KR):Prop:=
 match F5 H x with
 |some (d,r,q,rc)=>KV te H n s d r q rc K
 |none=>Co mu te H n s x K
def nE (md:Nat) (b:Bool):PV→List PV→(PV→Prop)→Prop
 |x,[],K=>K x
 |.int k x,.int k' y::r,K=>ifK (decide (k=k')) (match b with
  |true=>nE md b (.int k (max x y)) r K
  |false=>nE md b (.int k (min x y)) r K)
 |_,_,_=>False
def Cr (te:TE) (H:Hp) (n:Nat) (s x:PV) (K:KR):Prop:=
 match s with
 |.nils=>match x with
  |.int .i64 m=>(0<m∧m≤1000000)∧ifK (ah6 te.size 1&&ah7 te.bytes 65536) (dV H n (mkK te.zero m.toNat fun d=>K (.rsl n 0 m.toNat) [(n,.cells d false)] [] [n]))
  |_=>False
 |_=>False
def QI (τ:TypeId→Option TE) (mu:Bool) (b:Builtin) (ats:List TypeId) (args:List PV) (H:Hp) (n:Nat) (K:KR):Prop:=
 match b with
 |.len=>match ats with
  | [t]=>teK τ t fun te=>match args with
   | [x]=>match te.und with
    |.slice _=>match x with
     |.isl c _=>iK c fun m=>K (.int .i64 m) [] [] []
     |.rsl _ _ m=>K (.int .i64 m) [] [] []
     |.nils=>K (.int .i64 0) [] [] []
     |.row _ _ m=>K (.int .i64 m) [] [] []
     |_=>False
    |.string=>match x with
     |.str s=>K (.int .i64 s.size) [] [] []
     |_=>False
    |.array m _=>K (.int .i64 m) [] [] []
    |_=>False
   |_=>False
  |_=>False
 |.append=>match args with
  | [s,x]=>match ats with
   | [t,u]=>teK τ t fun te=>match te.und with
    |.slice e=>teK τ e fun te'=>teK τ u fun tu=>match tu.und with
     |.slice e'=>ifK (ah6 e e'&&ah7 te'.bytes 65536) (Cq mu te' H n s x K)
     |.int _=>Cr te' H n s x K
     |_=>False
    |_=>False
   |_=>False
  |_=>False
 |.cap=>match args with
  | [x]=>match ats with
   | [t]=>teK τ t fun te=>match te.und with
    |.slice _=>match x with
     |.nils=>K (.int .i64 0) [] [] []
     |_=>False
    |_=>False
   |_=>False
  |_=>False
 |.max=>match args with
  |x::r=>nE 0 true x r fun v=>K v [] [] []
  |_=>False
 |.min=>match args with
  |x::r=>nE 0 false x r fun v=>K v [] [] []
  |_=>False
 |_=>False
def Nc (te:TE) (K:PV→Prop):Prop:=
 match te.zero with
 |.agg cs=>bN (qo cs.toList) fun zs=>K (.agg zs)
 |v=>bM (ofV v) K
def iL (n:Nat) (K:Nat→Prop):Prop:=match n with|0=>K 0|m+1=>K (m+1)
theorem iM (n:Nat) (K:Nat→Prop):iL n K=K n:=by cases n<;>rfl
def F6 (x:PV) (d:Nat) (K:PV→Prop):Prop:=
 match x with
 |.rp k off=>K (.rp k (off+d))
 |.ip c off=>K (.ip c (off+d))
 |.rpe k m i j=>K (.rpe k m i (j+d))
 |.ipe c i j=>K (.ipe c i (j+d))
 |.rowp k b m i j=>K (.rowp k b m i (j+d))
 |_=>False
def Uy (x:PV) (d:Nat) (K:PV→Prop):Prop:=
 match x with
 |.rp k off=>iL (off+d) fun o=>K (.rp k o)
 |.ip c off=>iL (off+d) fun o=>K (.ip c o)
 |.rpe k m i j=>iL (j+d) fun o=>K (.rpe k m i o)
 |.ipe c i j=>iL (j+d) fun o=>K (.ipe c i o)
 |.rowp k b m i j=>iL (j+d) fun o=>K (.rowp k b m i o)
 |_=>False
theorem Y8 (x:PV) (d:Nat) (K:PV→Prop):Uy x d K=F6 x d K:=by cases x<;>simp only[Uy,F6,iM]
def Ct (te:TE) (rs:List PV) (m i j n:Nat) (K:PV→Prop):Prop:=
 match te.isAgg with
 |true=>match ah6 j 0&&ah6 te.size m with
  |true=>(i<n∧rs.length=m)∧K (.agg rs)
  |false=>i<n∧ifK (ah7 (j+te.size) m) (bN (CL.gets (.pv rs) j te.size) fun cs=>K (.agg cs))
 |false=>i<n∧ifK (ah7 (j+1) m) (bM (aD rs j) K)
def xO (len:Nat) (lo hi:Option PV) (K:Nat→Nat→Prop):Prop:=
 match lo with
 |none=>match hi with
  |none=>K 0 len
  |some (.int _ h)=>(0≤h∧h≤len)∧K 0 h.toNat
  |_=>False
 |some (.int _ l)=>match hi with
  |none=>(0≤l∧l≤len)∧K l.toNat len
  |some (.int _ h)=>(0≤l∧l≤h∧h≤len)∧K l.toNat h.toNat
  |_=>False
 |_=>False
def KW (c:CL) (es:Nat) (lo hi mx:PV) (K:PV→Prop):Prop:=
 match lo with
 |.int _ a=>match hi with
  |.int _ b=>match mx with
   |.int _ m=>nC c fun ce=>iK c fun cn=>(0≤a∧a≤b∧b≤m∧m≤cn)∧ifK (ah6 ce es) (K (.isl (c.sub a.toNat b.toNat) .none))
   |_=>False
  |_=>False
 |_=>False
def tX (H:Hp):List PV→(List PV→List (Nat × AO)→List Nat→Prop)→Prop
 | [],K=>K [] [] []
 |p::r,K=>match p with
  |.rp k off=>bU H k fun o=>match o with
   |.cells (.pv ds) fz=>match fz with
    |true=>tX H r fun cs sets acc=>K (.ip (.pv ds) off::cs) sets (k::acc)
    |false=>match mg ds with
     |some es=>bN es fun es=>oZ H k (.cells (.pv es) true) fun H1=>tX H1 r fun cs sets acc=>K (.ip (.pv es) off::cs) ((k,.cells (.pv es) true)::sets) (k::acc)
     |none=>tX H r fun cs sets acc=>K (.rp k off::cs) sets acc
   |_=>tX H r fun cs sets acc=>K (.rp k off::cs) sets acc
  |p=>bM p fun p=>tX H r fun cs sets acc=>K (p::cs) sets acc
def QJ (k b:Nat) (rc:RC) (K:PV→Prop):Prop:=
 match rc with
 |.ints _ c=>K (.row k b (c b).length)
 |.recs _ c=>K (.row k b (c b).length)
def XA (te:TE) (rc:RC) (b m i j:Nat) (K:PV→Prop):Prop:=
 match rc with
 |.ints q c=>ifK (ah6 m 1&&ah6 j 0) (rdK te (.ints q (c b)) i K)
 |.recs e c=>ifK (ah6 m e) (Ct te ((c b).getD i []) m i j (c b).length K)
def XB (te:TE) (rc:RC) (b m i j:Nat) (v:PV) (K:RC→Prop):Prop:=
 match rc with
 |.ints q c=>match v with
  |.int q' x=>i<(c b).length∧ifK (ah6 m 1&&ah6 j 0&&(ah6 te.size 1&&(!te.isAgg&&decide (q'=q)))) (K (.ints q (oN c b ((c b).set i x))))
  |_=>False
 |.recs e c=>match v with
  |.agg cs=>(i<(c b).length∧cs.length=e∧om cs=true∧fu.inlF cs=true)∧ifK (ah6 m e&&ah6 j 0&&(ah6 te.size e&&te.isAgg)) (K (.recs e (oN c b ((c b).set i cs))))
  |_=>False
def QK (mu:Bool) (cs:List PV):Option (Nat × Nat):=
 match mu with
 |true=>match cs with
  | [.rsl a off m]=>match off with
   |0=>some (a,m)
   |_+1=>none
  |_=>none
 |false=>none
def Nf (o:AO) (m:Nat) (K:RC→Prop):Prop:=
 match o with
 |.cells c fz=>match fz with
  |true=>False
  |false=>match c with
   |.ints q xs=>(m=xs.length∧0<m)∧K (.ints q (fun _=>xs))
   |.recs e rs=>(m=rs.length∧0<m∧pO rs)∧K (.recs e (fun _=>rs))
   |_=>False
 |_=>False
def Af (o:AO) (K:IntKind→List Int→Prop):Prop:=
 match o with
 |.cells c fz=>match fz with
  |true=>False
  |false=>match c with
   |.ints q xs=>K q xs
   |_=>False
 |_=>False
theorem Ng {o:AO} {K:IntKind→List Int→Prop} (h:Af o K):∃q xs,o=.cells (.ints q xs) false∧K q xs:=by
 unfold Af at h;split at h
 ·split at h
  ·exact h.elim
  ·split at h
   ·exact⟨_,_,rfl,h⟩
   ·exact h.elim
 ·exact h.elim
def Ag:List Method→String→Option Nat
 | [],_=>none
 |m::r,s=>match m.name==s with
  |true=>match m.path.toList with
   | []=>match m.func with
    |some (g,false)=>some g
    |_=>none
   |_::_=>none
  |false=>Ag r s
def F7 (d:TypeDesc):Bool:=match d with|.pointer _=>false|_=>true
def Nh (rf:List Nat):Operand→Bool
 |.tmp t=>gT (1000+t) rf
 |_=>false
def KY (te:TE) (p x:PV) (H:Hp) (K:KR):Prop:=
 match p with
 |.rp k off=>bM x fun v=>vP te.isAgg te.size v fun cs=>bU H k fun o=>match o with
  |.cells c fz=>match fz with
   |true=>False
   |false=>wrK c off cs fun c'=>qp c' fun d=>K .any [(k,.cells d true)] [k] []
  |_=>False
 |_=>False
def QL (d:TypeDesc):Bool:=match d with|.interface _=>false|_=>true
def Ni (d:TypeDesc) (v:PV) (y:Operand):Bool:=match y with
 |.const c=>(match c with
  |.nilIface=>(match v with
   |.nili=>(match d with|.interface _=>true|_=>false)
   |_=>false)
  |_=>false)
 |_=>false
def u8D (τ:TypeId→Option TE) (t:TypeId):Bool:=match τ t with
 |some te=>(match te.und with
  |.int k=>(match k with|.u8=>true|_=>false)
  |_=>false)
 |none=>false
def cvN (τ:TypeId→Option TE) (ts td:TE):Nat:=match td.und with
 |.slice e=>(match u8D τ e with|true=>1|false=>0)
 |.string=>(match ts.und with
  |.slice e=>(match u8D τ e with|true=>2|false=>0)
  |_=>0)
 |_=>0
def dK (b:ByteArray):List Int:=b.data.toList.map fun x=>(x.toNat:Int)
def F8 (H:Hp) (x:PV) (K:PV→List Nat→Prop):Prop:=match x with
 |.isl c _=>(match c with
  |.ints k xs=>ifK (decide (k=.u8)) (K (.str (strOfNums xs)) [])
  |_=>False)
 |.rsl i off m=>bU H i fun o=>match o with
  |.cells c fz=>(match c with
   |.ints k xs=>(match fz with
    |true=>False
    |false=>off+m≤xs.length∧ifK (decide (k=.u8)) (K (.str (strOfNums ((xs.drop off).take m))) [i]))
   |_=>False)
  |_=>False
 |.nils=>K (.str .empty) []
 |_=>False
def Uz (τ:TypeId→Option TE) (te:TE) (K:TypeId→Prop):Prop:=
 match te.und with
 |.struct fs=>match fs[1]? with
  |some fd=>teK τ fd.type fun tf=>match tf.und with
   |.slice e=>(te.zero.cells= #[.pointer none,.slice none 0 0])∧K e
   |_=>False
  |none=>False
 |_=>False
def opK (τ:TypeId→Option TE) (md:Nat) (rf:List Nat) (CP:CPT) (YP:Fn→Array Value→Array Value→List PV→Nat→Hp→KR→Prop) (ρ:Operand→PV) (H:Hp) (n:Nat) (dst:Option Nat) (o:Op) (K:KR):Prop:=
 match o with
 |.move x=>bM (ρ x) fun v=>K v [] [] []
 |.assign x=>bM (ρ x) fun v=>K v [] [] []
 |.pick c a b=>match ρ c with
  |.bool t=>match t with
   |true=>bM (ρ a) fun v=>K v [] [] []
   |false=>bM (ρ b) fun v=>K v [] [] []
  |.bp t=>(t=true→bM (ρ a) fun v=>K v [] [] [])∧(t=false→bM (ρ b) fun v=>K v [] [] [])
  |_=>False
 |.alloc t=>teK τ t fun te=>dV H n (match gT (2000+t) rf with
  |true=>Uz τ te fun e=>K (.rp n 0) [(n,.bld t e .empty)] [] [n]
  |false=>bN (qo te.zero.cells.toList) fun zs=>K (.rp n 0) [(n,.cells (.pv zs) false)] [] [n])
 |.box t x=>teK τ t fun te=>bM (ρ x) fun v=>vP te.isAgg te.size v fun cs=>dV H n (K (.rp n 0) [(n,.cells (.pv cs) false)] [] [n])
 |.build t parts=>teK τ t fun te=>bN (qo te.zero.cells.toList) fun zs=>match te.und with
  |.struct fs=>match placesOf τ fs.toList with
   |some pl=>match ru zs pl (partsOf ρ parts.toList)with
    |some cs=>bN cs fun cs=>K (.agg cs) [] [] []
    |none=>False
   |none=>False
  |.array _ e=>teK τ e fun te'=>match jT zs te'.size (partsOf ρ parts.toList)with
   |some cs=>bN cs fun cs=>K (.agg cs) [] [] []
   |none=>False
  |_=>False
 |.buildSlice t len parts=>teK τ t fun te=>match te.und with
  |.slice e=>teK τ e fun te'=>ifK (ah7 (len*te'.size) 16777216) (vQ te'.size (fun cs=>match QK (match dst with|some d=>gT d rf|none=>false) cs with
   |some (a,m)=>ifK (ah6 te'.size 1&&ah6 len 1) (bU H a fun o=>Nf o m fun rc=>dV H n (K (.rsl n 0 1) [(a,Fq),(n,.pmat 1 rc)] [a] [n]))
   |none=>match te'.isAgg with
    |true=>match mg cs with
     |some ds=>ifK (ah7 1 te'.size) (match(match dst with|some d=>gT d rf|none=>false)with
      |true=>dV H n (K (.rsl n 0 len) [(n,.cells (.recs te'.size (chunks te'.size len ds)) false)] [] [n])
      |false=>K (.isl (.recs te'.size (chunks te'.size len ds)) .full) [] [] [])
     |none=>False
    |false=>Ux te'.zero cs fun c=>ifK (ah6 te'.size 1) (match(match dst with|some d=>gT d rf|none=>false)with
     |true=>dV H n (K (.rsl n 0 len) [(n,.cells c false)] [] [n])
     |false=>K (.isl c .full) [] [] [])) (partsOf ρ parts.toList) (lJ (len*te'.size)))
  |_=>False
 |.load t a=>teK τ t fun te=>match ρ a with
  |.rp k off=>bU H k fun o=>match o with
   |.cells c _=>rdK te c off fun v=>K v [] [k] []
   |.mat _ l rc=>off<l.length∧ifK (!te.isAgg) (QJ k (l.getD off 0) rc fun v=>K v [] [k] [])
   |_=>False
  |.rowp k b m i j=>bU H k fun o=>match o with
   |.mat all _ rc=>b∈all∧XA te rc b m i j fun v=>K v [] [k] []
   |_=>False
  |.ip c off=>rdK te c off fun v=>K v [] [] []
  |.rpe k m i j=>bU H k fun o=>match o with
   |.cells (.recs m' rs) _=>ifK (ah6 m m') (Ct te (CL.rcd (.recs m' rs) i) m i j rs.length fun v=>K v [] [k] [])
   |_=>False
  |.ipe c i j=>match c with
   |.recs m rs=>Ct te (CL.rcd (.recs m rs) i) m i j rs.length fun v=>K v [] [] []
   |.genr m q f=>Ct te (CL.rcd (.genr m q f) i) m i j q fun v=>K v [] [] []
   |_=>False
  |_=>False
 |.store t a x=>teK τ t fun te=>match Nh rf a with
  |true=>KY te (ρ a) (ρ x) H K
  |false=>match ρ a with
   |.rp k off=>bM (ρ x) fun v=>vP te.isAgg te.size v fun cs=>bU H k fun o=>match o with
    |.cells c false=>wrK c off cs fun c'=>K .any [(k,.cells c' false)] [k] []
    |.mat all l rc=>match v with
     |.row _ b n=>(off<l.length∧b∈all∧n=(rc.at b).cnt)∧K .any [(k,.mat all (l.set off b) rc)] [k] []
     |_=>False
    |_=>False
   |.rowp k b m i j=>bM (ρ x) fun v=>bU H k fun o=>match o with
    |.mat all l rc=>b∈all∧XB te rc b m i j v fun rc'=>K .any [(k,.mat all l rc')] [k] []
    |_=>False
   |_=>False
 |.nilCheck x=>match ρ x with
  |.rp k off=>K (.rp k off) [] [] []
  |.ip c off=>K (.ip c off) [] [] []
  |.rpe k m i j=>K (.rpe k m i j) [] [] []
  |.ipe c i j=>K (.ipe c i j) [] [] []
  |.fn (.func f) a b=>K (.fn (.func f) a b) [] [] []
  |_=>False
 |.binOp op t x y _=>teK τ t fun te=>match Ni te.und (ρ x) y with
  |true=>(match op with
   |.eql=>K (.bool true) [] [] []
   |.neq=>K (.bool false) [] [] []
   |_=>False)
  |false=>bM (ρ x) fun v=>bM (ρ y) fun u=>Uw md op te v u fun v=>K v [] [] []
 |.unOp op _ x=>bM (ρ x) fun v=>unK md op v fun v=>K v [] [] []
 |.convert s d x=>teK τ s fun ts=>teK τ d fun td=>match cvN τ ts td with
  |0=>bM (ρ x) fun v=>Xz md td v fun v=>K v [] [] []
  |1=>(match ρ x with
   |.str b=>K (.isl (.ints .u8 (dK b)) .none) [] [] []
   |_=>False)
  |_=>F8 H (ρ x) fun v acc=>K v [] acc []
 |.makeInterface t x=>teK τ t fun te=>ifK (QL te.und) (bM (ρ x) fun v=>K (.ifc t v) [] [] [])
 |.makeFunc fn first caps=>bN (kQ ρ first.toList) fun fs=>match(match dst with|some d=>gT d rf|none=>false)with
  |true=>bN (kQ ρ caps.toList) fun cs=>K (.fn fn fs cs) [] [] []
  |false=>tX H (kQ ρ caps.toList) fun cs sets acc=>K (.fn fn fs cs) sets acc []
 |.makeMap t none=>dV H n (K (.rm n) [(n,.map [])] [] [n])
 |.insert t m k v=>teK τ t fun te=>match te.und with
  |.map kt _=>teK τ kt fun tk=>match tk.und with
   |.string=>match ρ m with
    |.rm i=>match ρ k with
     |.str s=>bM (ρ v) fun v=>bU H i fun o=>match o with
      |.map es=>vR s es∧K .any [(i,.map (es++[(.str s,v)]))] [i] []
      |_=>False
     |_=>False
    |_=>False
   |_=>False
  |_=>False
 |.mapUpdate t m k v=>teK τ t fun te=>match te.und with
  |.map kt _=>teK τ kt fun tk=>match tk.und with
   |.string=>match ρ m with
    |.rm i=>match ρ k with
     |.str s=>bM (ρ v) fun v=>bU H i fun o=>match o with
      |.map es=>vR s es∧K .any [(i,.map (es++[(.str s,v)]))] [i] []
      |_=>False
     |_=>False
    |_=>False
   |_=>False
  |_=>False
 |.lookup t m k ok=>teK τ t fun te=>match te.und with
  |.map kt et=>teK τ kt fun tk=>match tk.und with
   |.string=>teK τ et fun tz=>match ρ m with
    |.rm i=>match ρ k with
     |.str s=>bU H i fun o=>match o with
      |.map es=>Nc tz fun z=>Ae s z ok es fun v=>K v [] [i] []
      |_=>False
     |_=>False
    |_=>False
   |_=>False
  |_=>False
 |.makeSlice t l c=>teK τ t fun te=>match te.und with
  |.slice e=>teK τ e fun te'=>match ρ l with
   |.int .i64 x=>match ρ c with
    |.int .i64 y=>(0≤x∧x*te'.bytes≤281474976710656∧inR .i64 x∧(y=x∨x≤y∧y*te'.bytes≤281474976710656∧inR .i64 y))∧dV H n (match te'.isAgg with
     |true=>bN (qo te'.zero.cells.toList) fun zs=>ifK (ah6 zs.length te'.size&&ah7 1 te'.size) (K (.rsl n 0 x.toNat) [(n,.cells (.recs te'.size (ah9 x.toNat zs)) false)] [] [n])
     |false=>ifK (ah6 te'.size 1) (mkK te'.zero x.toNat fun d=>K (.rsl n 0 x.toNat) [(n,.cells d false)] [] [n]))
    |_=>False
   |_=>False
  |_=>False
 |.slice t x lo hi mx=>match mx with
  |none=>teK τ t fun te=>(fun(K':Nat→Prop)=>match ρ x with|.isl c _=>iK c K'|.rsl _ _ m=>K' m|.str s=>K' s.size|.nils=>K' 0|_=>(match te.und with|.array m _=>K' m|_=>False)) fun ln=>xO ln (lo.map ρ) (hi.map ρ) fun a b=>
   match te.und with
   |.string=>match ρ x with
    |.str s=>K (.str (s.extract a b)) [] [] []
    |_=>False
   |.slice e=>teK τ e fun te'=>match ρ x with
    |.isl c tk=>nC c fun ce=>ifK (ah6 ce te'.size) (K (.isl (c.sub a b) .none) [] [] [])
    |.rsl k off m=>match(match dst with|some d=>gT d rf|none=>false)with
     |true=>bU H k fun o=>Af o fun q xs=>ifK (ah6 off 0&&ah6 a 0) (K (.rsl k 0 b) [(k,.cells (.ints q (xs.take b)) false)] [k] [])
     |false=>K (.rsl k (off+a*te'.size) (b-a)) [] [] []
    |.nils=>K .nils [] [] []
    |_=>False
   |.array m e=>teK τ e fun te'=>match ρ x with
    |.rp k off=>bU H k fun o=>match o with
     |.cells c _=>off+m*te'.size≤c.ncell∧ifK (ah7 1 te'.size) (K (.rsl k (off+a*te'.size) (b-a)) [] [k] [])
     |_=>False
    |.ip c off=>nC c fun ce=>off+m≤c.ncell∧ifK (ah6 ce 1&&ah6 te'.size 1) (K (.isl (c.sub (off+a) (off+b)) .none) [] [] [])
    |_=>False
   |_=>False
  |some mo=>match lo with
   |some lo=>match hi with
    |some hi=>teK τ t fun te=>match te.und with
     |.slice e=>teK τ e fun te'=>match ρ x with
      |.isl c _=>KW c te'.size (ρ lo) (ρ hi) (ρ mo) fun v=>K v [] [] []
      |_=>False
     |_=>False
    |none=>False
   |none=>False
 |.fieldAddr s x f=>teK τ s fun te=>match te.und with
  |.struct fs=>match fs[f]? with
   |some fd=>teK τ fd.type fun tf=>ifK (ah7 1 tf.size) (Uy (ρ x) fd.offset fun v=>K v [] [] [])
   |none=>False
  |_=>False
 |.field s x f=>teK τ s fun te=>match te.und with
  |.struct fs=>match fs[f]? with
   |some fd=>teK τ fd.type fun tf=>match ρ x with
    |.agg cs=>match tf.isAgg with
     |true=>ifK (ah7 (fd.offset+tf.size) cs.length) (bN (CL.gets (.pv cs) fd.offset tf.size) fun cs=>K (.agg cs) [] [] [])
     |false=>ifK (ah7 (fd.offset+1) cs.length) (bM (aD cs fd.offset) fun v=>K v [] [] [])
    |_=>False
   |none=>False
  |_=>False
 |.indexAddr t x i=>teK τ t fun te=>match te.und with
  |.slice e=>teK τ e fun te'=>match ρ x with
   |.isl c _=>bM (ρ i) fun i=>iK c fun cn=>vS i cn fun j=>match c with
    |.recs m rs=>ifK (ah6 m te'.size) (K (.ipe (.recs m rs) j 0) [] [] [])
    |.genr m q f=>ifK (ah6 m te'.size) (K (.ipe (.genr m q f) j 0) [] [] [])
    |c=>ifK (ah6 te'.size 1) (K (.ip c j) [] [] [])
   |.rsl k off m=>bM (ρ i) fun i=>vS i m fun j=>bU H k fun o=>match o with
    |.cells (.recs q rs) _=>ifK (ah6 q te'.size&&ah6 off 0) (K (.rpe k q j 0) [] [k] [])
    |.cells _ _=>K (.rp k (off+j*te'.size)) [] [k] []
    |.mat _ _ _=>K (.rp k (off+j*te'.size)) [] [k] []
    |_=>False
   |.row k b m=>bM (ρ i) fun i=>vS i m fun j=>K (.rowp k b te'.size j 0) [] [] []
   |_=>False
  |.array m e=>teK τ e fun te'=>bM (ρ i) fun i=>vS i m fun j=>F6 (ρ x) (j*te'.size) fun v=>K v [] [] []
  |_=>False
 |.index t x i=>teK τ t fun te=>match te.und with
  |.array m e=>teK τ e fun te'=>match ρ x with
   |.agg cs=>bM (ρ i) fun i=>vS i m fun j=>match te'.isAgg with
    |true=>(j*te'.size+te'.size≤cs.length)∧K (.agg (CL.gets (.pv cs) (j*te'.size) te'.size)) [] [] []
    |false=>(j*te'.size+1≤cs.length)∧K (aD cs (j*te'.size)) [] [] []
   |_=>False
  |.string=>match ρ x with
   |.str s=>bM (ρ i) fun i=>vS i s.size fun j=>K (.int .u8 ((s.data.getD j 0).toNat:Nat)) [] [] []
   |_=>False
  |_=>False
 |.extract t i=>match ρ t with
  |.tup vs=>ifK (ah7 (i+1) vs.length) (bM (aD vs i) fun v=>K v [] [] [])
  |_=>False
 |.call c=>match c.callee with
  |.builtin b=>QI τ (match dst with|some d=>gT d rf|none=>false) b c.argTypes.toList (kQ ρ c.args.toList) H n K
  |.value f=>match ρ f with
   |.fn (.func g) fs cs=>bN (fs++kQ ρ c.args.toList++cs) fun args=>CP g args n H K
   |.fv f us vs=>bN (kQ ρ c.args.toList) fun args=>YP f us vs args n H K
   |_=>False
  |.invoke f name=>match ρ f with
   |.ifc t v=>teK τ t fun te=>ifK (F7 te.und) (match Ag te.meths name with
    |some g=>bN (v::kQ ρ c.args.toList) fun args=>CP g args n H K
    |none=>False)
   |_=>False
 |_=>False
variable {P:Program} {r:Option Nat}
structure aY (P:Program) (τ:TypeId→Option TE):Prop where
 und:∀t te,τ t=some te→P.underlying t=some te.und
 info:∀t te,τ t=some te→∃i,P.info? t=some i∧i.zero=some te.zero∧i.size=te.size∧i.bytes=te.bytes
 zsz:∀t te,τ t=some te→te.zero.cells.size=te.size
 cmp:∀t te ks,τ t=some te→te.cmp=some ks→Fp P t ks
 meth:∀t te,τ t=some te→∃i,P.info? t=some i∧i.methods.toList=te.meths
def bE (P:Program) (r:Option Nat) (o:Oper) (ρ:Operand→PV) (H0:Hp) (v:PV) (sets:List (Nat × AO)) (accs news:List Nat):Prop:=
 ∀(S:Imm) (w:World) (ι:Ix) (H:Hp) (a:Act) (next:Act→World→Prop) (Q:Exit→Act→World→Prop),
  Mem S w ι H→(∀x∈o.op.operands.toList,Rep S w ι (ρ x) (a.eval x))→(∀k∈accs,ay H k=ay H0 k)→(∀k∈news,ay H k=none)→
  (∀(val:Value) (S':Imm) (w':World) (ι':Ix),Mem S' w' ι' (aZ H sets)→ι.le ι'→Keeps S w S' w'→Rep S' w' ι' v val→(∀p,Tr p S w ι H S' w' ι' (aZ H sets))→next (a.put o.dst val) w')→
  o.wpIn (Fw r) 0 P a w next Q
theorem d9 {o:Oper} {a:Act} {w w':World} {next:Act→World→Prop} {Q:Exit→Act→World→Prop} {val:Value} (hd:∀c,o.op≠ .defer c)
 (h:(execOp a.eval o).run P w=.ok (.value val) w') (hn:next (a.put o.dst val) w'):o.wpIn (Fw r) 0 P a w next Q:=
 ⟨fun _ _=>trivial,by rw[Oper.semAt_eq _ _ _ hd,h];exact hn⟩
theorem jk {o:Oper} {a:Act} {w w':World} {next:Act→World→Prop} {Q:Exit→Act→World→Prop} (hd:∀c,o.op≠ .defer c)
 (h:(execOp a.eval o).run P w=.ok .skip w') (hn:next (a.put o.dst undef) w'):o.wpIn (Fw r) 0 P a w next Q:=
 ⟨fun _ _=>trivial,by rw[Oper.semAt_eq _ _ _ hd,h];exact hn⟩
theorem aU {o:Oper} {ρ:Operand→PV} {H0:Hp} {v:PV} {accs:List Nat} (hd:∀c,o.op≠ .defer c)
 (h:∀(S:Imm) (w:World) (ι:Ix) (H:Hp) (a:Act),Mem S w ι H→(∀x∈o.op.operands.toList,Rep S w ι (ρ x) (a.eval x))→(∀k∈accs,ay H k=ay H0 k)→
  ∃val,(execOp a.eval o).run P w=.ok (.value val) w∧Rep S w ι v val):bE P r o ρ H0 v [] accs []:=by
 intro S w ι H a next Q M hr ha hn hk;obtain⟨val,h1,h2⟩:=h S w ι H a M hr ha;exact d9 hd h1 (hk val S w ι M (.refl _) (.refl _ _) h2 (fun p=>.refl _ _ _ _ _))
theorem Cu {S:Imm} {w:World} {ι:Ix} (v:Value):Rep S w ι (ofV v) v:=by
 unfold ofV;split<;>constructor
theorem nG (l:List Value):(qo l).length=l.length:=by
 induction l with
 |nil=>rfl
 |cons x xs ih=>simp[qo,ih]
theorem tY {S:Imm} {w:World} {ι:Ix} (l:List Value):∀i,i<l.length→Rep S w ι (aD (qo l) i) (l.getD i undef):=by
 induction l with
 |nil=>intro i h;simp at h
 |cons x xs ih=>
  intro i h;cases i with
  |zero=>simpa [qo,aD]using Cu x
  |succ i=>simpa [qo,aD]using ih i (by simpa using h)
theorem run_underlying {t:TypeId} {d:TypeDesc} (h:P.underlying t=some d) (w:World):(underlying t).run P w=.ok d w:=by
 simp[underlying,h,Result.andThen]
theorem jW {τ:TypeId→Option TE} (hτ:aY P τ) {t:TypeId} {te:TE} (h:τ t=some te) (w:World):(isAgg t).run P w=.ok te.isAgg w:=by
 unfold isAgg TE.isAgg;rw[Sem.run_bind,run_underlying (hτ.und t te h)];simp only[Result.andThen];cases te.und<;>rfl
theorem bQ {τ:TypeId→Option TE} (hτ:aY P τ) {t:TypeId} {te:TE} (h:τ t=some te) (w:World):(sizeOf t).run P w=.ok te.size w:=by
 obtain⟨i,h1,h2,h3,h4⟩:=hτ.info t te h;simp[sizeOf,typeInfo,h1,h3,Result.andThen]
theorem jD {τ:TypeId→Option TE} (hτ:aY P τ) {t:TypeId} {te:TE} (h:τ t=some te) (w:World):
 ∃i,(typeInfo t).run P w=.ok i w∧i.zero=some te.zero∧i.size=te.size∧i.bytes=te.bytes:=by
 obtain⟨i,h1,h2,h3,h4⟩:=hτ.info t te h;exact⟨i,by simp[typeInfo,h1,Result.andThen],h2,h3,h4⟩
theorem gN {τ:TypeId→Option TE} (hτ:aY P τ) {t:TypeId} {te:TE} (h:τ t=some te) (w:World):(zeroValue t).run P w=.ok te.zero w:=by
 obtain⟨i,h1,h2,h3,h4⟩:=hτ.info t te h;simp[zeroValue,typeInfo,h1,h2,Result.andThen]
theorem cB {τ:TypeId→Option TE} {t:TypeId} {k:TE→Prop}:teK τ t k↔∃te,τ t=some te∧k te:=by
 unfold teK;cases τ t<;>simp
theorem cO {H:Hp} {n:Nat} {k:Prop}:dV H n k↔ay H n=none∧k:=by
 unfold dV;cases ay H n<;>simp
theorem aL {b:Bool} {k:Prop}:ifK b k↔b=true∧k:=by cases b<;>simp[ifK]
theorem Rep.oneCell {S:Imm} {w:World} {ι:Ix} {p:PV} {v:Value} (h:Rep S w ι p v) (ho:one p=true):v.oneCell'=true:=by
 cases h<;>first|rfl|simp[one]at ho
theorem Rep.cellsOne {S:Imm} {w:World} {ι:Ix} {p:PV} {v:Value} (h:Rep S w ι p v) (ho:one p=true):v.cells= #[v]:=by
 cases h<;>first|rfl|simp[one]at ho
theorem qw {agg:Bool} {size:Nat} {v:PV} {k:List PV→Prop} (h:vP agg size v k):
 ∃cs,k cs∧∀{S:Imm} {w:World} {ι:Ix} {val:Value},Rep S w ι v val→cs.length=size∧cs.length=val.cells.size∧∀i,i<cs.length→Rep S w ι (aD cs i) (val.cells.getD i undef)∧one (aD cs i)=true:=by
 unfold vP at h;split at h
 ·split at h
  ·rename_i cs
   rw[aL,aia]at h;refine⟨cs,h.2,fun hr=>?_⟩;cases hr with
   |agg _ _ vs hl hh=>exact⟨aib h.1.1,hl,fun i hi=>⟨hh i hi,o7 cs h.1.2 i hi⟩⟩
  ·exact h.elim
 ·rw[aL,aL]at h
  refine⟨[v],h.2.2,fun hr=>?_⟩;rw[hr.cellsOne h.1];refine⟨(aib h.2.1).symm,rfl,fun i hi=>?_⟩;simp at hi;subst hi;exact⟨hr,h.1⟩
variable {P:Program} {r:Option Nat} {τ:TypeId→Option TE}
theorem acI (ι:Ix):noI.le ι:=⟨fun k b h=>by simp[noI]at h,fun k b n h=>by simp[noI]at h⟩
theorem Rep.up {S:Imm} {w:World} {p:PV} {v:Value} (h:Rep S w noI p v) (ι:Ix):Rep S w ι p v:=h.mono (.refl _ _) _ (acI ι)
theorem dQ {s:Sem Value} {w w':World} {val:Value} (h:s.run P w=.ok val w'):(do pure (.value (←s)):Sem Next).run P w=.ok (.value val) w':=by
 simp[h,Result.andThen]
theorem tZ {s:Sem Unit} {w w':World} (h:s.run P w=.ok () w'):(do s;pure .skip:Sem Next).run P w=.ok .skip w':=by
 simp[h,Result.andThen]
theorem Ah {c:CL} {n:Nat} {k:Prop}:Ad c n k↔n≤c.ncell∧k:=by
 cases c<;>simp[Ad,CL.ncell,aL]
theorem qx (c:CL):∀(n off:Nat),(c.gets off n).length=n:=by
 intro n;induction n with
 |zero=>intro off;rfl
 |succ n ih=>intro off;simp[CL.gets,ih]
theorem yZ (c:CL):∀(n off i:Nat),i<n→aD (c.gets off n) i=c.get (off+i):=by
 intro n;induction n with
 |zero=>intro off i h;omega
 |succ n ih=>
  intro off i h;cases i with
  |zero=>rfl
  |succ i=>simp only[CL.gets,aD];rw[ih (off+1) i (by omega)];congr 1;omega
def qy (S:Imm) (w:World) (ι:Ix) (c:CL) (b o:Nat):Prop:=∀j,j<c.ncell→(rd w b (o+j)).isSome∧Rep S w ι (c.get j) (rdv w b (o+j))
theorem Mem.lies {S:Imm} {w:World} {ι:Ix} {H:Hp} (M:Mem S w ι H) {k:Nat} {c:CL} {fz:Bool} (h:ay H k=some (.cells c fz)) {b:Nat} (hb:ι.o k=some b):qy S w ι c b 0:=by
 cases fz with
 |true=>
  obtain⟨b',h1,h2⟩:=M.obj k _ h;rw[hb]at h1;cases h1
  intro j hj;rw[aic];exact⟨M.imm _ _ (h2 j hj).1,(h2 j hj).2.up ι⟩
 |false=>
  obtain⟨b',arr,e,h1,h2,h3,h4,h5⟩:=M.obj k _ h;rw[hb]at h1;cases h1
  intro j hj;rw[aic,rdv,aN h2,ahT (by omega)]
  refine⟨rfl,?_⟩;have:=h4 j hj;rw[ahW,ahT (by omega)]at this
  exact this
theorem Mem.rowLies {S:Imm} {w:World} {ι:Ix} {H:Hp} (M:Mem S w ι H) {k:Nat} {all l:List Nat} {rc:RC} (h:ay H k=some (.mat all l rc)) {b:Nat} (hb:b∈all):qy S w ι (rc.at b) b 0:=by
 obtain⟨b0,arr,e,_,_,_,_,_,_,h7,_⟩:=M.obj k _ h;obtain⟨ra,re,g1,g2,g3,g4⟩:=h7 b hb;intro j hj;rw[aic,rdv,aN g1,ahT (by omega)]
 refine⟨rfl,?_⟩;have:=g3 j hj;rw[ahW,ahT (by omega)]at this
 exact this.up ι
theorem F9 {k b:Nat} {rc:RC} {K:PV→Prop} (h:QJ k b rc K):K (.row k b (rc.at b).cnt):=by
 cases rc<;>exact h
theorem qy.of_imm {S:Imm} {w:World} {ι:Ix} {c:CL} {b o:Nat} (himm:∀b j,S b j→(rd w b j).isSome) (hs:∀j,j<c.ncell→S b (o+j))
 (h:∀j,j<c.ncell→Rep S w noI (c.get j) (rdv w b (o+j))):qy S w ι c b o:=fun j hj=>⟨himm _ _ (hs j hj),(h j hj).up ι⟩
theorem oo (hτ:aY P τ) {t:TypeId} {te:TE} (ht:τ t=some te) {c:CL} {off:Nat} {K:PV→Prop} (h:rdK te c off K):
 ∃v,K v∧∀{S:Imm} {w:World} {ι:Ix} {b o:Nat},qy S w ι c b o→∃val,(loadVar t ⟨b,o+off,none⟩).run P w=.ok val w∧Rep S w ι v val:=by
 unfold rdK at h;split at h
 ·rename_i hagg
  rw[Ah,bg]at h;refine⟨_,h.2,fun hl=>?_⟩;rename_i S w ι b o;refine⟨.agg ((ahX te.size).map fun j=>rdv w b (o+off+j)).toArray,?_,?_⟩
  ·unfold loadVar
   simp only[Sem.run_bind,jW hτ ht,Result.andThen,hagg,if_true,bQ hτ ht];rw[run_loadCells P (fun j hj=>by have:=(hl (off+j) (by omega)).1;rwa [←ahL]at this)]
   simp only[Sem.run_pure]
  ·refine .agg _ _ _ (by simp[qx]) (fun i hi=>?_)
   rw[qx]at hi;rw[yZ _ _ _ _ hi];have:=(hl (off+i) (by omega)).2
   simpa [ahW,hi,ahL]using this
 ·rename_i hagg
  rw[Ah,bH]at h;refine⟨_,h.2,fun hl=>?_⟩;rename_i S w ι b o;have h1:=hl off (by omega)
  obtain⟨x,hx⟩:=ahY.1 h1.1;refine⟨x,?_,?_⟩
  ·unfold loadVar
   simp only[Sem.run_bind,jW hτ ht,Result.andThen,hagg];simp[fT,hx]
  ·have:=h1.2;rw[rdv,hx]at this;exact this
theorem y5 {m:Nat} {rs:List (List PV)} {i j:Nat} (hj:j<m):(CL.recs m rs).get (i*m+j)=aD ((CL.recs m rs).rcd i) j:=by
 simp only[CL.get,CL.rcd];rw[show(i*m+j) / m=i by rw[aie,aif (by omega),aii hj];omega,show(i*m+j) % m=j by rw[aie,aij,aik hj]]
theorem UA {m q:Nat} {f:Nat→List PV} {i j:Nat} (hj:j<m):(CL.genr m q f).get (i*m+j)=aD ((CL.genr m q f).rcd i) j:=by
 simp only[CL.get,CL.rcd];rw[show(i*m+j) / m=i by rw[aie,aif (by omega),aii hj];omega,show(i*m+j) % m=j by rw[aie,aij,aik hj]]
theorem Ai {i n m j:Nat} (hi:i<n) (hj:j<m):i*m+j<n*m:=by
 have:(i+1)*m≤n*m:=ail m hi;rw[ain]at this;omega
theorem o8 (hτ:aY P τ) {t:TypeId} {te:TE} (ht:τ t=some te) {rs:List PV} {m i j n:Nat} {K:PV→Prop} (h:Ct te rs m i j n K):
 ∃v,K v∧∀{S:Imm} {w:World} {ι:Ix} {c:CL} {b o:Nat},qy S w ι c b o→c.ncell=n*m→(∀q,q<m→c.get (i*m+q)=aD rs q)→
  ∃val,(loadVar t ⟨b,o+(i*m+j),none⟩).run P w=.ok val w∧Rep S w ι v val:=by
 unfold Ct at h;split at h
 ·rename_i hagg
  have key:∀(cs:List PV),cs.length=te.size→j+te.size≤m→i<n→(∀q,q<te.size→aD cs q=aD rs (j+q))→
   ∀{S:Imm} {w:World} {ι:Ix} {c:CL} {b o:Nat},qy S w ι c b o→c.ncell=n*m→(∀q,q<m→c.get (i*m+q)=aD rs q)→
   ∃val,(loadVar t ⟨b,o+(i*m+j),none⟩).run P w=.ok val w∧Rep S w ι (.agg cs) val:=by
   intro cs hcs hle hin hget S w ι c b o hl hn hg;have hidx:∀q,q<te.size→i*m+(j+q)<c.ncell:=fun q hq=>by rw[hn];exact Ai hin (by omega)
   refine⟨.agg ((ahX te.size).map fun q=>rdv w b (o+(i*m+j)+q)).toArray,?_,?_⟩
   ·unfold loadVar
    simp only[Sem.run_bind,jW hτ ht,Result.andThen,hagg,if_true,bQ hτ ht];rw[run_loadCells P (fun q hq=>by have:=(hl _ (hidx q hq)).1;rwa [show o+(i*m+(j+q))=o+(i*m+j)+q by omega]at this)]
    simp only[Sem.run_pure]
   ·refine .agg _ _ _ (by simp[hcs]) (fun q hq=>?_)
    rw[hcs]at hq;have h2:=(hl _ (hidx q hq)).2;rw[hg (j+q) (by omega),←hget q hq,show o+(i*m+(j+q))=o+(i*m+j)+q by omega]at h2
    simpa [ahW,hq]using h2
  split at h
  ·rename_i hjm
   simp only[aia]at hjm;have e1:=aib hjm.1;have e2:=aib hjm.2;exact⟨_,h.2,key _ (by rw[h.1.2,e2]) (by omega) h.1.1 (fun q hq=>by rw[e1,aic])⟩
  ·rw[aL,bg]at h
   have hb:=aio h.2.1;exact⟨_,h.2.2,key _ (qx _ _ _) hb h.1 (fun q hq=>by rw[yZ _ _ _ _ hq];rfl)⟩
 ·rename_i hagg
  rw[aL,bH]at h;have hb:=aio h.2.1;refine⟨_,h.2.2,fun hl hn hg=>?_⟩;rename_i S w ι c b o;have h1:=hl (i*m+j) (by rw[hn];exact Ai h.1 (by omega))
  obtain⟨x,hx⟩:=ahY.1 h1.1;refine⟨x,?_,?_⟩
  ·unfold loadVar
   simp only[Sem.run_bind,jW hτ ht,Result.andThen,hagg];simp[fT,hx]
  ·have:=h1.2;rw[hg j (by omega),rdv,hx]at this;exact this
theorem Nj (hτ:aY P τ) {md rf CP YP} {o:Oper} {ρ:Operand→PV} {H:Hp} {n:Nat} {t:TypeId} {x:Operand} (ho:o.op=.load t x) {K:KR}
 (h:opK τ md rf CP YP ρ H n o.dst o.op K):∃v sets accs news,K v sets accs news∧bE P r o ρ H v sets accs news:=by
 rw[ho]at h;simp only[opK,cB]at h;obtain⟨te,ht,h⟩:=h;have hd:∀c,o.op≠ .defer c:=fun c e=>by rw[ho]at e;cases e
 have hx:∀{S:Imm} {w:World} {ι:Ix} {a:Act},(∀x∈o.op.operands.toList,Rep S w ι (ρ x) (a.eval x))→Rep S w ι (ρ x) (a.eval x):=fun hr=>hr x (by simp[ho,Op.operands])
 have run:∀{a:Act} {w:World} {val:Value} {ad:Addr},a.eval x=.pointer (some ad)→(loadVar t ad).run P w=.ok val w→(execOp a.eval o).run P w=.ok (.value val) w:=by
  intro a w val ad e1 e2;simp only[execOp,ho];exact dQ (by simp[Instr.loadAt,e1,Instr.sureAddr,e2])
 split at h
 ·rename_i k off hρ
  rw[aX]at h;obtain⟨ob,hob,h⟩:=h;split at h
  ·rename_i c fz
   obtain⟨v,hK,hs⟩:=oo hτ ht h;refine⟨v,[],[k],[],hK,aU hd fun S w ι H' a M hr ha=>?_⟩;have hr1:=hx hr;rw[hρ]at hr1;have hob':=(ha k (by simp)).trans hob
   cases hev:a.eval x<;>rw[hev]at hr1<;>cases hr1
   rename_i b hk;obtain⟨val,h1,h2⟩:=hs (M.lies hob' hk);rw[aic]at h1;exact⟨val,run hev h1,h2⟩
  ·rename_i all l rc
   rw[aL]at h;obtain⟨hlt,hagg,h⟩:=h;have hK:=F9 h;refine⟨_,[],[k],[],hK,aU hd fun S w ι H' a M hr ha=>?_⟩;have hr1:=hx hr;rw[hρ]at hr1;have hob':=(ha k (by simp)).trans hob
   cases hev:a.eval x<;>rw[hev]at hr1<;>cases hr1
   rename_i b hk;obtain⟨b0,arr,e,g1,g2,g3,_,_,_,_,g8⟩:=M.obj k _ hob';rw[hk]at g1;cases g1
   obtain⟨_,cap,g9,g10⟩:=g8 off hlt;refine⟨_,run hev (val:=.slice (some ⟨l.getD off 0,0,none⟩) (rc.at (l.getD off 0)).cnt cap) ?_,.row _ _ _ _ _ g9⟩;have hc:rd w b off=some (.slice (some ⟨l.getD off 0,0,none⟩) (rc.at (l.getD off 0)).cnt cap):=by
    rw[aN g2,ahT (by omega),←g10,ahW,ahT (by omega)];rfl
   unfold loadVar;simp only[Sem.run_bind,jW hτ ht,Result.andThen];have hagg':te.isAgg=false:=by simpa using hagg
   simp[fT,hc,hagg']
  ·exact h.elim
 ·rename_i k b m i j hρ
  rw[aX]at h;obtain⟨ob,hob,h⟩:=h;split at h
  ·rename_i all l rc
   obtain⟨hmem,h⟩:=h;unfold XA at h;split at h
   ·rename_i q c
    rw[aL,aia]at h;obtain⟨⟨e1,e2⟩,h⟩:=h;have e1:=aib e1;have e2:=aib e2;subst e1;subst e2;obtain⟨v,hK,hs⟩:=oo hτ ht h;refine⟨v,[],[k],[],hK,aU hd fun S w ι H' a M hr ha=>?_⟩;have hr1:=hx hr;rw[hρ]at hr1;have hob':=(ha k (by simp)).trans hob
    cases hev:a.eval x<;>rw[hev]at hr1<;>cases hr1
    obtain⟨val,h1,h2⟩:=hs (M.rowLies hob' hmem);rw[aic]at h1;exact⟨val,run hev (by rw[aip,ahH];exact h1),h2⟩
   ·rename_i e c
    rw[aL]at h;have e1:=aib h.1;subst e1;obtain⟨v,hK,hs⟩:=o8 hτ ht h.2;refine⟨v,[],[k],[],hK,aU hd fun S w ι H' a M hr ha=>?_⟩;have hr1:=hx hr;rw[hρ]at hr1;have hob':=(ha k (by simp)).trans hob
    cases hev:a.eval x<;>rw[hev]at hr1<;>cases hr1
    obtain⟨val,h1,h2⟩:=hs (c:=.recs m (c b)) (M.rowLies hob' hmem) rfl (fun q hq=>y5 hq);rw[aic]at h1;exact⟨val,run hev h1,h2⟩
  ·exact h.elim
 ·rename_i c off hρ
  obtain⟨v,hK,hs⟩:=oo hτ ht h;refine⟨v,[],[],[],hK,aU hd fun S w ι H' a M hr ha=>?_⟩;have hr1:=hx hr;rw[hρ]at hr1;cases hev:a.eval x<;>rw[hev]at hr1<;>cases hr1
  rename_i b o' hs1 hh;obtain⟨val,h1,h2⟩:=hs (qy.of_imm M.imm hs1 hh);exact⟨val,run hev h1,h2⟩
 ·rename_i k m i j hρ
  rw[aX]at h;obtain⟨ob,hob,h⟩:=h;split at h
  ·rename_i m' rs fz
   rw[aL]at h;have e:=aib h.1;subst e;obtain⟨v,hK,hs⟩:=o8 hτ ht h.2;refine⟨v,[],[k],[],hK,aU hd fun S w ι H' a M hr ha=>?_⟩;have hr1:=hx hr;rw[hρ]at hr1;have hob':=(ha k (by simp)).trans hob
   cases hev:a.eval x<;>rw[hev]at hr1<;>cases hr1
   rename_i b hk;obtain⟨val,h1,h2⟩:=hs (M.lies hob' hk) rfl (fun q hq=>y5 hq);rw[aic]at h1;exact⟨val,run hev h1,h2⟩
  ·exact h.elim
 ·rename_i c i j hρ
  split at h
  ·rename_i m rs
   obtain⟨v,hK,hs⟩:=o8 hτ ht h;refine⟨v,[],[],[],hK,aU hd fun S w ι H' a M hr ha=>?_⟩;have hr1:=hx hr;rw[hρ]at hr1;cases hev:a.eval x<;>rw[hev]at hr1<;>cases hr1
   rename_i b o' hs1 hh;obtain⟨val,h1,h2⟩:=hs (qy.of_imm M.imm hs1 hh) rfl (fun q hq=>y5 hq);exact⟨val,run hev h1,h2⟩
  ·rename_i m q f
   obtain⟨v,hK,hs⟩:=o8 hτ ht h;refine⟨v,[],[],[],hK,aU hd fun S w ι H' a M hr ha=>?_⟩;have hr1:=hx hr;rw[hρ]at hr1;cases hev:a.eval x<;>rw[hev]at hr1<;>cases hr1
   rename_i b o' hs1 hh;obtain⟨val,h1,h2⟩:=hs (qy.of_imm M.imm hs1 hh) rfl (fun q hq=>UA hq);exact⟨val,run hev h1,h2⟩
  ·exact h.elim
 ·exact h.elim
variable {P:Program} {r:Option Nat} {τ:TypeId→Option TE}
theorem lW {o:Oper} {ρ:Operand→PV} {H0:Hp} {n:Nat} {c:CL} {v:PV} {accs:List Nat} (hd:∀c,o.op≠ .defer c)
 (h:∀(S:Imm) (w:World) (ι:Ix) (H:Hp) (a:Act),Mem S w ι H→(∀x∈o.op.operands.toList,Rep S w ι (ρ x) (a.eval x))→(∀k∈accs,ay H k=ay H0 k)→
  ∃val arr e,(execOp a.eval o).run P w=.ok (.value val) {w with heap:=w.heap.push (.cells arr e)}∧c.ncell≤arr.size∧(∀j,j<c.ncell→Rep S w ι (c.get j) (arr.getD j undef))∧
   (∀S' w' ι',ι'.o n=some w.heap.size→w'.heap[w.heap.size]? =some (.cells arr e (0,0))→Rep S' w' ι' v val)):
 bE P r o ρ H0 v [(n,.cells c false)] accs [n]:=by
 intro S w ι H a next Q M hr ha hn hk;obtain⟨val,arr,e,h1,h2,h3,h4⟩:=h S w ι H a M hr ha;have hno:=hn n (by simp)
 obtain⟨M',T⟩:=M.new hno h2 h3 (e:=e);exact d9 hd h1 (hk val S _ _ M' (jG (M.none_o hno)) (kH M.imm _) (h4 _ _ _ (by simp[Ix.seto]) (fQ _ _)) T)
theorem UC {τ:TypeId→Option TE} {te:TE} {K:TypeId→Prop} (h:Uz τ te K):te.zero.cells= #[.pointer none,.slice none 0 0]∧∃e,K e:=by
 unfold Uz at h;split at h
 ·split at h
  ·rw[cB]at h
   obtain⟨tf,_,h⟩:=h;split at h
   ·exact⟨h.1,_,h.2⟩
   ·exact h.elim
  ·exact h.elim
 ·exact h.elim
theorem Ec (hτ:aY P τ) {te:TE} {t:TypeId} (ht:τ t=some te) {o:Oper} (ho:o.op=.alloc t) (w:World) (a:Act):
 (execOp a.eval o).run P w=.ok (.value (.pointer (some ⟨w.heap.size,0,none⟩))) {w with heap:=w.heap.push (.cells te.zero.cells t)}:=by
 simp only[execOp,ho];refine dQ ?_;simp[Instr.alloc,gN hτ ht,Result.andThen,newVar,newRow]
theorem QM (hτ:aY P τ) {o:Oper} {ρ:Operand→PV} {H0:Hp} {n:Nat} {t e:TypeId} {te:TE} (ho:o.op=.alloc t) (ht:τ t=some te) (hz:te.zero.cells= #[.pointer none,.slice none 0 0]):
 bE P r o ρ H0 (.rp n 0) [(n,.bld t e .empty)] [] [n]:=by
 intro S w ι H a next Q M hr ha hn hk;have hno:=hn n (by simp)
 have h1:=Ec hτ ht ho w a;have hnS:∀j,¬S w.heap.size j:=fun j hs=>by have:=eY (M.imm _ j hs);omega
 have hw:({w with heap:=w.heap.push (.cells te.zero.cells t)}:World).heap[w.heap.size]? =some (.cells te.zero.cells t (0,0)):=fQ _ _;have hoth:∀b,b<w.heap.size→({w with heap:=w.heap.push (.cells te.zero.cells t)}:World).heap[b]? =w.heap[b]? :=fun b hb=>by
  simp[ahS,Nat.ne_of_lt hb]
 obtain⟨M',le,keeps,T⟩:=M.gather [] (n:=n) (o':=.bld t e .empty) (X:=fun b=>b=w.heap.size) (bn:=w.heap.size) (H':=aQ H n (.bld t e .empty)) (fun k hk=>by simp at hk) hno rfl (fun b=>by simp[AO.has,Ix.setm])
  (w':={w with heap:=w.heap.push (.cells te.zero.cells t)}) ⟨rfl,rfl,rfl,by simp,fun b hb=>eZ (hoth b hb)⟩ hw (fun b hb _=>hoth b hb) (.inl (ahO _)) hnS (fun b hb=>.inl (Nat.le_of_eq hb.symm))
  (fun _ _=>⟨w.heap.size,.pointer none,.slice none 0 0,by simp[Ix.setm],by rw[hw,hz],.inl rfl,fun b' j hb'=>by
   have:b'=w.heap.size:=by simpa [Ix.setm]using hb'
   subst this;exact hnS j,by simp[Value.ownBlock],World.ownsRowF_nil _ _ _ _,fun b'=>by simp[Ix.setm,Value.ownBlock]⟩)
  (fun k=>by rw[bq];simp)
 exact d9 (fun c e=>by rw[ho]at e;cases e) h1 (hk _ S _ _ M' le keeps (.rp _ _ _ _ (by simp[Ix.setm])) T)
theorem JL (hτ:aY P τ) {md rf CP YP} {o:Oper} {ρ:Operand→PV} {H:Hp} {n:Nat} {t:TypeId} (ho:o.op=.alloc t) {K:KR}
 (h:opK τ md rf CP YP ρ H n o.dst o.op K):∃v sets accs news,K v sets accs news∧bE P r o ρ H v sets accs news:=by
 rw[ho]at h;simp only[opK,cB,cO]at h;obtain⟨te,ht,hfr,hK⟩:=h;split at hK
 ·obtain⟨hz,e,hK⟩:=UC hK
  exact⟨_,_,_,_,hK,QM hτ ho ht hz⟩
 rw[bg]at hK;refine⟨_,_,_,_,hK,lW (fun c e=>by rw[ho]at e;cases e) fun S w ι H' a M hr ha=>?_⟩
 refine⟨.pointer (some ⟨w.heap.size,0,none⟩),te.zero.cells,t,Ec hτ ht ho w a,?_,?_,?_⟩
 ·simp[CL.ncell,nG]
 ·intro j hj
  simp only[CL.ncell,nG]at hj;have:=tY (S:=S) (w:=w) (ι:=ι) te.zero.cells.toList j hj;simpa [CL.get,ahW]using this
 ·exact fun S' w' ι' hi _=>.rp _ _ _ _ hi
theorem QN (hτ:aY P τ) {md rf CP YP} {o:Oper} {ρ:Operand→PV} {H:Hp} {n:Nat} {t:TypeId} {x:Operand} (ho:o.op=.box t x) {K:KR}
 (h:opK τ md rf CP YP ρ H n o.dst o.op K):∃v sets accs news,K v sets accs news∧bE P r o ρ H v sets accs news:=by
 rw[ho]at h;simp only[opK,cB,bH]at h;obtain⟨te,ht,h⟩:=h;obtain⟨cs,h,hs⟩:=qw h;rw[cO]at h;refine⟨_,_,_,_,h.2,lW (fun c e=>by rw[ho]at e;cases e) fun S w ι H' a M hr ha=>?_⟩
 obtain⟨h1,h2,h3⟩:=hs (hr x (by simp[ho,Op.operands]))
 refine⟨.pointer (some ⟨w.heap.size,0,none⟩),(a.eval x).cells,t,?_,?_,?_,fun S' w' ι' hi _=>.rp _ _ _ _ hi⟩
 ·simp only[execOp,ho]
  refine dQ ?_;simp[Instr.box,newVar,newRow,Result.andThen]
 ·simp[CL.ncell,h2]
 ·exact fun j hj=>(h3 j hj).1
theorem mh (ps:List PV):∀(l:List PV) (o:Nat),(setCells l o ps).length=l.length:=by
 induction ps with
 |nil=>intro l o;rfl
 |cons p ps ih=>intro l o;simp[setCells,ih]
theorem vT (ps:List PV):∀(l:List PV) (o j:Nat),o+ps.length≤l.length→aD (setCells l o ps) j=if o≤j∧j<o+ps.length then aD ps (j-o)else aD l j:=by
 induction ps with
 |nil=>intro l o j h;simp only[setCells,ahG];rw[if_neg (by omega)]
 |cons p ps ih=>
  intro l o j h;simp only[ahK]at h;rw[setCells,ih _ _ _ (by simp;omega),ng]
  by_cases h1:j=o
  ·subst h1
   rw[if_neg (by omega),if_pos (by omega),if_pos (by simp only[ahK];omega),aiq];rfl
  ·by_cases h2:o+1≤j∧j<o+1+ps.length
   ·rw[if_pos h2,if_pos (by simp only[ahK];omega)]
    obtain⟨d,rfl⟩:∃d,j=o+1+d:=⟨j-(o+1),by omega⟩
    rw[show o+1+d-(o+1)=d by omega,show o+1+d-o=d+1 by omega];rfl
   ·rw[if_neg h2,if_neg (by omega),if_neg (by simp only[ahK];omega)]
theorem Rep.drop {S:Imm} {w:World} {ι:Ix} {c:CL} {t:Tok} {v:Value} (h:Rep S w ι (.isl c t) v):Rep S w ι (.isl c .none) v:=by
 cases h with
 |islnil _ _ _ hc=>exact .islnil _ _ _ hc
 |isl _ _ _ b off cap hc hs hh hf ho=>exact .isl _ _ _ _ _ _ hc hs hh (fun e=>by cases e) (fun k e=>by cases e)
theorem Ed {c:CL} {off:Nat} {cs:List PV} {K:CL→Prop} (h:wrK c off cs K):∃c',K c'∧c'.ncell=c.ncell∧off+cs.length≤c.ncell∧
 ∀j (S:Imm) (w:World) (ι:Ix) (v:Value),(if off≤j∧j<off+cs.length then Rep S w ι (aD cs (j-off)) v else Rep S w ι (c.get j) v)→j<c.ncell→Rep S w ι (c'.get j) v:=by
 unfold wrK at h;have one':∀(off j:Nat),off≤j∧j<off+1↔j=off:=fun off j=>by omega
 split at h
 ·rename_i ds
  rw[aL,bg]at h;have hb:=aio h.1;refine⟨_,h.2,by simp[CL.ncell,mh],hb,fun j S w ι v hv hj=>?_⟩
  simp only[CL.get,vT _ _ _ _ hb];split at hv
  ·rename_i hc;rw[if_pos hc];exact hv
  ·rename_i hc;rw[if_neg hc];exact hv
 ·rename_i q xs
  split at h
  ·rename_i q' x
   rw[aL]at h;obtain⟨hq,hlt,hK⟩:=h;have hq:=of_decide_eq_true hq;subst hq;refine⟨_,hK,by simp[CL.ncell],by simp[CL.ncell];omega,fun j S w ι v hv hj=>?_⟩
   simp only[ahK,ahG,aic,one']at hv;simp only[CL.get,ahZ,air];by_cases e:j=off
   ·subst e;simp only[if_true,aiq,aD]at hv;simpa [hlt]using hv
   ·rw[if_neg e]at hv;simp only[CL.get,ahZ]at hv;rw[if_neg (Ne.symm e)];exact hv
  ·exact h.elim
 ·rename_i xs
  have key:∀(b:Bool) (p:PV),(p=.bp b∨p=.bool b)→cs=[p]→off<xs.length→∃c',(∀(K:CL→Prop),K (.bools (xs.set off b))→K c')∧c'.ncell=(CL.bools xs).ncell∧off+cs.length≤(CL.bools xs).ncell∧
   ∀j (S:Imm) (w:World) (ι:Ix) (v:Value),(if off≤j∧j<off+cs.length then Rep S w ι (aD cs (j-off)) v else Rep S w ι ((CL.bools xs).get j) v)→j<(CL.bools xs).ncell→Rep S w ι (c'.get j) v:=by
   intro b p hp hcs hlt;refine⟨.bools (xs.set off b),fun K h=>h,by simp[CL.ncell],by simp[CL.ncell,hcs];omega,fun j S w ι v hv hj=>?_⟩
   simp only[hcs,ahK,ahG,aic,one']at hv;simp only[CL.get,ahZ,air];by_cases e:j=off
   ·subst e;simp only[if_true,aiq,aD]at hv
    have:Rep S w ι (.bp b) v:=by
     rcases hp with rfl|rfl
     ·exact hv
     ·cases hv;constructor
    simpa [hlt]using this
   ·rw[if_neg e]at hv;simp only[CL.get,ahZ]at hv;rw[if_neg (Ne.symm e)];exact hv
  split at h
  ·rename_i b
   obtain⟨c',h1,h2⟩:=key b _ (.inl rfl) rfl h.1;exact⟨c',h1 _ h.2,h2⟩
  ·rename_i b
   obtain⟨c',h1,h2⟩:=key b _ (.inr rfl) rfl h.1;exact⟨c',h1 _ h.2,h2⟩
  ·exact h.elim
 ·rename_i xs
  split at h
  ·rename_i x
   refine⟨_,h.2,by simp[CL.ncell],by simp[CL.ncell];omega,fun j S w ι v hv hj=>?_⟩
   simp only[ahK,ahG,aic,one']at hv;simp only[CL.get,ahZ,air];by_cases e:j=off
   ·subst e;simp only[if_true,aiq,aD]at hv;simpa [h.1]using hv
   ·rw[if_neg e]at hv;simp only[CL.get,ahZ]at hv;rw[if_neg (Ne.symm e)];exact hv
  ·exact h.elim
 ·rename_i q xss
  have key:∀(ys:List Int) (p:PV),(∀(S:Imm) (w:World) (ι:Ix) (v:Value),Rep S w ι p v→Rep S w ι (.isl (.ints q ys) .none) v)→cs=[p]→off<xss.length→
   ∃c',(∀(K:CL→Prop),K (.rows q (xss.set off ys))→K c')∧c'.ncell=(CL.rows q xss).ncell∧off+cs.length≤(CL.rows q xss).ncell∧
   ∀j (S:Imm) (w:World) (ι:Ix) (v:Value),(if off≤j∧j<off+cs.length then Rep S w ι (aD cs (j-off)) v else Rep S w ι ((CL.rows q xss).get j) v)→j<(CL.rows q xss).ncell→Rep S w ι (c'.get j) v:=by
   intro ys p hp hcs hlt;refine⟨.rows q (xss.set off ys),fun K h=>h,by simp[CL.ncell],by simp[CL.ncell,hcs];omega,fun j S w ι v hv hj=>?_⟩
   simp only[hcs,ahK,ahG,aic,one']at hv;simp only[CL.get,ahZ,air];by_cases e:j=off
   ·subst e;simp only[if_true,aiq,aD]at hv
    have:=hp _ _ _ _ hv;simpa [hlt]using this
   ·rw[if_neg e]at hv;simp only[CL.get,ahZ]at hv;rw[if_neg (Ne.symm e)];exact hv
  split at h
  ·rename_i q' ys t
   rw[aL]at h;obtain⟨hq,hlt,hK⟩:=h;have hq:=of_decide_eq_true hq;subst hq;obtain⟨c',h1,h2⟩:=key ys _ (fun S w ι v hv=>hv.drop) rfl hlt;exact⟨c',h1 _ hK,h2⟩
  ·obtain⟨c',h1,h2⟩:=key [] .nils (fun S w ι v hv=>by cases hv;exact .islnil _ _ _ rfl) rfl h.1
   exact⟨c',h1 _ h.2,h2⟩
  ·exact h.elim
 ·exact h.elim
theorem mq:∀{ps:List PV},fu.inlF ps=true→∀i,i<ps.length→∀{S:Imm} {w:World} {ι:Ix} {v:Value},Rep S w ι (aD ps i) v→Rep S w noI (aD ps i) v:=by
 intro ps;induction ps with
 |nil=>intro h i hi;simp at hi
 |cons x xs ih=>
  intro h i hi S w ι v hr;have hx:fu.inlF xs=true:=by
   unfold fu.inlF at h;split at h<;>first|exact h|cases h
  cases i with
  |succ i=>exact ih hx i (by simpa using hi) hr
  |zero=>
   simp only[aD]at hr⊢;unfold fu.inlF at h;split at h
   all_goals first
    |(cases h;done)
    |(cases hr;constructor;done)
    |(cases hr with
     |islnil _ _ _ hc=>exact .islnil _ _ _ hc
     |isl _ _ _ b off cap hc hs hh hf ho=>exact .isl _ _ _ _ _ _ hc hs hh hf (fun k e=>by cases e))
    |(cases hr with|ip _ _ _ b o' hs hh=>exact .ip _ _ _ _ _ hs hh)
    |(cases hr with|ipe _ _ _ _ b o' hs hh=>exact .ipe _ _ _ _ _ _ hs hh)
theorem JM (hτ:aY P τ) {md rf CP YP} {o:Oper} {ρ:Operand→PV} {H:Hp} {n:Nat} {t:TypeId} {x y:Operand} (ho:o.op=.store t x y) (hfz:Nh rf x=false) {K:KR}
 (h:opK τ md rf CP YP ρ H n o.dst o.op K):∃v sets accs news,K v sets accs news∧bE P r o ρ H v sets accs news:=by
 rw[ho]at h;simp only[opK,cB,bH,hfz]at h;obtain⟨te,ht,h⟩:=h;have hd:∀c,o.op≠ .defer c:=fun c e=>by rw[ho]at e;cases e
 split at h
 ·rename_i k off hρ
  obtain⟨cs,h,hs⟩:=qw h;rw[aX]at h;obtain⟨ob,hob,h⟩:=h;split at h
  ·rename_i c
   obtain⟨c',hK,hn1,hn2,hget⟩:=Ed h;refine⟨_,_,_,_,hK,?_⟩;intro S w ι H' a next Q M hr ha hn hk;have hob':=(ha k (by simp)).trans hob
   have hr1:=hr x (by simp[ho,Op.operands])
   obtain⟨e1,e2,e3⟩:=hs (hr y (by simp[ho,Op.operands]))
   rw[hρ]at hr1;obtain⟨b,arr,e,g1,g2,g3,g4,g5⟩:=M.obj k _ hob';cases hev:a.eval x<;>rw[hev]at hr1<;>cases hr1
   rename_i b' hb';rw[g1]at hb';cases hb'
   have hone:∀v∈(a.eval y).cells.toList,v.oneCell'=true:=by
    intro v hv;obtain⟨i,hi,rfl⟩:=ah3 hv;have h0:=e3 i (by rw[e2];simpa using hi)
    have:=h0.1.oneCell h0.2;simpa [ahW,ahT (show i<(a.eval y).cells.size by simpa using hi)]using this
   have hsz:off+0+(a.eval y).cells.toList.length≤arr.size:=by simp[←e2];omega
   obtain⟨w',r1,u⟩:=eH P (a.eval y).cells.toList g2 hone hsz;have hc':∀j,j<c'.ncell→Rep S w ι (c'.get j) ((putRow arr (off+0) (a.eval y).cells.toList).getD j undef):=by
    intro j hj;refine hget j S w ι _ ?_ (by omega)
    rw[ji _ _ _ _ (by simp[←e2];omega)]
    simp only[ahH,ais,←e2];split
    ·rename_i hin
     have:=(e3 (j-off) (by omega)).1
     simpa [ahW]using this
    ·have:=g4 j (by omega)
     simpa using this
   obtain⟨M',T⟩:=M.write hob' g1 g2 u (by rw[eT];exact ahO _) (by rw[eT];omega) hc'
   refine jk hd (w':=w') ?_ (hk undef S w' ι M' (.refl _) (T 0).keeps (.any _ _) T);simp only[execOp,ho];refine tZ ?_;simp only[Instr.storeAt,hev,Instr.sureAddr,Sem.run_bind,Sem.run_pure,Result.andThen,storeVar,bQ hτ ht];rw[if_neg (by simp[←e2,e1])]
   simpa [Result.andThen]using r1
  ·rename_i all l rc
   split at h
   ·rename_i k' b n' hv
    obtain⟨⟨hlt,hmem,hn'⟩,hK⟩:=h;refine⟨_,_,_,_,hK,?_⟩;intro S w ι H' a next Q M hr ha hn hk;have hob':=(ha k (by simp)).trans hob
    have hr1:=hr x (by simp[ho,Op.operands])
    have hr2:=hr y (by simp[ho,Op.operands])
    obtain⟨e1,e2,e3⟩:=hs hr2;rw[hρ]at hr1;rw[hv]at hr2;obtain⟨b0,arr,e,g1,g2,g3,g4,g5,g6,g7,g8⟩:=M.obj k _ hob';cases hev:a.eval x<;>rw[hev]at hr1<;>cases hr1
    rename_i b' hb';rw[g1]at hb';cases hb'
    cases hey:a.eval y<;>rw[hey]at hr2<;>cases hr2
    rename_i cap hcap;have hu:Upd w (w.setCell ⟨b0,off,none⟩ (.slice (some ⟨b,0,none⟩) n' cap)) b0 (arr.setIfInBounds off (.slice (some ⟨b,0,none⟩) n' cap)) e:=yH g2 _;obtain⟨w',r1,u⟩:=eH P [.slice (some ⟨b,0,none⟩) n' cap] (o:=off) (i:=0) g2 (by intro v hv;simp at hv;subst hv;rfl) (by simp;omega)
    simp only[ahH,putRow]at u;obtain⟨M',K',T⟩:=M.matOrd (l':=l.set off b) hob' g1 g2 u (by simp) (by simp;omega) (fun i hi=>by
     simp only[ait]at hi;obtain⟨q1,c1,q2,q3⟩:=g8 i hi;by_cases ei:i=off
     ·subst ei
      have e5:(l.set i b).getD i 0=b:=by simp[ahZ,hi]
      rw[e5];exact⟨hmem,cap,by rw[←hn'];exact hcap,by rw[←hn'];simp[ahW,show i<arr.size by omega]⟩
     ·have e5:(l.set off b).getD i 0=l.getD i 0:=by rw[ahZ,ahZ,aiu (Ne.symm ei)]
      rw[e5];refine⟨q1,c1,q2,?_⟩;rw[←q3];simp[ahW,aiv (Ne.symm ei)])
    refine jk hd (w':=w') ?_ (hk undef S w' ι M' (.refl _) K' (.any _ _) T);simp only[execOp,ho];refine tZ ?_;rw[hey]at e2 e3;simp only[Instr.storeAt,hev,Instr.sureAddr,Sem.run_bind,Sem.run_pure,Result.andThen,storeVar,bQ hτ ht,hey];rw[if_neg (by simp[←e2,e1])]
    simpa [Result.andThen,Value.cells]using r1
   ·exact h.elim
  ·exact h.elim
 ·rename_i k b m i j hρ
  rw[aX]at h;obtain⟨ob,hob,h⟩:=h;split at h
  ·rename_i all l rc
   obtain⟨hmem,h⟩:=h;unfold XB at h;split at h
   ·rename_i q c
    split at h
    ·rename_i q' z hv
     rw[aL]at h;simp only[aia,Bool.not_eq_true',decide_eq_true_eq]at h;obtain⟨hlt,⟨⟨e1,e2⟩,e3,hagg,e4⟩,hK⟩:=h;have e1:=aib e1;have e2:=aib e2;have e3:=aib e3;subst e1;subst e2;subst e4;refine⟨_,_,_,_,hK,?_⟩;intro S w ι H' a next Q M hr ha hn hk;have hob':=(ha k (by simp)).trans hob
     have hr1:=hr x (by simp[ho,Op.operands])
     have hr2:=hr y (by simp[ho,Op.operands])
     rw[hρ]at hr1;rw[hv]at hr2;obtain⟨b0,arr0,e0,_,_,_,_,_,_,g7,_⟩:=M.obj k _ hob';obtain⟨arr,e,g1,g2,g3,g4⟩:=g7 b hmem;cases hev:a.eval x<;>rw[hev]at hr1<;>cases hr1
     cases hey:a.eval y<;>rw[hey]at hr2<;>cases hr2
     have hsz:i<arr.size:=ahR hlt g2;obtain⟨w',r1,u⟩:=eH P [.int q' z] (o:=i*1+0) (i:=0) g1 (by intro v hv;simp at hv;subst hv;rfl) (by simp;omega)
     simp only[ahH,aip,putRow]at u;obtain⟨M',K',T⟩:=M.matRow (rc':=.ints q' (oN c b ((c b).set i z))) hob' hmem g1 u (by simp) (fun b' hb'=>by simp[RC.at,oN,hb']) (by simp[RC.at,oN,CL.cnt]) (by simpa [RC.at,oN,CL.ncell]using g2) (fun j hj=>by
      simp only[RC.at,oN,if_true,CL.ncell,ait]at hj⊢;have:=g3 j hj;simp only[RC.at,CL.get]at this⊢;by_cases ej:j=i
      ·subst ej
       rw[show((c b).set j z).getD j 0=z by simp[ahZ,hj]]
       simp[ahW,hsz];exact .int _ _ _
      ·rw[show((c b).set i z).getD j 0=(c b).getD j 0 by rw[ahZ,ahZ,aiu (Ne.symm ej)]]
       simpa [ahW,aiv (Ne.symm ej)]using this)
     refine jk hd (w':=w') ?_ (hk undef S w' ι M' (.refl _) K' (.any _ _) T);simp only[execOp,ho];refine tZ ?_;simp only[Instr.storeAt,hev,Instr.sureAddr,Sem.run_bind,Sem.run_pure,Result.andThen,storeVar,bQ hτ ht,hey];rw[if_neg (by simp[Value.cells,e3])]
     simpa [Result.andThen,Value.cells]using r1
    ·exact h.elim
   ·rename_i e' c
    split at h
    ·rename_i cs hv
     rw[aL]at h;simp only[aia]at h;obtain⟨⟨hlt,hlen,hone,hinl⟩,⟨⟨e1,e2⟩,e3,hagg⟩,hK⟩:=h;have e1:=aib e1;have e2:=aib e2;have e3:=aib e3;subst e1;subst e2;refine⟨_,_,_,_,hK,?_⟩;intro S w ι H' a next Q M hr ha hn hk;have hob':=(ha k (by simp)).trans hob
     have hr1:=hr x (by simp[ho,Op.operands])
     have hr2:=hr y (by simp[ho,Op.operands])
     rw[hρ]at hr1;rw[hv]at hr2;obtain⟨b0,arr0,e0,_,_,_,_,_,_,g7,_⟩:=M.obj k _ hob';obtain⟨arr,e,g1,g2,g3,g4⟩:=g7 b hmem;cases hev:a.eval x<;>rw[hev]at hr1<;>cases hr1
     obtain⟨vy,hey⟩:∃v,a.eval y=v:=⟨_,rfl⟩;rw[hey]at hr2;cases hr2 with
     |agg _ _ vs hvl hvs=>
     have hvs':=hvs;have hrow:i*m+m≤(c b).length*m:=by
      have:=ail m (show i+1≤(c b).length by omega)
      rw[ain,aiw]at this;exact this
     have g2':(c b).length*m≤arr.size:=g2;have hvm:vs.size=m:=by omega
     have honeV:∀v∈vs.toList,v.oneCell'=true:=by
      intro v hv;obtain⟨q,hq,rfl⟩:=ah3 hv;have hq':q<cs.length:=by simp at hq;omega
      have:=(hvs q hq').oneCell (o7 cs hone q hq');simpa [ahW,ahT (show q<vs.size by simpa using hq)]using this
     obtain⟨w',r1,u⟩:=eH P vs.toList (o:=i*m+0) (i:=0) g1 honeV (by simp;omega)
     simp only[ahH]at u;have hput:∀j,(putRow arr (i*m) vs.toList).getD j undef=if i*m≤j∧j<i*m+m then vs.getD (j-i*m) undef else arr.getD j undef:=by
      intro j;rw[ji _ _ _ _ (by simp;omega)]
      simp only[ais,hvm];congr 1;simp[ahW]
     obtain⟨M',K',T⟩:=M.matRow (rc':=.recs m (oN c b ((c b).set i cs))) hob' hmem g1 u (by rw[eT];exact ahO _) (fun b' hb'=>by simp[RC.at,oN,hb']) (by simp[RC.at,oN,CL.cnt]) (by rw[eT];simpa [RC.at,oN,CL.ncell]using g2) (fun j hj=>by
      simp only[RC.at,oN,if_true,CL.ncell,ait]at hj⊢;have hm0:0<m:=Nat.pos_of_ne_zero (fun hz=>by subst hz;simp at hj)
      have hdj:j / m<(c b).length:=(aix hm0).2 hj;have old:=g3 j (by simpa [RC.at,CL.ncell]using hj)
      simp only[RC.at,CL.get]at old⊢;have hdm:=Nat.div_add_mod j m;have hml:=Nat.mod_lt j hm0;rw[hput];by_cases ej:j / m=i
      ·have hj1:i*m≤j:=by rw[←ej,aie];omega
       have hj2:j-i*m=j % m:=by rw[←ej,aie];omega
       rw[if_pos ⟨hj1,by rw[←ej,aie];rw[←ej]at hj1;omega⟩,hj2]
       rw[show((c b).set i cs).getD (j / m) []=cs by rw[ej];simp[ahZ,←ej,hdj]]
       exact mq hinl (j % m) (by omega) (hvs (j % m) (by omega))
      ·rw[show((c b).set i cs).getD (j / m) []=(c b).getD (j / m) [] by rw[ahZ,ahZ,aiu (Ne.symm ej)]]
       rw[if_neg (fun hh=>ej (by
        have h1:i≤j / m:=(Nat.le_div_iff_mul_le hm0).2 hh.1;have h2:j / m<i+1:=(aix hm0).2 (by rw[ain,aiw];exact hh.2)
        omega))]
       exact old)
     refine jk hd (w':=w') ?_ (hk undef S w' ι M' (.refl _) K' (.any _ _) T);simp only[execOp,ho];refine tZ ?_;simp only[Instr.storeAt,hev,Instr.sureAddr,Sem.run_bind,Sem.run_pure,Result.andThen,storeVar,bQ hτ ht,hey];rw[if_neg (by simp[Value.cells,e3,hvm])]
     simpa [Result.andThen,Value.cells]using r1
    ·exact h.elim
  ·exact h.elim
 ·exact h.elim
variable {P:Program} {r:Option Nat} {τ:TypeId→Option TE}
theorem lX {md:Nat} {k:IntKind} {n:Int} {K:PV→Prop} (h:arK md k n K):K (.int k (k.wrap n)):=by
 unfold arK at h;split at h
 ·exact h
 ·rw[sG h.1];exact h.2
theorem Nk {t:TypeId} {md:Nat} {op:BinOp} {a:IntKind} {m n:Int} {K:PV→Prop} (h:M8 md op a m n K) (hsh:op≠ .shl∧op≠ .shr):
 ∃v val,K v∧(∀S w ι,Rep S w ι v val)∧∀w,(binOp op t (.int a m) (.int a n)).run P w=.ok val w:=by
 cases op with
 |add=>exact⟨_,_,lX h,fun _ _ _=>.int _ _ _,fun w=>by simp[binOp,Op.intArith]⟩
 |sub=>exact⟨_,_,lX h,fun _ _ _=>.int _ _ _,fun w=>by simp[binOp,Op.intArith]⟩
 |mul=>exact⟨_,_,lX h,fun _ _ _=>.int _ _ _,fun w=>by simp[binOp,Op.intArith]⟩
 |quo=>
  simp only[M8]at h;have key:n≠0→∀w,(binOp .quo t (.int a m) (.int a n)).run P w=.ok (.int a (a.wrap (m.tdiv n))) w:=fun hn w=>by simp[binOp,Op.intDiv,hn]
  split at h
  ·obtain⟨⟨h1,h2,h3⟩,h4⟩:=h
   refine⟨_,_,h4,fun _ _ _=>.int _ _ _,fun w=>?_⟩;rw[key (by omega) w,Int.tdiv_eq_ediv_of_nonneg h1,sG h3]
  ·obtain⟨⟨h1,h3⟩,h4⟩:=h
   refine⟨_,_,h4,fun _ _ _=>.int _ _ _,fun w=>?_⟩;rw[key h1 w,sG h3]
  ·exact⟨_,_,h.2,fun _ _ _=>.int _ _ _,key h.1⟩
 |rem=>
  simp only[M8]at h;have key:n≠0→∀w,(binOp .rem t (.int a m) (.int a n)).run P w=.ok (.int a (m.tmod n)) w:=fun hn w=>by simp[binOp,Op.intDiv,hn]
  split at h
  ·obtain⟨⟨h1,h2⟩,h4⟩:=h
   refine⟨_,_,h4,fun _ _ _=>.int _ _ _,fun w=>?_⟩;rw[key (by omega) w,Int.tmod_eq_emod_of_nonneg h1]
  ·exact⟨_,_,h.2,fun _ _ _=>.int _ _ _,key h.1⟩
 |eql=>exact⟨_,_,h,fun _ _ _=>.bp _ _,fun w=>by simp[binOp,Op.intCmp];rfl⟩
 |neq=>exact⟨_,_,h,fun _ _ _=>.bp _ _,fun w=>by simp[binOp,Op.intCmp];rfl⟩
 |lss=>exact⟨_,_,h,fun _ _ _=>.bp _ _,fun w=>by simp[binOp,Op.intCmp]⟩
 |leq=>exact⟨_,_,h,fun _ _ _=>.bp _ _,fun w=>by simp[binOp,Op.intCmp]⟩
 |gtr=>exact⟨_,_,h,fun _ _ _=>.bp _ _,fun w=>by simp[binOp,Op.intCmp]⟩
 |geq=>exact⟨_,_,h,fun _ _ _=>.bp _ _,fun w=>by simp[binOp,Op.intCmp]⟩
 |and=>exact⟨_,_,h,fun _ _ _=>.int _ _ _,fun w=>by simp[binOp,Op.intBits]⟩
 |or=>exact⟨_,_,h,fun _ _ _=>.int _ _ _,fun w=>by simp[binOp,Op.intBits]⟩
 |xor=>exact⟨_,_,h,fun _ _ _=>.int _ _ _,fun w=>by simp[binOp,Op.intBits]⟩
 |andNot=>exact⟨_,_,h,fun _ _ _=>.int _ _ _,fun w=>by simp[binOp,Op.intBits]⟩
 |shl=>exact absurd rfl hsh.1
 |shr=>exact absurd rfl hsh.2
theorem KZ (x y:ByteArray):(x.toList==y.toList)=decide (x=y):=by
 rw[ByteArray.toList_eq,ByteArray.toList_eq];by_cases h:x=y
 ·subst h;simp
 ·rw[decide_eq_false h]
  simp only[beq_eq_false_iff_ne,ne_eq];exact fun e=>h (Go.WideShapes.bytes_inj e)
theorem Nl {op:BinOp} {x y:ByteArray} {K:PV→Prop} (h:Uv op x y K) {t:TypeId}:∃v val,K v∧(∀S w ι,Rep S w ι v val)∧∀w,(binOp op t (.string x) (.string y)).run P w=.ok val w:=by
 cases op<;>simp only[Uv]at h<;>try exact h.elim
 ·refine⟨_,_,h.2,fun _ _ _=>.str _ _,fun w=>?_⟩
  simp only[binOp,Op.stringOp];rw[if_neg (by simp[IntKind.max,IntKind.signed,IntKind.bits];omega)];rfl
 ·exact⟨_,_,h,fun _ _ _=>.bp _ _,fun w=>by simp[binOp,Op.stringOp,KZ]⟩
 ·exact⟨_,_,h,fun _ _ _=>.bp _ _,fun w=>by simp[binOp,Op.stringOp,KZ]⟩
 ·exact⟨_,_,h,fun _ _ _=>.bp _ _,fun w=>by simp[binOp,Op.stringOp]⟩
theorem Nn {op:BinOp} {x y:Bool} {K:PV→Prop} (h:yX op x y K) {t:TypeId} (ht:P.underlying t=some .bool):∃v val,K v∧(∀S w ι,Rep S w ι v val)∧∀w,(binOp op t (.bool x) (.bool y)).run P w=.ok val w:=by
 have he:∀w,(Op.equal t (.bool x) (.bool y)).run P w=.ok (x==y) w:=fun w=>by
  have e:Op.maxDepth=9999+1:=rfl;unfold Op.equal;rw[e,Op.equalIn];simp only[Sem.run_bind,run_underlying ht,Result.andThen,Sem.run_pure]
 cases op<;>simp only[yX]at h<;>try exact h.elim
 ·exact⟨_,_,h,fun _ _ _=>.bp _ _,fun w=>by simp only[binOp,Sem.run_bind,he,Result.andThen,Sem.run_pure]⟩
 ·exact⟨_,_,h,fun _ _ _=>.bp _ _,fun w=>by simp only[binOp,Sem.run_bind,he,Result.andThen,Sem.run_pure]⟩
structure Held (P:Program) (t:TypeId) (vx vy:Value):Prop where
 get:(vx≠ .nilIface∧∀c,vx≠ .agg c)∨(P.eqGuardType P.depth t=false∧∃xs ys,vx=.agg xs∧vy=.agg ys)
theorem JN {k:CK} {c d:PV} {K:Bool→Prop} (h:M9 k c d K):∃r,K r∧∀{S:Imm} {w:World} {ι:Ix} {u v:Value},Rep S w ι c u→Rep S w ι d v→k.fits u∧k.fits v∧(r=true↔u=v):=by
 unfold M9 at h;split at h
 ·split at h
  ·split at h
   ·rw[aL]at h
    obtain⟨h1,h⟩:=h;simp only[aia,decide_eq_true_eq]at h1;obtain⟨rfl,rfl⟩:=h1;refine⟨_,h,fun hx hy=>?_⟩;cases hx;cases hy
    exact⟨⟨_,rfl⟩,⟨_,rfl⟩,by simp⟩
   ·exact h.elim
  ·exact h.elim
 ·split at h
  ·split at h
   ·refine⟨_,h,fun hx hy=>?_⟩
    cases hx;cases hy
    exact⟨⟨_,rfl⟩,⟨_,rfl⟩,by simp⟩
   ·exact h.elim
  ·exact h.elim
 ·split at h
  ·split at h
   ·refine⟨_,h,fun hx hy=>?_⟩
    cases hx;cases hy
    exact⟨⟨_,rfl⟩,⟨_,rfl⟩,by simp⟩
   ·exact h.elim
  ·exact h.elim
theorem yI (ks:List CK):∀{cs ds:List PV} {K:Bool→Prop} (h:flatK ks cs ds K),∃r,K r∧cs.length=ks.length∧ds.length=ks.length∧∀{S:Imm} {w:World} {ι:Ix} {xs ys:Array Value} {off:Nat},off+cs.length=xs.size→off+ds.length=ys.size→
 (∀i,i<cs.length→Rep S w ι (aD cs i) (xs.getD (off+i) undef))→(∀i,i<ds.length→Rep S w ι (aD ds i) (ys.getD (off+i) undef))→dJ ks xs off∧dJ ks ys off∧(r=true↔dU ks xs ys off):=by
 induction ks with
 |nil=>
  intro cs ds K h;cases cs with
  |cons _ _=>exact h.elim
  |nil=>cases ds with
   |cons _ _=>exact h.elim
   |nil=>exact⟨true,h,rfl,rfl,fun h1 h2 _ _=>⟨by simp only[dJ,ahG]at*;omega,by simp only[dJ,ahG]at*;omega,by simp[dU]⟩⟩
 |cons k r ih=>
  intro cs ds K h;cases cs with
  |nil=>exact h.elim
  |cons c cs=>cases ds with
   |nil=>exact h.elim
   |cons d ds=>
    obtain⟨b,h,hb⟩:=JN (by simpa only[flatK]using h)
    obtain⟨t,h,e1,e2,ht⟩:=ih h;refine⟨_,h,by simp[e1],by simp[e2],fun{S w ι xs ys off} h1 h2 h3 h4=>?_⟩
    simp only[ahK]at h1 h2;obtain⟨f1,f2,f3⟩:=hb (h3 0 (by simp)) (h4 0 (by simp))
    obtain⟨g1,g2,g3⟩:=ht (xs:=xs) (ys:=ys) (off:=off+1) (by omega) (by omega) (fun i hi=>by have:=h3 (i+1) (by simpa using hi);rw[show off+1+i=off+(i+1) by omega];exact this) (fun i hi=>by have:=h4 (i+1) (by simpa using hi);rw[show off+1+i=off+(i+1) by omega];exact this)
    have q1:xs[off]? =some (xs.getD (off+0) undef):=by simp[show off<xs.size by omega]
    have q2:ys[off]? =some (ys.getD (off+0) undef):=by simp[show off<ys.size by omega]
    refine⟨⟨⟨_,q1,f1⟩,g1⟩,⟨⟨_,q2,f2⟩,g2⟩,?_⟩;simp only[dU,q1,q2,aia,f3,g3,Option.some.injEq]
theorem Np {md:Nat} {op:BinOp} {te:TE} {x y:PV} {K:PV→Prop} (h:Uw md op te x y K) {t:TypeId} (ht:P.underlying t=some te.und) (hcmp:∀ks,te.cmp=some ks→Fp P t ks):
 ∃v,K v∧∀{S:Imm} {w:World} {ι:Ix} {vx vy:Value},Rep S w ι x vx→Rep S w ι y vy→Held P t vx vy∧∃val,(binOp op t vx vy).run P w=.ok val w∧Rep S w ι v val:=by
 have boolc:∀(s u:Bool) (p q:PV),te.und=.bool→yX op s u K→(∀{S:Imm} {w:World} {ι:Ix} {v:Value},Rep S w ι p v→v=.bool s)→(∀{S:Imm} {w:World} {ι:Ix} {v:Value},Rep S w ι q v→v=.bool u)→
  ∃v,K v∧∀{S:Imm} {w:World} {ι:Ix} {vx vy:Value},Rep S w ι p vx→Rep S w ι q vy→Held P t vx vy∧∃val,(binOp op t vx vy).run P w=.ok val w∧Rep S w ι v val:=by
  intro s u p q hu hb hp hq;obtain⟨v,val,h1,h2,h3⟩:=Nn (P:=P) hb (by rw[ht,hu])
  refine⟨v,h1,fun hx hy=>?_⟩;rw[hp hx,hq hy];exact⟨⟨.inl ⟨by simp,by simp⟩⟩,val,h3 _,h2 _ _ _⟩
 have bv:∀{s:Bool} {S:Imm} {w:World} {ι:Ix} {v:Value},Rep S w ι (.bool s) v→v=.bool s:=fun h=>by cases h;rfl
 have bpv:∀{s:Bool} {S:Imm} {w:World} {ι:Ix} {v:Value},Rep S w ι (.bp s) v→v=.bool s:=fun h=>by cases h;rfl
 unfold Uw at h;split at h
 ·rename_i cs
  split at h
  ·rename_i ds
   split at h
   ·rename_i ks hks
    obtain⟨hg,n,hn,hA⟩:=hcmp ks hks;have key:∀{r:Bool} {S:Imm} {w:World} {ι:Ix} {vx vy:Value},(∀{S:Imm} {w:World} {ι:Ix} {xs ys:Array Value} {off:Nat},off+cs.length=xs.size→off+ds.length=ys.size→
     (∀i,i<cs.length→Rep S w ι (aD cs i) (xs.getD (off+i) undef))→(∀i,i<ds.length→Rep S w ι (aD ds i) (ys.getD (off+i) undef))→dJ ks xs off∧dJ ks ys off∧(r=true↔dU ks xs ys off))→
     Rep S w ι (.agg cs) vx→Rep S w ι (.agg ds) vy→Held P t vx vy∧(∃xs ys,vx=.agg xs∧vy=.agg ys)∧(Op.equal t vx vy).run P w=.ok r w:=by
     intro r S w ι vx vy hr hx hy;cases hx with
     |agg _ _ xs l1 c1=>cases hy with
      |agg _ _ ys l2 c2=>
       obtain⟨f1,f2,f3⟩:=hr (xs:=xs) (ys:=ys) (off:=0) (by omega) (by omega) (fun i hi=>by rw[aic];exact c1 i hi) (fun i hi=>by rw[aic];exact c2 i hi)
       obtain⟨r',e1,e2⟩:=hA w Op.maxDepth xs ys (by unfold Op.maxDepth;omega) f1 f2
       refine⟨⟨.inr ⟨hg,xs,ys,rfl,rfl⟩⟩,⟨xs,ys,rfl,rfl⟩,?_⟩;have:r'=r:=by rw[Bool.eq_iff_iff,e2,f3]
       rw[←this];exact e1
    split at h
    ·obtain⟨r,h,_,_,hr⟩:=yI ks h
     refine⟨_,h,fun hx hy=>?_⟩;obtain⟨k1,⟨xs,ys,rfl,rfl⟩,k2⟩:=key hr hx hy;exact⟨k1,.bool r,by simp only[binOp,Sem.run_bind,k2,Result.andThen,Sem.run_pure],.bp _ _⟩
    ·obtain⟨r,h,_,_,hr⟩:=yI ks h
     refine⟨_,h,fun hx hy=>?_⟩;obtain⟨k1,⟨xs,ys,rfl,rfl⟩,k2⟩:=key hr hx hy;exact⟨k1,.bool (!r),by simp only[binOp,Sem.run_bind,k2,Result.andThen,Sem.run_pure],.bp _ _⟩
    ·exact h.elim
   ·exact h.elim
  ·exact h.elim
 ·rename_i a m
  split at h
  ·rename_i b n
   split at h
   ·obtain⟨⟨h1,h2⟩,h3⟩:=h
    refine⟨_,lX h3,fun hx hy=>?_⟩;cases hx;cases hy
    refine⟨⟨.inl ⟨by simp,by simp⟩⟩,_,?_,.int _ _ _⟩
    simp only[binOp,Op.shift];rw[if_neg (by omega),aiy h2];rfl
   ·obtain⟨⟨h1,h2,h4⟩,h3⟩:=h
    refine⟨_,h3,fun hx hy=>?_⟩;cases hx;cases hy
    refine⟨⟨.inl ⟨by simp,by simp⟩⟩,.int a (m.fdiv (2 ^ n.toNat)),?_,?_⟩
    ·simp only[binOp,Op.shift]
     rw[if_neg (by omega),aiy h2];rfl
    ·rw[Int.fdiv_eq_ediv_of_nonneg _ (Int.pow_nonneg (by omega))];exact .int _ _ _
   ·rename_i op' hs1 hs2
    rw[aL]at h;have e:=of_decide_eq_true h.1;subst e;obtain⟨v,val,h1,h2,h3⟩:=Nk (P:=P) (t:=t) h.2 ⟨fun e=>hs1 e,fun e=>hs2 e⟩;refine⟨v,h1,fun hx hy=>?_⟩;cases hx;cases hy
    exact⟨⟨.inl ⟨by simp,by simp⟩⟩,val,h3 _,h2 _ _ _⟩
  ·exact h.elim
 ·rename_i s
  split at h
  ·rename_i u
   obtain⟨v,val,h1,h2,h3⟩:=Nl (P:=P) h (t:=t);refine⟨v,h1,fun hx hy=>?_⟩;cases hx;cases hy
   exact⟨⟨.inl ⟨by simp,by simp⟩⟩,val,h3 _,h2 _ _ _⟩
  ·exact h.elim
 ·split at h
  ·rename_i hu
   split at h
   ·exact boolc _ _ _ _ hu h bpv bpv
   ·exact boolc _ _ _ _ hu h bpv bv
   ·exact h.elim
  ·exact h.elim
 ·split at h
  ·rename_i hu
   split at h
   ·exact boolc _ _ _ _ hu h bv bpv
   ·exact boolc _ _ _ _ hu h bv bv
   ·exact h.elim
  ·exact h.elim
 ·split at h
  ·split at h
   ·rename_i c tk _ _ e hu
    have hsl:∀{S:Imm} {w:World} {ι:Ix} {vx vy:Value},c.cnt≠0→Rep S w ι (.isl c tk) vx→Rep S w ι .nils vy→(∃b n m,vx=.slice (some b) n m)∧vy=.slice none 0 0:=by
     intro S w ι vx vy hc hx hy;cases hy
     cases hx with
     |islnil _ _ _ h0=>exact absurd h0 hc
     |isl _ _ _ b off cap _ _ _ _ _=>exact⟨⟨_,_,_,rfl⟩,rfl⟩
    have heq:∀(b:Addr) (n m:Nat) (w:World),(Op.equal t (.slice (some b) n m) (.slice none 0 0)).run P w=.ok false w:=fun b n m w=>by
     have e:Op.maxDepth=9999+1:=rfl;unfold Op.equal;rw[e,Op.equalIn];rw[hu]at ht;simp only[Sem.run_bind,run_underlying ht,Result.andThen,Sem.run_pure]
    split at h
    ·refine⟨_,h.2,fun{S w ι vx vy} hx hy=>?_⟩
     obtain⟨⟨b,n,m,rfl⟩,rfl⟩:=hsl h.1 hx hy;exact⟨⟨.inl ⟨by simp,by simp⟩⟩,.bool false,by simp only[binOp,Sem.run_bind,heq,Result.andThen,Sem.run_pure],.bp _ _⟩
    ·refine⟨_,h.2,fun{S w ι vx vy} hx hy=>?_⟩
     obtain⟨⟨b,n,m,rfl⟩,rfl⟩:=hsl h.1 hx hy;exact⟨⟨.inl ⟨by simp,by simp⟩⟩,.bool true,by simp only[binOp,Sem.run_bind,heq,Result.andThen,Sem.run_pure,aiz],.bp _ _⟩
    ·exact h.elim
   ·exact h.elim
  ·exact h.elim
 ·split at h
  ·split at h
   ·rename_i e hu
    have heq:∀(w:World),(Op.equal t (.slice none 0 0) (.slice none 0 0)).run P w=.ok true w:=fun w=>by
     have e:Op.maxDepth=9999+1:=rfl;unfold Op.equal;rw[e,Op.equalIn];rw[hu]at ht;simp only[Sem.run_bind,run_underlying ht,Result.andThen,Sem.run_pure];rfl
    split at h
    ·refine⟨_,h,fun{S w ι vx vy} hx hy=>?_⟩
     cases hx;cases hy
     exact⟨⟨.inl ⟨by simp,by simp⟩⟩,.bool true,by simp only[binOp,Sem.run_bind,heq,Result.andThen,Sem.run_pure],.bool _ _⟩
    ·refine⟨_,h,fun{S w ι vx vy} hx hy=>?_⟩
     cases hx;cases hy
     exact⟨⟨.inl ⟨by simp,by simp⟩⟩,.bool false,by simp only[binOp,Sem.run_bind,heq,Result.andThen,Sem.run_pure,aiA],.bool _ _⟩
    ·exact h.elim
   ·exact h.elim
  ·exact h.elim
 ·split at h
  ·split at h
   ·rename_i e hu
    have hsl:∀{S:Imm} {w:World} {ι:Ix} {vx vy:Value} {k off n:Nat},Rep S w ι (.rsl k off n) vx→Rep S w ι .nils vy→(∃b n m,vx=.slice (some b) n m)∧vy=.slice none 0 0:=by
     intro S w ι vx vy k off n hx hy;cases hy
     cases hx with
     |rsl _ _ _ _ _ _ _ _ _=>exact⟨⟨_,_,_,rfl⟩,rfl⟩
     |rslz _ _ _ _ _ _=>exact⟨⟨_,_,_,rfl⟩,rfl⟩
    have heq:∀(b:Addr) (n m:Nat) (w:World),(Op.equal t (.slice (some b) n m) (.slice none 0 0)).run P w=.ok false w:=fun b n m w=>by
     have e:Op.maxDepth=9999+1:=rfl;unfold Op.equal;rw[e,Op.equalIn];rw[hu]at ht;simp only[Sem.run_bind,run_underlying ht,Result.andThen,Sem.run_pure]
    split at h
    ·refine⟨_,h,fun{S w ι vx vy} hx hy=>?_⟩
     obtain⟨⟨b,n,m,rfl⟩,rfl⟩:=hsl hx hy;exact⟨⟨.inl ⟨by simp,by simp⟩⟩,.bool false,by simp only[binOp,Sem.run_bind,heq,Result.andThen,Sem.run_pure],.bool _ _⟩
    ·refine⟨_,h,fun{S w ι vx vy} hx hy=>?_⟩
     obtain⟨⟨b,n,m,rfl⟩,rfl⟩:=hsl hx hy;exact⟨⟨.inl ⟨by simp,by simp⟩⟩,.bool true,by simp only[binOp,Sem.run_bind,heq,Result.andThen,Sem.run_pure,aiz],.bool _ _⟩
    ·exact h.elim
   ·exact h.elim
  ·exact h.elim
 ·exact h.elim
theorem Nq {op:BinOp} {t:TypeId} {x y:Operand} {a b:Value} (h:a≠ .nilIface∧∀c,a≠ .agg c) (w:World):(eqGuard op t x y a b).run P w=.ok () w:=by
 unfold eqGuard;cases a with
 |nilIface=>exact absurd rfl h.1
 |agg c=>exact absurd rfl (h.2 c)
 |_=>cases op<;>simp
theorem Y9 {op:BinOp} {t:TypeId} {x y:Operand} {a b:Value} (h:Held P t a b) (w:World):(eqGuard op t x y a b).run P w=.ok () w:=by
 rcases h.get with h1|⟨h1,xs,ys,e1,e2⟩
 ·exact Nq h1 w
 ·rw[e1,e2];exact run_eqGuard_agg w op t x y xs ys h1
theorem QO {d:TypeDesc} {v:PV} {y:Operand} (h:Ni d v y=true):y=.const .nilIface∧v=.nili∧∃ms,d=.interface ms:=by
 unfold Ni at h;split at h
 ·split at h
  ·split at h
   ·split at h
    ·exact⟨rfl,rfl,_,rfl⟩
    ·cases h
   ·cases h
  ·cases h
 ·cases h
theorem K4 {t:TypeId} {ms:Array (String × TypeId)} (ht:P.underlying t=some (.interface ms)) (w:World):(binOp .eql t .nilIface .nilIface).run P w=.ok (.bool true) w∧(binOp .neq t .nilIface .nilIface).run P w=.ok (.bool false) w:=by
 have heq:(Op.equal t .nilIface .nilIface).run P w=.ok true w:=by
  have e:Op.maxDepth=9999+1:=rfl;unfold Op.equal;rw[e,Op.equalIn];simp only[Sem.run_bind,run_underlying ht,Result.andThen,Sem.run_pure]
 constructor
 ·simp only[binOp,Sem.run_bind,heq,Result.andThen,Sem.run_pure]
 ·simp only[binOp,Sem.run_bind,heq,Result.andThen,Sem.run_pure,aiA]
theorem Nr (op:BinOp) (t:TypeId) (x:Operand) (w:World):(eqGuard op t x (.const .nilIface) .nilIface .nilIface).run P w=.ok () w:=by
 unfold eqGuard;cases op<;>simp
theorem QS (hτ:aY P τ) {md rf CP YP} {o:Oper} {ρ:Operand→PV} {H:Hp} {n:Nat} {op:BinOp} {t u:TypeId} {x y:Operand} (ho:o.op=.binOp op t x y u) {K:KR}
 (h:opK τ md rf CP YP ρ H n o.dst o.op K):∃v sets accs news,K v sets accs news∧bE P r o ρ H v sets accs news:=by
 rw[ho]at h;simp only[opK,cB]at h;obtain⟨te,ht,h⟩:=h;split at h
 ·rename_i hn
  obtain⟨rfl,hx,ms,hu⟩:=QO hn;have hund:P.underlying t=some (.interface ms):=(hτ.und t te ht).trans (congrArg some hu);have fin:∀(b:Bool),(∀w:World,(binOp op t .nilIface .nilIface).run P w=.ok (.bool b) w)→bE P r o ρ H (.bool b) [] [] []:=fun b hb=>
   aU (fun c e=>by rw[ho]at e;cases e) fun S w ι H' a M hr ha=>by
    have h1:=hr x (by simp[ho,Op.operands])
    rw[hx]at h1;have h2:a.eval x=.nilIface:=by generalize a.eval x=v at h1;cases h1;rfl
    have h3:a.eval (.const .nilIface)=.nilIface:=rfl;refine⟨.bool b,?_,.bool _ _⟩;simp only[execOp,ho,h2,h3];exact dQ (by simp[Nr,Result.andThen,hb])
  split at h
  ·exact⟨_,_,_,_,h,fin true fun w=>(K4 hund w).1⟩
  ·exact⟨_,_,_,_,h,fin false fun w=>(K4 hund w).2⟩
  ·exact h.elim
 simp only[bH]at h;obtain⟨v,hK,hs⟩:=Np h (hτ.und t te ht) (fun ks hk=>hτ.cmp t te ks ht hk);refine⟨v,_,_,_,hK,aU (fun c e=>by rw[ho]at e;cases e) fun S w ι H' a M hr ha=>?_⟩
 obtain⟨hg,val,h1,h2⟩:=hs (hr x (by simp[ho,Op.operands])) (hr y (by simp[ho,Op.operands]))
 refine⟨val,?_,h2⟩;simp only[execOp,ho];exact dQ (by simp[Y9 hg,Result.andThen,h1])
theorem UD (hτ:aY P τ) {md rf CP YP} {o:Oper} {ρ:Operand→PV} {H:Hp} {n:Nat} {op:UnOp} {t:TypeId} {x:Operand} (ho:o.op=.unOp op t x) {K:KR}
 (h:opK τ md rf CP YP ρ H n o.dst o.op K):∃v sets accs news,K v sets accs news∧bE P r o ρ H v sets accs news:=by
 rw[ho]at h;simp only[opK,bH]at h;have key:∃v,K v [] [] []∧∀{S:Imm} {w:World} {ι:Ix} {vx:Value},Rep S w ι (ρ x) vx→∃val,(Op.unary op vx).run P w=.ok val w∧Rep S w ι v val:=by
  unfold unK at h;split at h
  ·split at h
   ·rename_i b hb
    refine⟨_,h,fun hx=>?_⟩;rw[hb]at hx;cases hx
    exact⟨_,rfl,.bp _ _⟩
   ·rename_i b hb
    split at h
    ·refine⟨_,h,fun hx=>?_⟩
     rw[hb]at hx;cases hx
     exact⟨_,rfl,.bool _ _⟩
    ·refine⟨_,h,fun hx=>?_⟩
     rw[hb]at hx;cases hx
     exact⟨_,rfl,.bool _ _⟩
   ·exact h.elim
  ·split at h
   ·rename_i k m hb
    refine⟨_,lX h,fun hx=>?_⟩;rw[hb]at hx;cases hx
    exact⟨_,by simp[Op.unary,Op.intArith];rfl,by simpa using Rep.int _ _ _⟩
   ·exact h.elim
  ·exact h.elim
 obtain⟨v,hK,hs⟩:=key;refine⟨v,_,_,_,hK,aU (fun c e=>by rw[ho]at e;cases e) fun S w ι H' a M hr ha=>?_⟩
 obtain⟨val,h1,h2⟩:=hs (hr x (by simp[ho,Op.operands]))
 exact⟨val,by simp only[execOp,ho];exact dQ h1,h2⟩
theorem K5 {τ:TypeId→Option TE} {t:TypeId} (h:u8D τ t=true):∃te,τ t=some te∧te.und=.int .u8:=by
 unfold u8D at h;split at h
 ·rename_i te ht
  split at h
  ·rename_i k hk
   split at h
   ·exact⟨te,ht,hk⟩
   ·cases h
  ·cases h
 ·cases h
theorem Za {τ:TypeId→Option TE} {ts td:TE} (h:cvN τ ts td=1):∃e te,td.und=.slice e∧τ e=some te∧te.und=.int .u8:=by
 unfold cvN at h;split at h
 ·rename_i e he
  split at h
  ·rename_i hu
   obtain⟨te,h1,h2⟩:=K5 hu;exact⟨e,te,he,h1,h2⟩
  ·cases h
 ·split at h
  ·split at h<;>cases h
  ·cases h
 ·cases h
theorem Zb {τ:TypeId→Option TE} {ts td:TE} (h:cvN τ ts td≠1) (h':cvN τ ts td≠0):td.und=.string∧∃e te,ts.und=.slice e∧τ e=some te∧te.und=.int .u8:=by
 unfold cvN at h h';split at h
 ·split at h
  ·exact absurd rfl h
  ·rename_i hu _ hu';simp[hu,hu']at h'
 ·rename_i hs
  split at h
  ·rename_i e he
   split at h
   ·rename_i hu
    obtain⟨te,h1,h2⟩:=K5 hu;exact⟨hs,e,te,he,h1,h2⟩
   ·rename_i hu;simp[hs,he,hu]at h'
  ·rename_i he;simp[hs]at h'
 ·simp_all
theorem vG {P:Program} (w:World) (src e:TypeId) (hs:P.underlying src=some (.slice e)) (he:P.underlying e=some (.int .u8)) (a:Option Addr):
 ∀dst,P.underlying dst=some .string→(convert src dst (.slice a 0 0)).run P w=.ok (.string ByteArray.empty) w:=by
 intro dst hd;cases a with
 |none=>exact run_convert_bytes_nil w src e hs he 0 0 dst hd
 |some a=>
  have hl:(loadCells a 0).run P w=.ok (([]:List Int).map (Value.int .u8)).toArray w:=rfl;rw[run_convert_bytes_string w src dst e _ 0 0 hs he hd,run_bytesToString w a 0 0 [] hl];rfl
theorem Ga (hτ:aY P τ) {s d:TypeId} {ts td te:TE} {e:TypeId} (hts:τ s=some ts) (htd:τ d=some td) (hs:ts.und=.slice e) (hd:td.und=.string) (he:τ e=some te) (hu:te.und=.int .u8) {H0:Hp} {x:PV} {K:PV→List Nat→Prop} (h:F8 H0 x K):
 ∃v acc,K v acc∧∀{S:Imm} {w:World} {ι:Ix} {H:Hp} {vx:Value},Mem S w ι H→(∀k∈acc,ay H k=ay H0 k)→Rep S w ι x vx→∃val,(convert s d vx).run P w=.ok val w∧Rep S w ι v val:=by
 have u1:P.underlying s=some (.slice e):=(hτ.und s ts hts).trans (congrArg some hs);have u2:P.underlying d=some .string:=(hτ.und d td htd).trans (congrArg some hd);have u3:P.underlying e=some (.int .u8):=(hτ.und e te he).trans (congrArg some hu);unfold F8 at h;split at h
 ·split at h
  ·rename_i t k xs
   rw[aL]at h;obtain⟨h1,h⟩:=h;have h1:=of_decide_eq_true h1;subst h1;refine⟨_,_,h,fun{S w ι H vx} M _ hx=>?_⟩;cases hx with
   |islnil _ _ _ hc=>
    obtain rfl:xs=[]:=List.eq_nil_of_length_eq_zero hc;exact⟨_,vG w s e u1 u3 _ d u2,.str _ _⟩
   |isl _ _ _ b off cap hc hS hh hf ho=>
    refine⟨_,run_convert_bytes_arg w s e u1 u3 b off xs.length cap xs rfl (fun i hi=>?_) d u2,.str _ _⟩;have h1:=hh i hi;have h2:=M.imm b (off+i) (hS i hi);rw[fT];obtain⟨y,hy⟩:=ahY.1 h2;have h3:rdv w b (off+i)=y:=by unfold rdv;rw[hy];rfl
    rw[h3]at h1;rw[hy];have h4:(CL.ints .u8 xs).get i=.int .u8 (xs.getD i 0):=rfl;rw[h4]at h1;cases h1;rfl
  ·exact h.elim
 ·rename_i i off m
  rw[aX]at h;obtain⟨o,ho,h⟩:=h;split at h
  ·split at h
   ·rename_i fz k xs
    split at h
    ·exact h.elim
    ·rw[aL]at h
     obtain⟨hl,h1,h⟩:=h;have h1:=of_decide_eq_true h1;subst h1;refine⟨_,_,h,fun{S w ι H vx} M ha hx=>?_⟩;have hH:=(ha i (by simp)).trans ho
     obtain⟨b,arr,et,g1,g2,g3,g4,g5⟩:=M.obj _ _ hH;cases hx with
     |rslz _ _ _ b' o' hk=>
      rw[List.take_zero];exact⟨_,vG w s e u1 u3 _ d u2,.str _ _⟩
     |rsl _ _ _ _ b' cap hk hc hr=>
      rw[g1]at hk;cases hk
      have hlen:((xs.drop off).take m).length=m:=by rw[List.length_take,List.length_drop];omega
      refine⟨_,run_convert_bytes_arg w s e u1 u3 b off m cap ((xs.drop off).take m) hlen (fun j hj=>?_) d u2,.str _ _⟩;rw[fT,aN g2];have g3':xs.length≤arr.size:=g3;have h1:=g4 (off+j) (show off+j<xs.length by omega)
      rw[ahW,ahT (by omega)]at h1
      have h4:(CL.ints .u8 xs).get (off+j)=.int .u8 (xs.getD (off+j) 0):=rfl;rw[h4]at h1;rw[ahT (by omega)]
      have h5:((xs.drop off).take m).getD j 0=xs.getD (off+j) 0:=by
       rw[ahZ,ahZ,List.getElem?_take,if_pos hj,List.getElem?_drop]
      rw[h5];simp only[ah5]at h1;generalize arr[off+j]'_=y at h1⊢
      cases h1;rfl
   ·exact h.elim
  ·exact h.elim
 ·refine⟨_,_,h,fun{S w ι H vx} M _ hx=>?_⟩
  cases hx
  exact⟨_,run_convert_bytes_nil w s e u1 u3 0 0 d u2,.str _ _⟩
 ·exact h.elim
theorem Ns (hτ:aY P τ) {md rf CP YP} {o:Oper} {ρ:Operand→PV} {H:Hp} {n:Nat} {s d:TypeId} {x:Operand} (ho:o.op=.convert s d x) {K:KR} (hno:∀ts td,τ s=some ts→τ d=some td→cvN τ ts td≠1)
 (h:opK τ md rf CP YP ρ H n o.dst o.op K):∃v sets accs news,K v sets accs news∧bE P r o ρ H v sets accs news:=by
 rw[ho]at h;simp only[opK,cB]at h;obtain⟨ts,hts,td,htd,h⟩:=h;have key:∃v acc,K v [] acc []∧∀{S:Imm} {w:World} {ι:Ix} {H':Hp} {vx:Value},Mem S w ι H'→(∀k∈acc,ay H' k=ay H k)→Rep S w ι (ρ x) vx→∃val,(convert s d vx).run P w=.ok val w∧Rep S w ι v val:=by
  split at h
  ·rw[bH]at h
   unfold Xz at h;split at h
   ·rename_i k hu
    split at h
    ·rename_i k' m hb
     refine⟨_,_,lX h,fun _ _ hx=>?_⟩;rw[hb]at hx;cases hx
     refine⟨_,?_,.int _ _ _⟩;simp only[convert,Sem.run_bind,run_underlying (hτ.und s ts hts),run_underlying (hτ.und d td htd),Result.andThen,hu];rfl
    ·exact h.elim
   ·rename_i hu
    split at h
    ·rename_i m hb
     refine⟨_,_,h,fun _ _ hx=>?_⟩;rw[hb]at hx;cases hx
     refine⟨_,?_,.str _ _⟩;simp only[convert,Sem.run_bind,run_underlying (hτ.und s ts hts),run_underlying (hτ.und d td htd),Result.andThen,hu];rfl
    ·exact h.elim
   ·exact h.elim
  ·rename_i h1
   exact absurd h1 (hno _ _ hts htd)
  ·rename_i h0 h1
   obtain⟨hd,e,te,hs,he,hu⟩:=Zb h1 h0;exact Ga hτ hts htd hs hd he hu h
 obtain⟨v,acc,hK,hs⟩:=key;refine⟨v,_,_,_,hK,aU (fun c e=>by rw[ho]at e;cases e) fun S w ι H' a M hr ha=>?_⟩
 obtain⟨val,h1,h2⟩:=hs M ha (hr x (by simp[ho,Op.operands]))
 exact⟨val,by simp only[execOp,ho];exact dQ h1,h2⟩
theorem Aj {md rf CP YP} {o:Oper} {ρ:Operand→PV} {H:Hp} {n:Nat} {x:Operand} (ho:o.op=.move x∨o.op=.assign x) {K:KR}
 (h:opK τ md rf CP YP ρ H n o.dst o.op K):∃v sets accs news,K v sets accs news∧bE P r o ρ H v sets accs news:=by
 have h':K (ρ x) [] [] []:=by rcases ho with ho|ho<;>rw[ho]at h<;>simpa only[opK,bH]using h
 refine⟨_,_,_,_,h',aU (fun c e=>by rcases ho with ho|ho<;>rw[ho]at e<;>cases e) fun S w ι H' a M hr ha=>?_⟩
 refine⟨a.eval x,?_,hr x (by rcases ho with ho|ho<;>simp[ho,Op.operands])⟩
 rcases ho with ho|ho<;>simp[execOp,ho]
theorem Nt {md rf CP YP} {o:Oper} {ρ:Operand→PV} {H:Hp} {n:Nat} {c x y:Operand} (ho:o.op=.pick c x y) {K:KR}
 (h:opK τ md rf CP YP ρ H n o.dst o.op K):∃v sets accs news,K v sets accs news∧bE P r o ρ H v sets accs news:=by
 rw[ho]at h;simp only[opK,bH]at h;have key:∀(t:Bool),(∀{S:Imm} {w:World} {ι:Ix} {v:Value},Rep S w ι (ρ c) v→v=.bool t)→K (if t then ρ x else ρ y) [] [] []→∃v sets accs news,K v sets accs news∧bE P r o ρ H v sets accs news:=by
  intro t ht hK;refine⟨_,_,_,_,hK,aU (fun c e=>by rw[ho]at e;cases e) fun S w ι H' a M hr ha=>?_⟩
  have hc:=ht (hr c (by simp[ho,Op.operands]))
  refine⟨if t then a.eval x else a.eval y,?_,?_⟩
  ·simp only[execOp,ho,hc,asBool];simp
  ·cases t
   ·exact hr y (by simp[ho,Op.operands])
   ·exact hr x (by simp[ho,Op.operands])
 split at h
 ·rename_i t hρ
  split at h
  ·exact key true (fun hr=>by rw[hρ]at hr;cases hr;rfl) (by simpa using h)
  ·exact key false (fun hr=>by rw[hρ]at hr;cases hr;rfl) (by simpa using h)
 ·rename_i t hρ
  refine key t (fun hr=>by rw[hρ]at hr;cases hr;rfl) ?_
  cases t
  ·simpa using h.2 rfl
  ·simpa using h.1 rfl
 ·exact h.elim
end Go.Eng
