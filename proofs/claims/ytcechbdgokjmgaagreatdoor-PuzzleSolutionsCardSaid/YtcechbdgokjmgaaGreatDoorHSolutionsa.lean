/- Contracts of functions of the program: what each returns. Their conditions stand in them. -/
import Derived.ProofKit
import Derived.OpenShut
import Derived.Deep.Grids
import Derived.LaidMore
import Derived.Stop.Joined
import Derived.Stop.LaidErr
import Derived.Lib.LaidTab
import Derived.MakeChecks
import Derived.Lay
import Derived.Shelf.Small.Wraps
import Derived.Shelf.Strconv.Atoi
import Derived.Shelf.Strings.Search3
import Derived.Shelf.Strings.Count
import Derived.Shelf.Strings.Prefix
import Derived.Shelf.Strings.Split
import Derived.Shelf.Strings.OnBuilder
import Derived.Shelf.LaysM
import Derived.Shelf.Strconv.Itoa3
import Derived.Shelf.Sort.Plain
import Derived.Lib.AppendIntMem
import Derived.Lib.ItoaLen
import Derived.Lib.TrailingZeros
import Derived.Lib.BitFns
import Derived.Test.YtcechbdgokjmgaaGreatDoorCards
import Derived.Test.YtcechbdgokjmgaaGreatDoorTie
import Derived.Test.YtcechbdgokjmgaaGreatDoorProg
import Derived.Test.YtcechbdgokjmgaaGreatDoorEe
namespace Go.Eng
open Go.RowKit Go.ChangeShapes Go.WideShapes
set_option linter.unusedSimpArgs false
set_option linter.unusedVariables false
def jU (W:World):Imm:=fun b j=>(rd W b j).isSome
inductive Lf where
 |int (k:IntKind)
 |str
 |ints (k:IntKind)
 |rows (k:IntKind)
 |bool
 |bools
instance:Inhabited Lf:=⟨.str⟩
def QT:Lf→PV→Prop
 |.int k,p=>∃n,p=.int k n∧(Lit.int k n).wf=true
 |.str,p=>∃s,p=.str s∧s.size≤maxLen
 |.ints k,p=>∃xs,p=.isl (.ints k xs) .none∧(∀n∈xs,(Lit.int k n).wf=true)∧xs.length≤maxLen
 |.rows k,p=>∃xss:List (List Int),p=.isl (.rows k xss) .none∧(∀x∈xss,(∀n∈x,(Lit.int k n).wf=true)∧x.length≤maxLen)∧xss.length≤maxLen
 |.bool,p=>∃b:Bool,p=.bp b∧True
 |.bools,p=>∃xs:List Bool,p=.isl (.bools xs) .none∧xs.length≤maxLen
def qp (v:Value):Prop:=∀a n c,v=.slice (some a) n c→a.spot=none
theorem uG {P:Program} {w:World} {r:Reach} {base:Nat} {t:TypeId} {v:Value} (h:Cell.okWide P w r base t v):qp v:=by
 rintro a n c rfl
 unfold Cell.okWide at h
 split at h<;>try(rename_i e1 e2;cases e2)
 unfold Cell.ok at h
 split at h<;>try(rename_i e1 e2;cases e2)
 ·exact h.2.2.2.1
 ·exact h.elim
theorem Hu {P:Program} {w:World} {r:Reach} {base:Nat} {t:TypeId} {cs:Array Value} (h:Row.okWide P w r base t cs):∀i,qp (cs.toList.getD i undef):=by
 obtain⟨ts,_,_,h⟩:=h
 intro i
 rw[List.getD_eq_getElem?_getD]
 cases hv:cs.toList[i]? with
 |none=>rintro a n c he;cases he
 |some v=>
  obtain⟨u,_,hu⟩:=h i v (by simpa using hv)
  simpa using uG hu
section
variable {H:Type} (enc:TypeId × Value→H) (P:Program) (W:World)
def iH (t:TypeId) (ls:List Lf):Prop:=∀(fuel:Nat) (cs:List Value) (x:DataW H × List MemPlace),DataW.trod enc P W 0 (fun _=>true) true fuel t cs=some x→(∀i,qp (cs.getD i undef))→
 cs.length=ls.length∧∀i,i<ls.length→∃p,QT (ls.getD i default) p∧Rep (jU W) W noI p (cs.getD i undef)
def zZ:List Field→Nat→List (List Lf)→Prop
 | [],_,[]=>True
 |f::fs,o,l::ls=>(f.offset=o∧P.cellsOf f.type=l.length∧iH enc P W f.type l)∧zZ fs (o+l.length) ls
 |_,_,_=>False
end
section
variable {H:Type} {enc:TypeId × Value→H} {P:Program} {W:World}
theorem Oe {t:TypeId} {k:IntKind} (ht:P.underlying t=some (.int k)):iH enc P W t [.int k]:=by
 intro fuel cs x h hs
 obtain⟨n,rfl,_,hw⟩:=DataW.trod_int ht h
 refine⟨rfl,fun i hi=>?_⟩
 have:i=0:=by simp at hi;omega
 subst this
 exact⟨.int k n,⟨n,rfl,hw⟩,.int _ _ _⟩
theorem K6 {t e:TypeId} {k:IntKind} (ht:P.underlying t=some (.slice e)) (he:P.underlying e=some (.int k)) (hc:P.cellsOf e=1):iH enc P W t [.ints k]:=by
 intro fuel cs x h hs
 rcases open_ints ht he hc h with⟨rfl,_⟩|⟨a,len,cap,zs,rfl,_,hl,hm,hz,_,hcell,hwf⟩
 ·refine⟨rfl,fun i hi=>?_⟩
  have:i=0:=by simp at hi;omega
  subst this
  exact⟨.isl (.ints k []) .none,⟨[],rfl,by simp,by simp⟩,.islnil _ _ _ rfl⟩
 ·refine⟨rfl,fun i hi=>?_⟩
  have:i=0:=by simp at hi;omega
  subst this
  have hsp:a.spot=none:=hs 0 a len cap rfl
  obtain⟨b,off,spot⟩:=a
  simp only at hsp
  subst hsp
  simp only[ite_true]at hz
  have hcell':∀i,i<cap→rd W b (off+i)=some (.int k (zs.getD i 0)):=fun i hi=>by
   have:=hcell i (by omega)
   rw[dL,fJ]at this
   exact this
  refine⟨.isl (.ints k (zs.take len)) .none,⟨_,rfl,fun n hn=>hwf n (List.mem_of_mem_take hn),by simp;omega⟩,?_⟩
  have hlen:(CL.ints k (zs.take len)).cnt=len:=by simp[CL.cnt];omega
  have hrep:=Rep.isl (S:=jU W) (w:=W) noI (.ints k (zs.take len)) .none b off cap (by rw[hlen];exact hl)
   (fun j hj=>by
    have hj':j<len:=by simp only[CL.ncell,List.length_take]at hj;omega
    show(rd W b (off+j)).isSome;rw[hcell' j (by omega)];rfl)
   (fun j hj=>by
    have hj':j<len:=by simp only[CL.ncell,List.length_take]at hj;omega
    have e1:rdv W b (off+j)=.int k (zs.getD j 0):=by unfold rdv;rw[hcell' j (by omega)];rfl
    have e2:(zs.take len).getD j 0=zs.getD j 0:=by simp only[List.getD_eq_getElem?_getD,List.getElem?_take_of_lt hj']
    rw[e1]
    show Rep (jU W) W noI (.int k ((zs.take len).getD j 0)) _
    rw[e2];exact .int _ _ _)
   (fun e=>by cases e) (fun k e=>by cases e)
  rw[hlen]at hrep
  simpa using hrep
theorem K7 {t:TypeId} (ht:P.underlying t=some .bool):iH enc P W t [.bool]:=by
 intro fuel cs x h hs
 obtain⟨n,rfl,_⟩:=DataW.trod_bool ht h
 refine⟨rfl,fun i hi=>?_⟩
 have:i=0:=by simp at hi;omega
 subst this
 exact⟨.bp n,⟨n,rfl,trivial⟩,.bp _ _⟩
theorem QU {t e:TypeId} {k:IntKind} (ht:P.underlying t=some (.slice e)) (he:P.underlying e=some (.int k)) (hc:P.cellsOf e=1) {fuel:Nat} {v:Value} {x:DataW H × List MemPlace}
 (h:DataW.trod enc P W 0 (fun _=>true) true fuel t [v]=some x):∃xs:List Int,Rep (jU W) W noI (.isl (.ints k xs) .none) v∧(∀n∈xs,(Lit.int k n).wf=true)∧xs.length≤maxLen:=by
 rcases open_ints ht he hc h with⟨hv,_⟩|⟨a,len,cap,zs,hv,_,hl,hm,hz,_,hcell,hwf⟩
 ·cases hv;exact⟨[],.islnil _ _ _ rfl,by simp,by simp⟩
 ·cases hv
  simp only[ite_true]at hz
  rcases Nat.eq_zero_or_pos cap with h0|h0
  ·have hl0:len=0:=by omega
   subst h0;subst hl0
   exact⟨[],.islnil _ _ _ rfl,by simp,by simp⟩
  ·have hsp:a.spot=none:=by
    have h1:=hcell 0 (by omega)
    simpa [Addr.add]using World.cell?_spot h1
   obtain⟨b,off,spot⟩:=a
   simp only at hsp
   subst hsp
   have hcell':∀i,i<cap→rd W b (off+i)=some (.int k (zs.getD i 0)):=fun i hi=>by
    have:=hcell i (by omega)
    rw[dL,fJ]at this
    exact this
   refine⟨zs.take len,?_,fun n hn=>hwf n (List.mem_of_mem_take hn),by simp;omega⟩
   have hlen:(CL.ints k (zs.take len)).cnt=len:=by simp[CL.cnt];omega
   have hrep:=Rep.isl (S:=jU W) (w:=W) noI (.ints k (zs.take len)) .none b off cap (by rw[hlen];exact hl)
    (fun j hj=>by
     have hj':j<len:=by simp only[CL.ncell,List.length_take]at hj;omega
     show(rd W b (off+j)).isSome;rw[hcell' j (by omega)];rfl)
    (fun j hj=>by
     have hj':j<len:=by simp only[CL.ncell,List.length_take]at hj;omega
     have e1:rdv W b (off+j)=.int k (zs.getD j 0):=by unfold rdv;rw[hcell' j (by omega)];rfl
     have e2:(zs.take len).getD j 0=zs.getD j 0:=by simp only[List.getD_eq_getElem?_getD,List.getElem?_take_of_lt hj']
     rw[e1]
     show Rep (jU W) W noI (.int k ((zs.take len).getD j 0)) _
     rw[e2];exact .int _ _ _)
    (fun e=>by cases e) (fun k e=>by cases e)
   rw[hlen]at hrep
   exact hrep
theorem QV:∀(n:Nat) (Q:Nat→List Int→Prop),(∀i,i<n→∃p,Q i p)→∃ps:List (List Int),ps.length=n∧∀i,i<n→Q i (ps.getD i []):=by
 intro n
 induction n with
 |zero=>intro Q _;exact⟨[],rfl,fun i hi=>by omega⟩
 |succ n ih=>
  intro Q h
  obtain⟨p,hp⟩:=h 0 (by omega)
  obtain⟨ps,h1,h2⟩:=ih (fun i=>Q (i+1)) (fun i hi=>h (i+1) (by omega))
  refine⟨p::ps,by simp[h1],fun i hi=>?_⟩
  cases i with
  |zero=>exact hp
  |succ i=>exact h2 i (by omega)
theorem QW {a:Addr} {c1:List Value} (h:W.cells? 0 a 1=some c1):∃c,c1=[c]∧W.cell? a=some c:=by
 have e0:a.add 0=a:=by simp[Addr.add]
 unfold World.cells? at h
 split at h
 ·simp only[List.range_succ,List.range_zero,List.nil_append,List.mapM_cons,List.mapM_nil,e0]at h
  cases hcc:W.cell? a with
  |none=>simp[hcc]at h
  |some c=>simp[hcc]at h;exact⟨c,h.symm,rfl⟩
 ·cases h
theorem K8 {t u e:TypeId} {k:IntKind} (ht:P.underlying t=some (.slice u)) (hu:P.underlying u=some (.slice e)) (he:P.underlying e=some (.int k)) (hcu:P.cellsOf u=1) (hc:P.cellsOf e=1):iH enc P W t [.rows k]:=by
 intro fuel cs x h hs
 rcases DataW.trod_slice ht h with⟨rfl,_⟩|⟨a,len,cap,elems,rest,n,_,rfl,_,_,hl,hm,hlen,hel,hsp1,_⟩
 ·refine⟨rfl,fun i hi=>?_⟩
  have:i=0:=by simp at hi;omega
  subst this
  exact⟨.isl (.rows k []) .none,⟨[],rfl,by simp,by simp⟩,.islnil _ _ _ rfl⟩
 refine⟨rfl,fun i hi=>?_⟩
 have:i=0:=by simp at hi;omega
 subst this
 have hspot:a.spot=none:=hs 0 a len cap rfl
 obtain⟨b,off,spot⟩:=a
 simp only at hspot
 subst hspot
 have key:∀j,j<len→∃xs:List Int,(rd W b (off+j)).isSome=true∧Rep (jU W) W noI (.isl (.ints k xs) .none) (rdv W b (off+j))∧(∀n∈xs,(Lit.int k n).wf=true)∧xs.length≤maxLen:=by
  intro j hj
  have hE:=hel j hj
  rw[hcu,Nat.mul_one]at hE
  have hy:∃y,elems[j]? =some y:=⟨_,List.getElem?_eq_getElem (by omega)⟩
  obtain⟨y,hy⟩:=hy
  rw[hy]at hE
  simp only[Option.bind_eq_some_iff]at hE
  obtain⟨c1,hc1,hy1⟩:=hE
  obtain⟨c,rfl,hcell⟩:=QW hc1
  rw[dL,fJ]at hcell
  obtain⟨xs,h1,h2,h3⟩:=QU hu he hc hy1
  refine⟨xs,by rw[hcell];rfl,?_,h2,h3⟩
  unfold rdv;rw[hcell];exact h1
 obtain⟨xss,hxl,hxx⟩:=QV len _ key
 refine⟨.isl (.rows k xss) .none,⟨xss,rfl,fun x hx=>?_,by omega⟩,?_⟩
 ·obtain⟨j,hj,rfl⟩:=List.mem_iff_getElem.1 hx
  have:=hxx j (by omega)
  rw[List.getD_eq_getElem?_getD,List.getElem?_eq_getElem hj]at this
  exact⟨this.2.2.1,this.2.2.2⟩
 have hcnt:(CL.rows k xss).cnt=len:=by simp[CL.cnt];omega
 have hrep:=Rep.isl (S:=jU W) (w:=W) noI (.rows k xss) .none b off cap (by rw[hcnt];exact hl)
  (fun j hj=>by
   have hj':j<len:=by simp only[CL.ncell]at hj;omega
   exact(hxx j hj').1)
  (fun j hj=>by
   have hj':j<len:=by simp only[CL.ncell]at hj;omega
   exact(hxx j hj').2.1)
  (fun e=>by cases e) (fun k e=>by cases e)
 rw[hcnt]at hrep
 simpa using hrep
theorem K9 {l:List Lf} {ls:List (List Lf)} {i:Nat} (h:i<l.length):(l++ls.flatten).getD i default=l.getD i default:=by
 simp only[List.getD_eq_getElem?_getD,List.getElem?_append_left h]
theorem Hw:∀{fs:List Field} {o:Nat} {lss:List (List Lf)},zZ enc P W fs o lss→∀i,i<lss.flatten.length→
 ∃(k:Nat) (f:Field) (l:List Lf) (j:Nat),fs[k]? =some f∧f.offset+j=o+i∧P.cellsOf f.type=l.length∧iH enc P W f.type l∧j<l.length∧l.getD j default=lss.flatten.getD i default:=by
 intro fs
 induction fs with
 |nil=>
  intro o lss h i hi
  cases lss with
  |nil=>simp at hi
  |cons l ls=>exact h.elim
 |cons f fs ih=>
  intro o lss h i hi
  cases lss with
  |nil=>exact h.elim
  |cons l ls=>
   obtain⟨⟨h1,h2,h3⟩,h4⟩:=h
   rw[List.flatten_cons,List.length_append]at hi
   by_cases hl:i<l.length
   ·exact⟨0,f,l,i,rfl,by omega,h2,h3,hl,by rw[List.flatten_cons,K9 hl]⟩
   ·obtain⟨k,f',l',j,a1,a2,a3,a4,a5,a6⟩:=ih h4 (i-l.length) (by omega)
    refine⟨k+1,f',l',j,a1,by omega,a3,a4,a5,?_⟩
    rw[a6,List.flatten_cons]
    simp only[List.getD_eq_getElem?_getD,List.getElem?_append_right (by omega:l.length≤i)]
theorem BQ {cs:List Value} {o n j:Nat} (h:j<n):((cs.drop o).take n).getD j undef=cs.getD (o+j) undef:=by
 simp only[List.getD_eq_getElem?_getD,List.getElem?_take_of_lt h,List.getElem?_drop]
theorem Og {cs:List Value} (hs:∀i,qp (cs.getD i undef)) (o n:Nat):∀i,qp (((cs.drop o).take n).getD i undef):=by
 intro i
 by_cases h:i<n
 ·rw[BQ h];exact hs _
 ·have:((cs.drop o).take n).getD i undef=undef:=by
   rw[List.getD_eq_getElem?_getD,List.getElem?_eq_none (by simp;omega)];rfl
  rw[this];rintro a n c he;cases he
theorem uH {t:TypeId} {fs:Array Field} {lss:List (List Lf)} (ht:P.underlying t=some (.struct fs)) (hF:zZ enc P W fs.toList 0 lss) (hc:P.cellsOf t=lss.flatten.length):iH enc P W t lss.flatten:=by
 intro fuel cs x h hs
 obtain⟨xs,n,_,_,hl,hlen,hf⟩:=DataW.trod_struct ht h
 refine⟨by rw[hl,hc],fun i hi=>?_⟩
 obtain⟨k,f,l,j,a1,a2,a3,a4,a5,a6⟩:=Hw hF i hi
 have hfk:fs[k]? =some f:=by simpa using a1
 have hk:k<xs.length:=by rw[hlen];exact(Array.getElem?_eq_some_iff.1 hfk).1
 have h1:=hf k f hfk
 rw[List.getElem?_eq_getElem hk]at h1
 obtain⟨_,h2⟩:=a4 _ _ _ h1 (Og hs _ _)
 obtain⟨p,hp,hr⟩:=h2 j a5
 rw[BQ (by omega)]at hr
 rw[a6]at hp
 have:f.offset+j=i:=by omega
 rw[this]at hr
 exact⟨p,hp,hr⟩
theorem Xk {Q:Nat→PV→Prop}:∀(n:Nat) (Q:Nat→PV→Prop),(∀i,i<n→∃p,Q i p)→∃ps:List PV,ps.length=n∧∀i,i<n→Q i (aC ps i):=by
 intro n
 induction n with
 |zero=>intro Q _;exact⟨[],rfl,fun i hi=>by omega⟩
 |succ n ih=>
  intro Q h
  obtain⟨p,hp⟩:=h 0 (by omega)
  obtain⟨ps,h1,h2⟩:=ih (fun i=>Q (i+1)) (fun i hi=>h (i+1) (by omega))
  refine⟨p::ps,by simp[h1],fun i hi=>?_⟩
  cases i with
  |zero=>exact hp
  |succ i=>exact h2 i (by omega)
theorem QX {t:TypeId} {ls:List Lf} {v:Value} {d:DataW H} {qs:List MemPlace} {r:Reach} {base:Nat} (ht:(∃fs,P.underlying t=some (.struct fs))∨∃n e,P.underlying t=some (.array n e)) (hO:iH enc P W t ls) (hval:Value.okWide P W r base t v) (hd:DataW.Trod enc P W 0 (fun _=>true) true t v d qs):
 ∃ps:List PV,ps.length=ls.length∧(∀i,i<ls.length→QT (ls.getD i default) (aC ps i))∧Rep (jU W) W noI (.agg ps) v:=by
 have hv:∃cs,v=.agg cs∧Row.okWide P W r base t cs:=by
  unfold Value.okWide at hval
  rcases ht with⟨fs,ht⟩|⟨n,e,ht⟩<;>rw[ht]at hval<;>exact⟨hval.choose,hval.choose_spec.1,hval.choose_spec.2.2⟩
 obtain⟨cs,rfl,hrow⟩:=hv
 obtain⟨fuel,hf⟩:=hd
 have hcells:(Value.agg cs).cells.toList=cs.toList:=rfl
 rw[hcells]at hf
 obtain⟨h1,h2⟩:=hO _ _ _ hf (Hu hrow)
 obtain⟨ps,p1,p2⟩:=Xk (Q:=fun _ _=>True) ls.length _ h2
 refine⟨ps,p1,fun i hi=>(p2 i hi).1,.agg _ _ _ (by rw[p1,←h1];simp) fun i hi=>?_⟩
 have:=(p2 i (by omega)).2
 simpa [Array.getD_eq_getD_getElem?,List.getD_eq_getElem?_getD]using this
theorem Oh {t:TypeId} {l:Lf} {v:Value} {d:DataW H} {qs:List MemPlace} {r:Reach} {base:Nat} (ht:(∃k,P.underlying t=some (.int k))∨P.underlying t=some .string∨∃e,P.underlying t=some (.slice e)) (hO:iH enc P W t [l]) (hval:Value.okWide P W r base t v) (hd:DataW.Trod enc P W 0 (fun _=>true) true t v d qs):
 ∃p:PV,QT l p∧Rep (jU W) W noI p v:=by
 have hv:v.cells.toList=[v]∧qp v:=by
  rcases ht with⟨k,ht⟩|ht|⟨e,ht⟩
  ·obtain⟨n,rfl⟩:=okWide_int ht hval;exact⟨rfl,fun a n c h=>by cases h⟩
  ·obtain⟨n,rfl⟩:=okWide_string ht hval;exact⟨rfl,fun a n c h=>by cases h⟩
  ·have hc:Cell.okWide P W r base t v:=by unfold Value.okWide at hval;rw[ht]at hval;exact hval
   obtain⟨a,n,c,rfl⟩:=okWide_slice ht hval
   exact⟨rfl,uG hc⟩
 obtain⟨fuel,hf⟩:=hd
 rw[hv.1]at hf
 obtain⟨h1,h2⟩:=hO _ _ _ hf (fun i=>by
  cases i with
  |zero=>exact hv.2
  |succ i=>rintro a n c he;simp at he;cases he)
 obtain⟨p,hp,hr⟩:=h2 0 (by simp)
 exact⟨p,hp,hr⟩
end
theorem QY {P:Program} {g:FuncId} {args:List PV} {vs:Array Value} {W:World} (h:aG P g args (.bp true)) (hr:bB (jU W) W noI args vs) (hg:gB (jU W) W):
 Calls P g vs W fun e w'=>e=.returned (.bool true)∧Below W.heap.size W w':=by
 have:=(h.2 (jU W) W vs hg (fun _ _ h=>h) hr)
 refine callsIn_wide.1 (CallsIn.mono (F:=Fw none) this ?_)
 rintro e w' ⟨val,S',rfl,o⟩
 have hv:=o.rep
 exact⟨by cases hv;rfl,⟨o.below.os,o.below.tape,o.below.output,o.below.size,o.same⟩⟩
section
variable {H:Type} {enc:TypeId × Value→H} {P:Program}
theorem Cx (hl:laidOutB P=true) {W W':World} {sp:Nat→Bool} (hB:Below W.heap.size W W'):∀{ts:List TypeId} {vs:List Value} {ds:List (DataW H)} {ps:List MemPlace},ts.all (fun t=>P.readableRec t&&decide (t<P.types.size))=true→
 DataW.TrodAll enc P W 0 (fun _=>true) true ts vs ds ps→(∀x∈ps,x.block<W.heap.size)→(∀x∈ps,sp x.block=true)→DataW.TrodAll enc P W' 0 sp true ts vs ds ps:=by
 intro ts
 induction ts with
 |nil=>
  intro vs ds ps _ h _ _
  cases vs<;>cases ds<;>first|exact h|exact h.elim
 |cons t ts ih=>
  intro vs ds ps ha h hlt hs
  cases vs with
  |nil=>exact h.elim
  |cons v vs=>
   cases ds with
   |nil=>exact h.elim
   |cons d ds=>
    obtain⟨p,q,h1,h2,rfl⟩:=h
    simp only[List.all_cons,Bool.and_eq_true,decide_eq_true_eq]at ha
    refine⟨p,q,WideElems.Trod_stays hl ha.1.1 ha.1.2 h1 (fun x hx=>hB.same (hlt x (by simp[hx]))) (fun x hx=>hs x (by simp[hx])),ih ha.2 h2 (fun x hx=>hlt x (by simp[hx])) (fun x hx=>hs x (by simp[hx])),rfl⟩
theorem QZ {f:Func} {s:ChangeSpec} {W W':World} {args:Array Value} {ds gs:List (DataW H)} {before:List MemPlace} {tb:TypeId} (hl:laidOutB P=true) (hres:f.resultTypes= #[tb]) (htb:P.underlying tb=some .bool)
 (hread:f.params.toList.all (fun t=>P.readableRec t&&decide (t<P.types.size))=true) (hv:s.vars=[]) (hfn:s.fn H ds={results:=[.lit (.bool true)],args:=ds})
 (hW:DataW.Whole enc P f.params.toList s.vars false W args.toList ds gs before) (hB:Below W.heap.size W W'):s.post enc P f false true false false W args (.bool true) W':=by
 have hW':=hW
 obtain⟨p,q,hA,hV,rfl,hfz,hnd⟩:=hW
 rw[hv]at hV
 obtain⟨rfl,rfl⟩:=trodVars_none hV
 have hlt:∀x∈p,x.block<W.heap.size:=fun x hx=>by simpa using hW'.lt x (by simp[hx])
 refine⟨ds,[],p++[],[],p,[],hW',?_,?_,?_,hB.frame _,fun h=>by cases h⟩
 ·rw[List.append_nil,hfn,hres]
  exact trodAll_mk1 (shut_bool htb true)
 ·rw[List.append_nil,hfn]
  exact Cx hl hB hread hA hlt (fun x hx=>by simpa using hlt x hx)
 ·rw[List.append_nil,hfn,hv]
  exact rfl
end
end Go.Eng
namespace Go.Eng.YtcechbdgokjmgaaGreatDoor
open Go.Proofs Go.Proofs.YtcechbdgokjmgaaGreatDoor Go.RowKit Go.ChangeShapes Go.WideShapes
set_option linter.unusedVariables false
theorem own:ownKnob Tryz.prog.godebug=none:=by kernel_rfl
theorem laidOut:laidOutB Tryz.prog=true:=by kernel_rfl
abbrev rJ:List (String × DataW Unit):=[("math/bits.deBruijn32tab",Rows.laid_math_bits_deBruijn32tab),("math/bits.deBruijn64tab",Rows.laid_math_bits_deBruijn64tab),("internal/strconv.uint64pow10",Rows.laid_internal_strconv_uint64pow10),("unicode/utf8.acceptRanges",Rows.laid_unicode_utf8_acceptRanges),("strconv.ErrRange",Rows.laid_strconv_ErrRange),("strconv.ErrSyntax",Rows.laid_strconv_ErrSyntax),("unicode/utf8.first",Rows.laid_unicode_utf8_first)]
theorem Q0 (os:Os) (args:Array Value):laidMetH Tryz.prog rJ ((World.laidAll Tryz.prog os rJ).forCall (fun _ _=>0) ⟨#[],args,[]⟩).memory:=by
 rw[Go.MakeChecks.laidMetH_plain _ _ _ (by kernel_rfl)]
 exact laidMet_laidAll _ (by kernel_rfl) (by kernel_rfl)
theorem EP {W:World} {name:String} {k:IntKind} {zs:List Int} {g:Nat} (hg:Tryz.prog.globalNamed name=some g) (h:Lib.TabIs Tryz.prog W name k zs):
 bsz W g=some (CL.ints k zs).ncell∧∀j,j<(CL.ints k zs).ncell→jU W g j∧Rep (jU W) W noI ((CL.ints k zs).get j) (rdv W g j):=by
 unfold Lib.TabIs World.var? at h
 rw[hg,Option.bind_some]at h
 split at h
 ·rename_i cs e f hb
  have h:=Option.some.inj h
  subst h
  refine⟨by simp[bsz,hb,CL.ncell],fun j hj=>?_⟩
  simp only[CL.ncell]at hj
  have hr:rd W g j=some (.int k (zs.getD j 0)):=by simp[rd,hb,hj]
  refine⟨by show(rd W g j).isSome=true;rw[hr];rfl,?_⟩
  have:rdv W g j=.int k (zs.getD j 0):=by unfold rdv;rw[hr];rfl
  rw[this]
  exact .int _ _ _
 ·cases h
theorem Xl {W:World} (h:laidMetH Tryz.prog rJ W):gB (jU W) W:=by
 rw[Go.MakeChecks.laidMetH_plain _ _ _ (by kernel_rfl)]at h
 have t2:Lib.TabIs Tryz.prog W "math/bits.deBruijn32tab" .u8 qd:=Lib.tabIs_of_head (k:=.u8) (zs:=qd) (g:=0) (t:=285) (e:=5) (n:=32) (by kernel_rfl) (by kernel_rfl) (by kernel_rfl) (by kernel_rfl) (by kernel_rfl) (by kernel_rfl) h
 have t3:Lib.TabIs Tryz.prog W "math/bits.deBruijn64tab" .u8 DC:=Lib.tabIs_of_head (k:=.u8) (zs:=DC) (g:=7) (t:=323) (e:=5) (n:=64) (by kernel_rfl) (by kernel_rfl) (by kernel_rfl) (by kernel_rfl) (by kernel_rfl) (by kernel_rfl) h.tail
 have t0:Lib.TabIs Tryz.prog W "internal/strconv.uint64pow10" .u64 mh:=Lib.tabIs_of_head (k:=.u64) (zs:=mh) (g:=2) (t:=289) (e:=275) (n:=20) (by kernel_rfl) (by kernel_rfl) (by kernel_rfl) (by kernel_rfl) (by kernel_rfl) (by kernel_rfl) h.tail.tail
 intro g c hc
 unfold vk at hc
 split at hc
 ·cases hc;exact EP (by kernel_rfl) t2
 ·cases hc;exact EP (by kernel_rfl) t0
 ·cases hc;exact EP (by kernel_rfl) t3
 ·cases hc
section
variable {H:Type} {enc:TypeId × Value→H} {W:World}
theorem o3:iH enc Tryz.prog W 3 [.int .i64]:=Oe Tryz.underlying3
theorem o25:iH enc Tryz.prog W 25 [.ints .i64]:=K6 Tryz.underlying25 Tryz.underlying3 (by kernel_rfl)
theorem o22:iH enc Tryz.prog W 22 [.rows .i64]:=K8 Tryz.underlying22 Tryz.underlying25 Tryz.underlying3 (by kernel_rfl) (by kernel_rfl)
theorem o24:iH enc Tryz.prog W 24 [.int .i64,.rows .i64]:=
 uH (lss:=[[.int .i64],[.rows .i64]]) Tryz.underlying24 ⟨⟨rfl,by kernel_rfl,o3⟩,⟨rfl,by kernel_rfl,o22⟩,trivial⟩ (by kernel_rfl)
theorem o27:iH enc Tryz.prog W 27 [.int .i64,.rows .i64,.int .i64,.ints .i64]:=
 uH (lss:=[[.int .i64,.rows .i64],[.int .i64],[.ints .i64]]) Tryz.underlying27 ⟨⟨rfl,by kernel_rfl,o24⟩,⟨rfl,by kernel_rfl,o3⟩,⟨rfl,by kernel_rfl,o25⟩,trivial⟩ (by kernel_rfl)
theorem o4:iH enc Tryz.prog W 4 [.bool]:=K7 Tryz.underlying4
end
end Go.Eng.YtcechbdgokjmgaaGreatDoor
namespace Go.Proofs
open Go.Shelf
def Tryz.lays103_ren:Go.Shelf.Ren:=⟨fun|103=>229|210=>249|206=>270|n=>n,fun|9=>9|4=>4|24=>272|3=>3|n=>n,fun|n=>n⟩
theorem Tryz.lays103:Go.Proofs.Lays.n103 Tryz.prog Tryz.lays103_ren:={
 mixed:=by kernel_rfl
 f103:=Tryz.func229.trans (congrArg some (by kernel_rfl))
 f206:=Tryz.func270.trans (congrArg some (by kernel_rfl))
 f210:=Tryz.func249.trans (congrArg some (by kernel_rfl))
 t3:=Tryz.underlying3
 a3:=Tryz.isAgg3
 z3:=Tryz.sizeOf3
 v3:=Tryz.zeroValue3
 t4:=Tryz.underlying4
 a4:=Tryz.isAgg4
 z4:=Tryz.sizeOf4
 v4:=Tryz.zeroValue4
 t9:=Tryz.underlying9
 a9:=Tryz.isAgg9
 z9:=Tryz.sizeOf9
 v9:=Tryz.zeroValue9
 t24:=Tryz.underlying272
 a24:=Tryz.isAgg272
 z24:=Tryz.sizeOf272
 v24:=Tryz.zeroValue272}
open Go.RowKit in
theorem Tryz.strings_CutPrefix (s p:ByteArray) (w:World):
 Calls Tryz.prog 229 #[.string s,.string p] w fun e w'=>e=.returned (.tuple #[.string ⟨(Lib.trimPrefix s.data.toList p.data.toList).toArray⟩,.bool (Lib.hasPrefix s.data.toList p.data.toList)])∧w'=w:=Any.strings_CutPrefix Tryz.lays103 s p w
def Tryz.lays172_ren:Go.Shelf.Ren:=⟨fun|172=>230|244=>250|245=>251|247=>271|279=>272|280=>273|281=>274|282=>275|287=>283|316=>284|171=>129|205=>285|321=>287|322=>288|243=>171|246=>209|283=>233|284=>234|285=>235|286=>236|129=>253|317=>252|318=>254|319=>255|320=>256|337=>220|338=>276|n=>n,fun|9=>9|3=>3|75=>165|76=>166|4=>4|5=>5|167=>305|37=>161|0=>0|85=>306|2=>2|168=>308|53=>275|175=>317|46=>284|210=>321|127=>229|145=>329|143=>327|21=>21|171=>274|173=>278|212=>289|51=>154|20=>20|213=>290|232=>285|233=>323|80=>173|n=>n,fun|15=>5|16=>6|17=>2|18=>0|19=>7|n=>n⟩
theorem Tryz.lays172:Go.Proofs.Lays.n172 Tryz.prog Tryz.lays172_ren:={
 mixed:=by kernel_rfl
 f129:=Tryz.func253.trans (congrArg some (by kernel_rfl))
 f171:=Tryz.func129.trans (congrArg some (by kernel_rfl))
 f172:=Tryz.func230.trans (congrArg some (by kernel_rfl))
 f205:=Tryz.func285.trans (congrArg some (by kernel_rfl))
 f243:=Tryz.func171.trans (congrArg some (by kernel_rfl))
 f244:=Tryz.func250.trans (congrArg some (by kernel_rfl))
 f245:=Tryz.func251.trans (congrArg some (by kernel_rfl))
 f246:=Tryz.func209.trans (congrArg some (by kernel_rfl))
 f247:=Tryz.func271.trans (congrArg some (by kernel_rfl))
 f279:=Tryz.func272.trans (congrArg some (by kernel_rfl))
 f280:=Tryz.func273.trans (congrArg some (by kernel_rfl))
 f281:=Tryz.func274.trans (congrArg some (by kernel_rfl))
 f282:=Tryz.func275.trans (congrArg some (by kernel_rfl))
 f283:=Tryz.func233.trans (congrArg some (by kernel_rfl))
 f284:=Tryz.func234.trans (congrArg some (by kernel_rfl))
 f285:=Tryz.func235.trans (congrArg some (by kernel_rfl))
 f286:=Tryz.func236.trans (congrArg some (by kernel_rfl))
 f287:=Tryz.func283.trans (congrArg some (by kernel_rfl))
 f316:=Tryz.func284.trans (congrArg some (by kernel_rfl))
 f317:=Tryz.func252.trans (congrArg some (by kernel_rfl))
 f318:=Tryz.func254.trans (congrArg some (by kernel_rfl))
 f319:=Tryz.func255.trans (congrArg some (by kernel_rfl))
 f320:=Tryz.func256.trans (congrArg some (by kernel_rfl))
 f321:=Tryz.func287.trans (congrArg some (by kernel_rfl))
 f322:=Tryz.func288.trans (congrArg some (by kernel_rfl))
 f337:=Tryz.func220.trans (congrArg some (by kernel_rfl))
 f338:=Tryz.func276.trans (congrArg some (by kernel_rfl))
 t0:=Tryz.underlying0
 a0:=Tryz.isAgg0
 z0:=Tryz.sizeOf0
 v0:=Tryz.zeroValue0
 t2:=Tryz.underlying2
 a2:=Tryz.isAgg2
 z2:=Tryz.sizeOf2
 v2:=Tryz.zeroValue2
 t3:=Tryz.underlying3
 a3:=Tryz.isAgg3
 z3:=Tryz.sizeOf3
 v3:=Tryz.zeroValue3
 t4:=Tryz.underlying4
 a4:=Tryz.isAgg4
 z4:=Tryz.sizeOf4
 v4:=Tryz.zeroValue4
 t5:=Tryz.underlying5
 a5:=Tryz.isAgg5
 z5:=Tryz.sizeOf5
 v5:=Tryz.zeroValue5
 t9:=Tryz.underlying9
 a9:=Tryz.isAgg9
 z9:=Tryz.sizeOf9
 v9:=Tryz.zeroValue9
 t20:=Tryz.underlying20
 a20:=Tryz.isAgg20
 z20:=Tryz.sizeOf20
 v20:=Tryz.zeroValue20
 t21:=Tryz.underlying21
 a21:=Tryz.isAgg21
 z21:=Tryz.sizeOf21
 v21:=Tryz.zeroValue21
 t37:=Tryz.underlying161
 a37:=Tryz.isAgg161
 z37:=Tryz.sizeOf161
 v37:=Tryz.zeroValue161
 t46:=Tryz.underlying284
 a46:=Tryz.isAgg284
 z46:=Tryz.sizeOf284
 v46:=Tryz.zeroValue284
 t51:=Tryz.underlying154
 a51:=Tryz.isAgg154
 z51:=Tryz.sizeOf154
 v51:=Tryz.zeroValue154
 t53:=Tryz.underlying275
 a53:=Tryz.isAgg275
 z53:=Tryz.sizeOf275
 v53:=Tryz.zeroValue275
 t75:=Tryz.underlying165
 a75:=Tryz.isAgg165
 z75:=Tryz.sizeOf165
 v75:=Tryz.zeroValue165
 t76:=Tryz.underlying166
 a76:=Tryz.isAgg166
 z76:=Tryz.sizeOf166
 v76:=Tryz.zeroValue166
 t85:=Tryz.underlying306
 a85:=Tryz.isAgg306
 z85:=Tryz.sizeOf306
 v85:=Tryz.zeroValue306
 t127:=Tryz.underlying229
 a127:=Tryz.isAgg229
 z127:=Tryz.sizeOf229
 v127:=Tryz.zeroValue229
 t143:=Tryz.underlying327
 a143:=Tryz.isAgg327
 z143:=Tryz.sizeOf327
 v143:=Tryz.zeroValue327
 t145:=Tryz.underlying329
 a145:=Tryz.isAgg329
 z145:=Tryz.sizeOf329
 v145:=Tryz.zeroValue329
 t167:=Tryz.underlying305
 a167:=Tryz.isAgg305
 z167:=Tryz.sizeOf305
 v167:=Tryz.zeroValue305
 t168:=Tryz.underlying308
 a168:=Tryz.isAgg308
 z168:=Tryz.sizeOf308
 v168:=Tryz.zeroValue308
 t171:=Tryz.underlying274
 a171:=Tryz.isAgg274
 z171:=Tryz.sizeOf274
 v171:=Tryz.zeroValue274
 t173:=Tryz.underlying278
 a173:=Tryz.isAgg278
 z173:=Tryz.sizeOf278
 v173:=Tryz.zeroValue278
 t175:=Tryz.underlying317
 a175:=Tryz.isAgg317
 z175:=Tryz.sizeOf317
 v175:=Tryz.zeroValue317
 t210:=Tryz.underlying321
 a210:=Tryz.isAgg321
 z210:=Tryz.sizeOf321
 v210:=Tryz.zeroValue321
 t212:=Tryz.underlying289
 a212:=Tryz.isAgg289
 z212:=Tryz.sizeOf289
 v212:=Tryz.zeroValue289
 t213:=Tryz.underlying290
 a213:=Tryz.isAgg290
 z213:=Tryz.sizeOf290
 t232:=Tryz.underlying285
 a232:=Tryz.isAgg285
 z232:=Tryz.sizeOf285
 v232:=Tryz.zeroValue285
 t233:=Tryz.underlying323
 a233:=Tryz.isAgg323
 z233:=Tryz.sizeOf323
 v233:=Tryz.zeroValue323
 g15:=by kernel_rfl
 g16:=by kernel_rfl
 g17:=by kernel_rfl
 g18:=by kernel_rfl
 g19:=by kernel_rfl}
open Go.RowKit in
theorem Tryz.strconv_Atoi (s:ByteArray) (n:Int) (hl:s.size≤18) (h:Lib.atoi s.data.toList=some n) (w:World):
 Calls Tryz.prog 230 #[.string s] w fun e w'=>e=.returned (.tuple #[.int .i64 n,.nilIface])∧∃t,w'=Lib.bytesWorld w 5 t:=Any.strconv_Atoi Tryz.lays172 s n hl h w
def Tryz.lays143_ren:Go.Shelf.Ren:=⟨fun|143=>201|219=>228|217=>245|225=>246|224=>247|267=>248|266=>268|314=>269|n=>n,fun|9=>9|3=>3|4=>4|5=>5|46=>284|146=>303|51=>154|n=>n,fun|1=>1|n=>n⟩
theorem Tryz.lays143:Go.Proofs.Lays.n143 Tryz.prog Tryz.lays143_ren:={
 mixed:=by kernel_rfl
 f143:=Tryz.func201.trans (congrArg some (by kernel_rfl))
 f217:=Tryz.func245.trans (congrArg some (by kernel_rfl))
 f219:=Tryz.func228.trans (congrArg some (by kernel_rfl))
 f224:=Tryz.func247.trans (congrArg some (by kernel_rfl))
 f225:=Tryz.func246.trans (congrArg some (by kernel_rfl))
 f266:=Tryz.func268.trans (congrArg some (by kernel_rfl))
 f267:=Tryz.func248.trans (congrArg some (by kernel_rfl))
 f314:=Tryz.func269.trans (congrArg some (by kernel_rfl))
 t3:=Tryz.underlying3
 a3:=Tryz.isAgg3
 z3:=Tryz.sizeOf3
 v3:=Tryz.zeroValue3
 t4:=Tryz.underlying4
 a4:=Tryz.isAgg4
 z4:=Tryz.sizeOf4
 v4:=Tryz.zeroValue4
 t5:=Tryz.underlying5
 a5:=Tryz.isAgg5
 z5:=Tryz.sizeOf5
 v5:=Tryz.zeroValue5
 t9:=Tryz.underlying9
 a9:=Tryz.isAgg9
 z9:=Tryz.sizeOf9
 v9:=Tryz.zeroValue9
 t46:=Tryz.underlying284
 a46:=Tryz.isAgg284
 z46:=Tryz.sizeOf284
 v46:=Tryz.zeroValue284
 t51:=Tryz.underlying154
 a51:=Tryz.isAgg154
 z51:=Tryz.sizeOf154
 v51:=Tryz.zeroValue154
 t146:=Tryz.underlying303
 a146:=Tryz.isAgg303
 z146:=Tryz.sizeOf303
 v146:=Tryz.zeroValue303
 g1:=by kernel_rfl}
open Go.RowKit Go.Lib in
theorem Tryz.strings_Index_one (s:ByteArray) (c:UInt8) (w:World):
 Calls Tryz.prog 201 #[.string s,.string ⟨#[c]⟩] w fun e w'=>e=.returned (.int .i64 (Lib.indexByte s.data.toList c))∧w'=w:=Any.strings_Index_one Tryz.lays143 s c w
def Tryz.lays138_ren:Go.Shelf.Ren:=⟨fun|138=>200|195=>225|218=>227|143=>201|219=>228|217=>245|225=>246|224=>247|267=>248|266=>268|314=>269|n=>n,fun|9=>9|3=>3|4=>4|5=>5|0=>0|46=>284|146=>303|51=>154|n=>n,fun|1=>1|n=>n⟩
theorem Tryz.lays138:Go.Proofs.Lays.n138 Tryz.prog Tryz.lays138_ren:={
 mixed:=by kernel_rfl
 f138:=Tryz.func200.trans (congrArg some (by kernel_rfl))
 f143:=Tryz.func201.trans (congrArg some (by kernel_rfl))
 f195:=Tryz.func225.trans (congrArg some (by kernel_rfl))
 f217:=Tryz.func245.trans (congrArg some (by kernel_rfl))
 f218:=Tryz.func227.trans (congrArg some (by kernel_rfl))
 f219:=Tryz.func228.trans (congrArg some (by kernel_rfl))
 f224:=Tryz.func247.trans (congrArg some (by kernel_rfl))
 f225:=Tryz.func246.trans (congrArg some (by kernel_rfl))
 f266:=Tryz.func268.trans (congrArg some (by kernel_rfl))
 f267:=Tryz.func248.trans (congrArg some (by kernel_rfl))
 f314:=Tryz.func269.trans (congrArg some (by kernel_rfl))
 t0:=Tryz.underlying0
 a0:=Tryz.isAgg0
 z0:=Tryz.sizeOf0
 v0:=Tryz.zeroValue0
 t3:=Tryz.underlying3
 a3:=Tryz.isAgg3
 z3:=Tryz.sizeOf3
 v3:=Tryz.zeroValue3
 t4:=Tryz.underlying4
 a4:=Tryz.isAgg4
 z4:=Tryz.sizeOf4
 v4:=Tryz.zeroValue4
 t5:=Tryz.underlying5
 a5:=Tryz.isAgg5
 z5:=Tryz.sizeOf5
 v5:=Tryz.zeroValue5
 t9:=Tryz.underlying9
 a9:=Tryz.isAgg9
 z9:=Tryz.sizeOf9
 v9:=Tryz.zeroValue9
 t46:=Tryz.underlying284
 a46:=Tryz.isAgg284
 z46:=Tryz.sizeOf284
 v46:=Tryz.zeroValue284
 t51:=Tryz.underlying154
 a51:=Tryz.isAgg154
 z51:=Tryz.sizeOf154
 v51:=Tryz.zeroValue154
 t146:=Tryz.underlying303
 a146:=Tryz.isAgg303
 z146:=Tryz.sizeOf303
 v146:=Tryz.zeroValue303
 g1:=by kernel_rfl}
open Go.RowKit Go.Lib in
theorem Tryz.strings_Count_one (s:ByteArray) (c:UInt8) (w:World):
 Calls Tryz.prog 200 #[.string s,.string ⟨#[c]⟩] w fun e w'=>e=.returned (.int .i64 (Lib.countByte s.data.toList c))∧w'=w:=Any.strings_Count_one Tryz.lays138 s c w
def Tryz.lays100_ren:Go.Shelf.Ren:=⟨fun|100=>112|207=>159|n=>n,fun|9=>9|4=>4|3=>3|n=>n,fun|n=>n⟩
theorem Tryz.lays100:Go.Proofs.Lays.n100 Tryz.prog Tryz.lays100_ren:={
 mixed:=by kernel_rfl
 f100:=Tryz.func112.trans (congrArg some (by kernel_rfl))
 f207:=Tryz.func159.trans (congrArg some (by kernel_rfl))
 t3:=Tryz.underlying3
 a3:=Tryz.isAgg3
 z3:=Tryz.sizeOf3
 v3:=Tryz.zeroValue3
 t4:=Tryz.underlying4
 a4:=Tryz.isAgg4
 z4:=Tryz.sizeOf4
 v4:=Tryz.zeroValue4
 t9:=Tryz.underlying9
 a9:=Tryz.isAgg9
 z9:=Tryz.sizeOf9
 v9:=Tryz.zeroValue9}
open Go.RowKit Go.Lib in
theorem Tryz.strings_HasSuffix (s p:ByteArray) (w:World) (hs:s.size≤9223372036854775807):
 Calls Tryz.prog 112 #[.string s,.string p] w fun e w'=>e=.returned (.bool (Lib.hasSuffix s.data.toList p.data.toList))∧w'=w:=Any.strings_HasSuffix Tryz.lays100 s p w hs
def Tryz.lays102_ren:Go.Shelf.Ren:=⟨fun|102=>114|209=>161|207=>159|n=>n,fun|9=>9|4=>4|3=>3|n=>n,fun|n=>n⟩
theorem Tryz.lays102:Go.Proofs.Lays.n102 Tryz.prog Tryz.lays102_ren:={
 mixed:=by kernel_rfl
 f102:=Tryz.func114.trans (congrArg some (by kernel_rfl))
 f207:=Tryz.func159.trans (congrArg some (by kernel_rfl))
 f209:=Tryz.func161.trans (congrArg some (by kernel_rfl))
 t3:=Tryz.underlying3
 a3:=Tryz.isAgg3
 z3:=Tryz.sizeOf3
 v3:=Tryz.zeroValue3
 t4:=Tryz.underlying4
 a4:=Tryz.isAgg4
 z4:=Tryz.sizeOf4
 v4:=Tryz.zeroValue4
 t9:=Tryz.underlying9
 a9:=Tryz.isAgg9
 z9:=Tryz.sizeOf9
 v9:=Tryz.zeroValue9}
open Go.RowKit Go.Lib in
theorem Tryz.strings_TrimSuffix (s p:ByteArray) (w:World) (hs:s.size≤9223372036854775807):
 Calls Tryz.prog 114 #[.string s,.string p] w fun e w'=>e=.returned (.string ⟨(Lib.trimSuffix s.data.toList p.data.toList).toArray⟩)∧w'=w:=Any.strings_TrimSuffix Tryz.lays102 s p w hs
def Tryz.lays221_ren:Go.Shelf.Ren:=⟨fun|221=>160|268=>199|138=>200|143=>201|195=>225|197=>226|218=>227|219=>228|260=>244|217=>245|225=>246|224=>247|267=>248|266=>268|314=>269|n=>n,fun|9=>9|3=>3|31=>169|4=>4|0=>0|105=>269|21=>21|5=>5|46=>284|119=>299|139=>302|138=>301|146=>303|51=>154|n=>n,fun|1=>1|3=>3|4=>4|n=>n⟩
theorem Tryz.lays221:Go.Proofs.Lays.n221 Tryz.prog Tryz.lays221_ren:={
 mixed:=by kernel_rfl
 f138:=Tryz.func200.trans (congrArg some (by kernel_rfl))
 f143:=Tryz.func201.trans (congrArg some (by kernel_rfl))
 f195:=Tryz.func225.trans (congrArg some (by kernel_rfl))
 f197:=Tryz.func226.trans (congrArg some (by kernel_rfl))
 f217:=Tryz.func245.trans (congrArg some (by kernel_rfl))
 f218:=Tryz.func227.trans (congrArg some (by kernel_rfl))
 f219:=Tryz.func228.trans (congrArg some (by kernel_rfl))
 f221:=Tryz.func160.trans (congrArg some (by kernel_rfl))
 f224:=Tryz.func247.trans (congrArg some (by kernel_rfl))
 f225:=Tryz.func246.trans (congrArg some (by kernel_rfl))
 f260:=Tryz.func244.trans (congrArg some (by kernel_rfl))
 f266:=Tryz.func268.trans (congrArg some (by kernel_rfl))
 f267:=Tryz.func248.trans (congrArg some (by kernel_rfl))
 f268:=Tryz.func199.trans (congrArg some (by kernel_rfl))
 f314:=Tryz.func269.trans (congrArg some (by kernel_rfl))
 t0:=Tryz.underlying0
 a0:=Tryz.isAgg0
 z0:=Tryz.sizeOf0
 v0:=Tryz.zeroValue0
 t3:=Tryz.underlying3
 a3:=Tryz.isAgg3
 z3:=Tryz.sizeOf3
 v3:=Tryz.zeroValue3
 t4:=Tryz.underlying4
 a4:=Tryz.isAgg4
 z4:=Tryz.sizeOf4
 v4:=Tryz.zeroValue4
 t5:=Tryz.underlying5
 a5:=Tryz.isAgg5
 z5:=Tryz.sizeOf5
 v5:=Tryz.zeroValue5
 t9:=Tryz.underlying9
 a9:=Tryz.isAgg9
 z9:=Tryz.sizeOf9
 v9:=Tryz.zeroValue9
 t21:=Tryz.underlying21
 a21:=Tryz.isAgg21
 z21:=Tryz.sizeOf21
 v21:=Tryz.zeroValue21
 t31:=Tryz.underlying169
 a31:=Tryz.isAgg169
 z31:=Tryz.sizeOf169
 v31:=Tryz.zeroValue169
 t46:=Tryz.underlying284
 a46:=Tryz.isAgg284
 z46:=Tryz.sizeOf284
 v46:=Tryz.zeroValue284
 t51:=Tryz.underlying154
 a51:=Tryz.isAgg154
 z51:=Tryz.sizeOf154
 v51:=Tryz.zeroValue154
 t105:=Tryz.underlying269
 a105:=Tryz.isAgg269
 z105:=Tryz.sizeOf269
 v105:=Tryz.zeroValue269
 t119:=Tryz.underlying299
 a119:=Tryz.isAgg299
 z119:=Tryz.sizeOf299
 t138:=Tryz.underlying301
 a138:=Tryz.isAgg301
 z138:=Tryz.sizeOf301
 v138:=Tryz.zeroValue301
 t139:=Tryz.underlying302
 a139:=Tryz.isAgg302
 z139:=Tryz.sizeOf302
 v139:=Tryz.zeroValue302
 t146:=Tryz.underlying303
 a146:=Tryz.isAgg303
 z146:=Tryz.sizeOf303
 v146:=Tryz.zeroValue303
 g1:=by kernel_rfl
 g3:=by kernel_rfl
 g4:=by kernel_rfl}
open Go.RowKit Go.Lib in
theorem Tryz.genSplit_one (s:ByteArray) (c:UInt8) (w:World) (hs:s.size<4294967281):
 Calls Tryz.prog 160 #[.string s,.string ⟨#[c]⟩,.int .i64 (0:Nat),.int .i64 (-1)] w fun e w'=>
  e=.returned (.slice (some ⟨w.heap.size,0,none⟩) (Lib.splitB ⟨#[c]⟩ 0 (Lib.countB s ⟨#[c]⟩) s).length (Lib.countB s ⟨#[c]⟩+1))∧w'=w.alloc (.cells (Lib.cellsOf (Lib.splitB ⟨#[c]⟩ 0 (Lib.countB s ⟨#[c]⟩) s) (Lib.countB s ⟨#[c]⟩+1)) 9):=by
 have hcl:=Lib.countB_le ⟨#[c]⟩ (Nat.le_refl 1) s.size s (Nat.le_refl _)
 refine Any.strings_genSplit_core Tryz.lays221 (by kernel_rfl) s ⟨#[c]⟩ 0 (-1) (Lib.countB s ⟨#[c]⟩+1) w hs (Nat.le_refl 1) (Nat.zero_le _) (fun x d hx=>?_) ?_ (by decide) (by decide) (by rw[if_pos (by decide)];omega)
 ·refine(Tryz.strings_Index_one x c _).mono fun e w' ⟨he,hw⟩=>⟨?_,hw⟩
  rw[he]
  show _=Ending.returned (Value.int .i64 (Lib.index x.data.toList [c]))
  rw[Lib.index_one]
 ·refine(Tryz.strings_Count_one s c w).mono fun e w' ⟨he,hw⟩=>⟨?_,hw⟩
  rw[he]
  show _=Ending.returned (Value.int .i64 ((Lib.count s.data.toList [c]:Nat):Int))
  rw[Lib.count_one]
  rfl
def Tryz.lays156_ren:Go.Shelf.Ren:=⟨fun|156=>158|165=>198|166=>106|169=>110|240=>157|241=>224|276=>197|277=>243|n=>n,fun|31=>169|9=>9|3=>3|4=>4|0=>0|20=>20|72=>163|76=>166|70=>160|37=>161|75=>165|127=>229|164=>252|5=>5|80=>173|n=>n,fun|n=>n⟩
theorem Tryz.lays156:Go.Proofs.Lays.n156 Tryz.prog Tryz.lays156_ren:={
 mixed:=by kernel_rfl
 f156:=Tryz.func158.trans (congrArg some (by kernel_rfl))
 f165:=Tryz.func198.trans (congrArg some (by kernel_rfl))
 f166:=Tryz.func106.trans (congrArg some (by kernel_rfl))
 f169:=Tryz.func110.trans (congrArg some (by kernel_rfl))
 f240:=Tryz.func157.trans (congrArg some (by kernel_rfl))
 f241:=Tryz.func224.trans (congrArg some (by kernel_rfl))
 f276:=Tryz.func197.trans (congrArg some (by kernel_rfl))
 f277:=Tryz.func243.trans (congrArg some (by kernel_rfl))
 t0:=Tryz.underlying0
 a0:=Tryz.isAgg0
 z0:=Tryz.sizeOf0
 v0:=Tryz.zeroValue0
 t3:=Tryz.underlying3
 a3:=Tryz.isAgg3
 z3:=Tryz.sizeOf3
 v3:=Tryz.zeroValue3
 t4:=Tryz.underlying4
 a4:=Tryz.isAgg4
 z4:=Tryz.sizeOf4
 v4:=Tryz.zeroValue4
 t9:=Tryz.underlying9
 a9:=Tryz.isAgg9
 z9:=Tryz.sizeOf9
 v9:=Tryz.zeroValue9
 t20:=Tryz.underlying20
 a20:=Tryz.isAgg20
 z20:=Tryz.sizeOf20
 v20:=Tryz.zeroValue20
 t31:=Tryz.underlying169
 a31:=Tryz.isAgg169
 z31:=Tryz.sizeOf169
 v31:=Tryz.zeroValue169
 t37:=Tryz.underlying161
 a37:=Tryz.isAgg161
 z37:=Tryz.sizeOf161
 v37:=Tryz.zeroValue161
 t70:=Tryz.underlying160
 a70:=Tryz.isAgg160
 z70:=Tryz.sizeOf160
 v70:=Tryz.zeroValue160
 t72:=Tryz.underlying163
 a72:=Tryz.isAgg163
 z72:=Tryz.sizeOf163
 v72:=Tryz.zeroValue163
 t75:=Tryz.underlying165
 a75:=Tryz.isAgg165
 z75:=Tryz.sizeOf165
 v75:=Tryz.zeroValue165
 t76:=Tryz.underlying166
 a76:=Tryz.isAgg166
 z76:=Tryz.sizeOf166
 v76:=Tryz.zeroValue166
 t127:=Tryz.underlying229
 a127:=Tryz.isAgg229
 z127:=Tryz.sizeOf229
 v127:=Tryz.zeroValue229
 t164:=Tryz.underlying252
 a164:=Tryz.isAgg252
 z164:=Tryz.sizeOf252
 v164:=Tryz.zeroValue252}
theorem Tryz.Builder_Extra_156:Builder.Extra Tryz.prog Tryz.lays156_ren:={
 sizeBuilder:=by kernel_rfl
 liesBuilder:=by kernel_rfl
 t5:=Tryz.underlying5
 a5:=Tryz.isAgg5
 z5:=Tryz.sizeOf5
 v5:=Tryz.zeroValue5
 infoByte:=by kernel_rfl
 cellsByte:=by kernel_rfl
 sizeByte:=by kernel_rfl
 neB5:=by decide}
open Go.RowKit in
theorem Tryz.strings_Join_none (a:Option Addr) (c:Nat) (sep:ByteArray) (w:World):
 Calls Tryz.prog 158 #[.slice a 0 c,.string sep] w fun e w'=>e=.returned (.string ⟨#[]⟩)∧w'=w:=Any.strings_Join_none Tryz.lays156 Tryz.Builder_Extra_156 a c sep w
open Go.RowKit in
theorem Tryz.strings_Join (bk o c:Nat) (xs:List ByteArray) (sep:ByteArray) (w:World) (hcells:∀(j:Nat) x,xs[j]? =some x→w.cell? ⟨bk,o+j,none⟩=some (.string x)) (hbk:bk<w.heap.size) (hN:xs.length≤140737488355328) (hcap:xs.length≤c) (hlen:(Lib.join (xs.map (·.data.toList)) sep.data.toList).length≤140737488355328):
 Calls Tryz.prog 158 #[.slice (some ⟨bk,o,none⟩) xs.length c,.string sep] w fun e w'=>e=.returned (.string ⟨(Lib.join (xs.map (·.data.toList)) sep.data.toList).toArray⟩)∧Below w.heap.size w w':=Any.strings_Join Tryz.lays156 Tryz.Builder_Extra_156 bk o c xs sep w hcells hbk hN hcap hlen
def Tryz.laysM171_ren:Go.Shelf.Ren:=⟨fun|171=>129|243=>171|246=>209|283=>233|284=>234|285=>235|286=>236|129=>253|317=>252|318=>254|319=>255|320=>256|337=>220|338=>276|n=>n,fun|3=>3|9=>9|2=>2|4=>4|171=>274|0=>0|53=>275|37=>161|5=>5|173=>278|212=>289|51=>154|20=>20|213=>290|46=>284|232=>285|233=>323|n=>n,fun|17=>2|18=>0|19=>7|n=>n⟩
theorem Tryz.laysM171:Go.Proofs.LaysM.n171 Tryz.prog Tryz.laysM171_ren:={
 mixed:=by kernel_rfl
 f129:=Tryz.func253.trans (congrArg some (by kernel_rfl))
 f171:=Tryz.func129.trans (congrArg some (by kernel_rfl))
 f243:=Tryz.func171.trans (congrArg some (by kernel_rfl))
 f246:=Tryz.func209.trans (congrArg some (by kernel_rfl))
 f283:=Tryz.func233.trans (congrArg some (by kernel_rfl))
 f284:=Tryz.func234.trans (congrArg some (by kernel_rfl))
 f285:=Tryz.func235.trans (congrArg some (by kernel_rfl))
 f286:=Tryz.func236.trans (congrArg some (by kernel_rfl))
 f317:=Tryz.func252.trans (congrArg some (by kernel_rfl))
 f318:=Tryz.func254.trans (congrArg some (by kernel_rfl))
 f319:=Tryz.func255.trans (congrArg some (by kernel_rfl))
 f320:=Tryz.func256.trans (congrArg some (by kernel_rfl))
 f337:=Tryz.func220.trans (congrArg some (by kernel_rfl))
 f338:=Tryz.func276.trans (congrArg some (by kernel_rfl))
 t0:=Tryz.underlying0
 a0:=Tryz.isAgg0
 z0:=Tryz.sizeOf0
 v0:=Tryz.zeroValue0
 t2:=Tryz.underlying2
 a2:=Tryz.isAgg2
 z2:=Tryz.sizeOf2
 v2:=Tryz.zeroValue2
 t3:=Tryz.underlying3
 a3:=Tryz.isAgg3
 z3:=Tryz.sizeOf3
 v3:=Tryz.zeroValue3
 t4:=Tryz.underlying4
 a4:=Tryz.isAgg4
 z4:=Tryz.sizeOf4
 v4:=Tryz.zeroValue4
 t5:=Tryz.underlying5
 a5:=Tryz.isAgg5
 z5:=Tryz.sizeOf5
 v5:=Tryz.zeroValue5
 t9:=Tryz.underlying9
 a9:=Tryz.isAgg9
 z9:=Tryz.sizeOf9
 v9:=Tryz.zeroValue9
 t20:=Tryz.underlying20
 a20:=Tryz.isAgg20
 z20:=Tryz.sizeOf20
 v20:=Tryz.zeroValue20
 t37:=Tryz.underlying161
 a37:=Tryz.isAgg161
 z37:=Tryz.sizeOf161
 v37:=Tryz.zeroValue161
 t46:=Tryz.underlying284
 a46:=Tryz.isAgg284
 z46:=Tryz.sizeOf284
 v46:=Tryz.zeroValue284
 t51:=Tryz.underlying154
 a51:=Tryz.isAgg154
 z51:=Tryz.sizeOf154
 v51:=Tryz.zeroValue154
 t53:=Tryz.underlying275
 a53:=Tryz.isAgg275
 z53:=Tryz.sizeOf275
 v53:=Tryz.zeroValue275
 t171:=Tryz.underlying274
 a171:=Tryz.isAgg274
 z171:=Tryz.sizeOf274
 v171:=Tryz.zeroValue274
 t173:=Tryz.underlying278
 a173:=Tryz.isAgg278
 z173:=Tryz.sizeOf278
 v173:=Tryz.zeroValue278
 t212:=Tryz.underlying289
 a212:=Tryz.isAgg289
 z212:=Tryz.sizeOf289
 v212:=Tryz.zeroValue289
 t213:=Tryz.underlying290
 a213:=Tryz.isAgg290
 z213:=Tryz.sizeOf290
 t232:=Tryz.underlying285
 a232:=Tryz.isAgg285
 z232:=Tryz.sizeOf285
 v232:=Tryz.zeroValue285
 t233:=Tryz.underlying323
 a233:=Tryz.isAgg323
 z233:=Tryz.sizeOf323
 v233:=Tryz.zeroValue323
 g17:=by kernel_rfl
 g18:=by kernel_rfl
 g19:=by kernel_rfl
 i0:=by kernel_rfl
 i2:=by kernel_rfl
 i3:=by kernel_rfl
 i4:=by kernel_rfl
 i5:=by kernel_rfl
 i9:=by kernel_rfl
 i20:=by kernel_rfl
 i37:=by kernel_rfl
 i46:=by kernel_rfl
 i51:=by kernel_rfl
 i53:=by kernel_rfl
 i171:=by kernel_rfl
 i173:=by kernel_rfl
 i212:=by kernel_rfl
 i232:=by kernel_rfl
 i233:=by kernel_rfl
 m17:=by kernel_rfl
 m18:=by kernel_rfl
 m19:=by kernel_rfl}
open Go.RowKit Go.Sort Go.Lib in
theorem Tryz.strconv_Itoa (n:Int) (h0: -9223372036854775808≤n) (h1:n≤9223372036854775807) (w:World) (htab:Lib.TabIs Tryz.prog w "internal/strconv.uint64pow10" .u64 Lib.pow10Tab):
 Calls Tryz.prog 129 #[.int .i64 n] w fun e w'=>e=.returned (.string ⟨(Lib.itoa n).toArray⟩)∧∃k os,w'=grow (w.drewN k) os:=Any.strconv_Itoa Tryz.laysM171 n h0 h1 w htab
open Go.RowKit Go.Sort Go.Lib in
def Tryz.lays189_ren:Go.Shelf.Ren:=⟨fun|189=>219|125=>242|257=>241|128=>257|129=>253|294=>259|295=>260|296=>261|297=>262|298=>263|299=>264|216=>265|300=>266|301=>267|328=>277|329=>278|330=>279|331=>280|332=>281|215=>282|343=>286|n=>n,fun|28=>25|3=>3|46=>284|0=>0|51=>154|53=>275|4=>4|183=>293|182=>292|131=>234|5=>5|9=>9|218=>311|222=>315|228=>324|229=>63|n=>n,fun|n=>n⟩
theorem Tryz.lays189:Go.Proofs.Lays.n189 Tryz.prog Tryz.lays189_ren:={
 mixed:=by kernel_rfl
 f125:=Tryz.func242.trans (congrArg some (by kernel_rfl))
 f128:=Tryz.func257.trans (congrArg some (by kernel_rfl))
 f129:=Tryz.func253.trans (congrArg some (by kernel_rfl))
 f189:=Tryz.func219.trans (congrArg some (by kernel_rfl))
 f215:=Tryz.func282.trans (congrArg some (by kernel_rfl))
 f216:=Tryz.func265.trans (congrArg some (by kernel_rfl))
 f257:=Tryz.func241.trans (congrArg some (by kernel_rfl))
 f294:=Tryz.func259.trans (congrArg some (by kernel_rfl))
 f295:=Tryz.func260.trans (congrArg some (by kernel_rfl))
 f296:=Tryz.func261.trans (congrArg some (by kernel_rfl))
 f297:=Tryz.func262.trans (congrArg some (by kernel_rfl))
 f298:=Tryz.func263.trans (congrArg some (by kernel_rfl))
 f299:=Tryz.func264.trans (congrArg some (by kernel_rfl))
 f300:=Tryz.func266.trans (congrArg some (by kernel_rfl))
 f301:=Tryz.func267.trans (congrArg some (by kernel_rfl))
 f328:=Tryz.func277.trans (congrArg some (by kernel_rfl))
 f329:=Tryz.func278.trans (congrArg some (by kernel_rfl))
 f330:=Tryz.func279.trans (congrArg some (by kernel_rfl))
 f331:=Tryz.func280.trans (congrArg some (by kernel_rfl))
 f332:=Tryz.func281.trans (congrArg some (by kernel_rfl))
 f343:=Tryz.func286.trans (congrArg some (by kernel_rfl))
 t0:=Tryz.underlying0
 a0:=Tryz.isAgg0
 z0:=Tryz.sizeOf0
 v0:=Tryz.zeroValue0
 t3:=Tryz.underlying3
 a3:=Tryz.isAgg3
 z3:=Tryz.sizeOf3
 v3:=Tryz.zeroValue3
 t4:=Tryz.underlying4
 a4:=Tryz.isAgg4
 z4:=Tryz.sizeOf4
 v4:=Tryz.zeroValue4
 t5:=Tryz.underlying5
 a5:=Tryz.isAgg5
 z5:=Tryz.sizeOf5
 v5:=Tryz.zeroValue5
 t9:=Tryz.underlying9
 a9:=Tryz.isAgg9
 z9:=Tryz.sizeOf9
 v9:=Tryz.zeroValue9
 t28:=Tryz.underlying25
 a28:=Tryz.isAgg25
 z28:=Tryz.sizeOf25
 v28:=Tryz.zeroValue25
 t46:=Tryz.underlying284
 a46:=Tryz.isAgg284
 z46:=Tryz.sizeOf284
 v46:=Tryz.zeroValue284
 t51:=Tryz.underlying154
 a51:=Tryz.isAgg154
 z51:=Tryz.sizeOf154
 v51:=Tryz.zeroValue154
 t53:=Tryz.underlying275
 a53:=Tryz.isAgg275
 z53:=Tryz.sizeOf275
 v53:=Tryz.zeroValue275
 t131:=Tryz.underlying234
 a131:=Tryz.isAgg234
 z131:=Tryz.sizeOf234
 v131:=Tryz.zeroValue234
 t182:=Tryz.underlying292
 a182:=Tryz.isAgg292
 z182:=Tryz.sizeOf292
 v182:=Tryz.zeroValue292
 t183:=Tryz.underlying293
 a183:=Tryz.isAgg293
 z183:=Tryz.sizeOf293
 v183:=Tryz.zeroValue293
 t218:=Tryz.underlying311
 a218:=Tryz.isAgg311
 z218:=Tryz.sizeOf311
 v218:=Tryz.zeroValue311
 t222:=Tryz.underlying315
 a222:=Tryz.isAgg315
 z222:=Tryz.sizeOf315
 v222:=Tryz.zeroValue315
 t228:=Tryz.underlying324
 a228:=Tryz.isAgg324
 z228:=Tryz.sizeOf324
 v228:=Tryz.zeroValue324
 t229:=Tryz.underlying63
 a229:=Tryz.isAgg63
 z229:=Tryz.sizeOf63
 v229:=Tryz.zeroValue63}
open Go.Sort Go.RowKit in
theorem Tryz.slices_Sort_int (blk off cap:Nat) (zs:List Int) (w:World) (hH:Holds (Value.int .i64) w blk off zs.toArray) (hblk:blk<w.heap.size) (hsz:zs.length<4611686018427387904):
 Calls Tryz.prog 219 #[.slice (some ⟨blk,off,none⟩) zs.length cap] w fun e w'=>
  e=.returned (.tuple #[])∧∃n os,w'=grow (putRow (Value.int .i64) (Sort.ahead w n) blk off (zs.mergeSort fun x y=>decide (x≤y)).toArray) os:=Any.slices_Sort_int Tryz.lays189 blk off cap zs w hH hblk hsz
end Go.Proofs
namespace Go.Eng.YtcechbdgokjmgaaGreatDoor
open Go.Proofs
set_option linter.unusedSimpArgs false
set_option linter.unusedVariables false
set_option maxHeartbeats 0
set_option maxRecDepth 100000
theorem acr:te3.bytes=8:=by rfl
theorem acs:te4.bytes=1:=by rfl
theorem acu:te3.size=1:=by rfl
theorem acv:te4.size=1:=by rfl
theorem aaz:za.size=1:=by rfl
theorem ze:Di.size=4:=by rfl
theorem vn:(∀(cs:List PV),CL.cnt (.pv cs)=cs.length)∧(∀(cs:List PV),CL.ncell (.pv cs)=cs.length)∧(∀(k:IntKind) (xs:List Int),CL.cnt (.ints k xs)=xs.length)∧(∀(k:IntKind) (xs:List Int),CL.ncell (.ints k xs)=xs.length)∧(∀(xs:List Bool),CL.cnt (.bools xs)=xs.length)∧(∀(xs:List Bool),CL.ncell (.bools xs)=xs.length)∧(∀(xs:List ByteArray),CL.cnt (.strs xs)=xs.length)∧(∀(xs:List ByteArray),CL.ncell (.strs xs)=xs.length)∧(∀(k:IntKind) (xss:List (List Int)),CL.cnt (.rows k xss)=xss.length)∧(∀(k:IntKind) (xss:List (List Int)),CL.ncell (.rows k xss)=xss.length)∧(∀(m:Nat) (rs:List (List PV)),CL.cnt (.recs m rs)=rs.length)∧(∀(m:Nat) (rs:List (List PV)),CL.ncell (.recs m rs)=rs.length*m)∧(∀(n:Nat) (f:Nat→PV),CL.cnt (.gen n f)=n)∧(∀(n:Nat) (f:Nat→PV),CL.ncell (.gen n f)=n)∧(∀(m n:Nat) (f:Nat→List PV),CL.cnt (.genr m n f)=n)∧(∀(m n:Nat) (f:Nat→List PV),CL.ncell (.genr m n f)=n*m):=
 ⟨fun _=>rfl,fun _=>rfl,fun _ _=>rfl,fun _ _=>rfl,fun _=>rfl,fun _=>rfl,fun _=>rfl,fun _=>rfl,fun _ _=>rfl,fun _ _=>rfl,fun _ _=>rfl,fun _ _=>rfl,fun _ _=>rfl,fun _ _=>rfl,fun _ _ _=>rfl,fun _ _ _=>rfl⟩
theorem vp:((∀(cs:List PV),CL.cnt (.pv cs)=cs.length)∧(∀(cs:List PV),CL.ncell (.pv cs)=cs.length)∧(∀(k:IntKind) (xs:List Int),CL.cnt (.ints k xs)=xs.length)∧(∀(k:IntKind) (xs:List Int),CL.ncell (.ints k xs)=xs.length)∧(∀(xs:List Bool),CL.cnt (.bools xs)=xs.length)∧(∀(xs:List Bool),CL.ncell (.bools xs)=xs.length)∧(∀(xs:List ByteArray),CL.cnt (.strs xs)=xs.length)∧(∀(xs:List ByteArray),CL.ncell (.strs xs)=xs.length)∧(∀(k:IntKind) (xss:List (List Int)),CL.cnt (.rows k xss)=xss.length)∧(∀(k:IntKind) (xss:List (List Int)),CL.ncell (.rows k xss)=xss.length)∧(∀(m:Nat) (rs:List (List PV)),CL.cnt (.recs m rs)=rs.length)∧(∀(m:Nat) (rs:List (List PV)),CL.ncell (.recs m rs)=rs.length*m)∧(∀(n:Nat) (f:Nat→PV),CL.cnt (.gen n f)=n)∧(∀(n:Nat) (f:Nat→PV),CL.ncell (.gen n f)=n)∧(∀(m n:Nat) (f:Nat→List PV),CL.cnt (.genr m n f)=n)∧(∀(m n:Nat) (f:Nat→List PV),CL.ncell (.genr m n f)=n*m))∧za.size=1∧(∀n:Nat,((n:Int)).toNat=n)∧te3.bytes=8∧te4.bytes=1∧te3.size=1∧te4.size=1∧(∀n:Nat,n*1=n)∧(∀n:Nat,0+n=n)∧((false=true)=False)∧((true=false)=False):=
 ⟨vn,aaz,Int.toNat_natCast,acr,acs,acu,acv,Nat.mul_one,Nat.zero_add,by simp,by simp⟩
theorem vq:(∀(p:Prop) [Decidable p],(decide p=true)=p)∧(∀(p:Prop) [Decidable p],(decide p=false)=¬p)∧(∀b:Bool,(¬b=true)=(b=false))∧((!false)=true)∧((!true)=false)∧(∀p:Prop,(p∧p)=p)∧(∀p:Prop,(p∧True)=p)∧(∀p:Prop,(True∧p)=p)∧(∀(α:Type) (a:α) (l:List α),(a::l).length=l.length+1)∧(∀α:Type,([]:List α).length=0)∧((∀(cs:List PV),CL.cnt (.pv cs)=cs.length)∧(∀(cs:List PV),CL.ncell (.pv cs)=cs.length)∧(∀(k:IntKind) (xs:List Int),CL.cnt (.ints k xs)=xs.length)∧(∀(k:IntKind) (xs:List Int),CL.ncell (.ints k xs)=xs.length)∧(∀(xs:List Bool),CL.cnt (.bools xs)=xs.length)∧(∀(xs:List Bool),CL.ncell (.bools xs)=xs.length)∧(∀(xs:List ByteArray),CL.cnt (.strs xs)=xs.length)∧(∀(xs:List ByteArray),CL.ncell (.strs xs)=xs.length)∧(∀(k:IntKind) (xss:List (List Int)),CL.cnt (.rows k xss)=xss.length)∧(∀(k:IntKind) (xss:List (List Int)),CL.ncell (.rows k xss)=xss.length)∧(∀(m:Nat) (rs:List (List PV)),CL.cnt (.recs m rs)=rs.length)∧(∀(m:Nat) (rs:List (List PV)),CL.ncell (.recs m rs)=rs.length*m)∧(∀(n:Nat) (f:Nat→PV),CL.cnt (.gen n f)=n)∧(∀(n:Nat) (f:Nat→PV),CL.ncell (.gen n f)=n)∧(∀(m n:Nat) (f:Nat→List PV),CL.cnt (.genr m n f)=n)∧(∀(m n:Nat) (f:Nat→List PV),CL.ncell (.genr m n f)=n*m))∧za.size=1∧(∀n:Nat,((n:Int)).toNat=n)∧te3.bytes=8∧te4.bytes=1∧te3.size=1∧te4.size=1∧(∀n:Nat,n*1=n)∧(∀n:Nat,0+n=n)∧((false=true)=False)∧((true=false)=False):=
 ⟨fun p _=>decide_eq_true_eq,fun p _=>propext decide_eq_false_iff_not,fun b=>by simp,rfl,rfl,and_self,and_true,true_and,fun _ _ _=>rfl,fun _=>rfl,vp⟩
def gq:PSp:=fun xs K=>match xs with
 | [.bp h,.int .i64 e]=>K (.int .i64 (if h then e else 0))
 | [.bool h,.int .i64 e]=>K (.int .i64 (if h then e else 0))
 |_=>False
def aJ:List Int→Int
 | []=>0
 |x::r=>if x=0 then aJ r else x
theorem uI:∀(l:List Int),(∀i,i<l.length→l.getD i 0=0)→aJ l=0:=by
 intro l
 induction l with
 |nil=>intro _;rfl
 |cons x r ih=>
  intro h
  have h0:=h 0 (by simp)
  simp at h0
  subst h0
  exact ih fun i hi=>by simpa using h (i+1) (by simpa using hi)
theorem jO:∀(l:List Int) (k:Nat),k<l.length→(∀i,i<k→l.getD i 0=0)→l.getD k 0≠0→aJ l=l.getD k 0:=by
 intro l
 induction l with
 |nil=>intro k hk;simp at hk
 |cons x r ih=>
  intro k hk h hne
  cases k with
  |zero=>simp at hne;simp[aJ,hne]
  |succ k=>
   have h0:=h 0 (by omega)
   simp at h0
   subst h0
   have:=ih k (by simpa using hk) (fun i hi=>by simpa using h (i+1) (by omega)) (by simpa using hne)
   simp[aJ,this]
theorem Oi {go:List PV→Bool} {L:List PV} {i:Nat} {x:PV} (h:L[i]? =some x) (hg:GoTo go L i):Nxt go L (L.take i) x:=⟨i,(List.getElem?_eq_some_iff.1 h).1,rfl,h,hg⟩
def itB (n:Int):ByteArray:=⟨(Go.Lib.itoa n).toArray⟩
def mV (n:Int):Prop:= -9223372036854775808≤n∧n≤9223372036854775807
theorem ow {n:Int} (h:mV n):(itB n).size≤21:=by
 have:=Go.Lib.itoa_length_le n h.1 h.2
 simpa [itB,ByteArray.size]using this
theorem Oj {S:Imm} {w:World} (h:gB S w):Lib.TabIs Tryz.prog w "internal/strconv.uint64pow10" .u64 Lib.pow10Tab:=by
 obtain⟨h0,h1⟩:=h 2 _ rfl
 have e:mh=Lib.pow10Tab:=by decide
 unfold Lib.TabIs World.var?
 rw[show Tryz.prog.globalNamed "internal/strconv.uint64pow10" =some 2 from by kernel_rfl,Option.bind_some,←e]
 unfold bsz at h0
 split at h0
 ·rename_i cs t f hb
  rw[hb]
  refine congrArg some (Array.ext_getElem? fun j=>?_)
  have hsz:cs.size=mh.length:=by simpa [CL.ncell]using h0
  rcases Nat.lt_or_ge j mh.length with hj|hj
  ·obtain⟨_,hr⟩:=h1 j (by simpa [CL.ncell]using hj)
   have h2:rd w 2 j=some cs[j]:=by simp[rd,hb,hsz,hj]
   have h3:rdv w 2 j=cs[j]:=by unfold rdv;rw[h2];rfl
   rw[h3]at hr
   rw[Array.getElem?_eq_getElem (by omega)]
   have h4:(CL.ints .u64 mh).get j=.int .u64 (mh.getD j 0):=rfl
   rw[h4]at hr
   generalize cs[j]=y at hr
   cases hr
   simp[List.getD_eq_getElem?_getD,hj]
  ·rw[Array.getElem?_eq_none (by omega),Array.getElem?_eq_none (by simpa using hj)]
 ·cases h0
theorem Ol (n:Int) (h:mV n):aG Tryz.prog 129 [.int .i64 n] (.str (itB n)):=by
 refine o9 (enters' Tryz.func129 (by rfl) (by rfl)) fun S w vs hg himm hA=>?_
 have h0:=hA.2 0 (by simp)
 have hsz:vs.size=1:=hA.1.symm
 simp only[aC]at h0
 have hvs:vs= #[vs.getD 0 undef]:=by
  apply Array.ext (by simp[hsz])
  intro i h1 h2
  have:i=0:=by omega
  subst this
  simp[Array.getD_eq_getD_getElem?,h1]
 rw[hvs]
 generalize vs.getD 0 undef=v0 at h0
 cases h0
 refine⟨_,.str _ _,?_⟩
 refine(Tryz.strconv_Itoa n h.1 h.2 w (Oj hg)).mono ?_
 rintro e w' ⟨rfl,k,os,rfl⟩
 exact⟨rfl,Lib.below_grow _ _ (Nat.le_refl _) _ _⟩
def Dj:PSp:=fun xs K=>match xs with
 | [.int .i64 n]=>VC (mV n)∧K (.str (itB n))
 |_=>False
theorem IU:POK Tryz.prog 129 Dj:=by
 intro xs K h
 unfold Dj at h
 split at h
 ·exact⟨_,h.2,Ol _ h.1.get⟩
 ·exact h.elim
def joB (xs:List ByteArray) (sep:ByteArray):ByteArray:=⟨(Go.Lib.join (xs.map (·.data.toList)) sep.data.toList).toArray⟩
theorem Om (xs:List ByteArray) (sep:ByteArray) (h:xs.length≤1000000) (hl:(joB xs sep).size≤140737488355328):aG Tryz.prog 158 [.isl (.strs xs) .none,.str sep] (.str (joB xs sep)):=by
 refine gU (enters' Tryz.func158 (by rfl) (by rfl)) fun S w vs himm hA=>?_
 have h0:=hA.2 0 (by simp)
 have h1:=hA.2 1 (by simp)
 have hsz:vs.size=2:=hA.1.symm
 simp only[aC]at h0 h1
 have hvs:vs= #[vs.getD 0 undef,vs.getD 1 undef]:=by
  apply Array.ext (by simp[hsz])
  intro i h1 h2
  have:i=0∨i=1:=by omega
  rcases this with rfl|rfl<;>simp[Array.getD_eq_getD_getElem?,h1]
 rw[hvs]
 generalize vs.getD 0 undef=v0 at h0
 generalize vs.getD 1 undef=v1 at h1
 cases h1
 refine⟨.string (joB xs sep),.str _ _,?_⟩
 rcases N7 himm h0 with⟨a,rfl,rfl⟩|⟨b,off,cap,rfl,hc,hcell,hb⟩
 ·refine(Tryz.strings_Join_none a 0 sep w).mono ?_
  rintro e w' ⟨rfl,rfl⟩
  exact⟨rfl,.refl _ _⟩
 ·rcases Nat.eq_zero_or_pos xs.length with hz|hz
  ·obtain rfl:xs=[]:=List.eq_nil_of_length_eq_zero hz
   refine(Tryz.strings_Join_none (some ⟨b,off,none⟩) cap sep w).mono ?_
   rintro e w' ⟨rfl,rfl⟩
   exact⟨rfl,.refl _ _⟩
  ·refine(Tryz.strings_Join b off cap xs sep w hcell (hb hz) (by omega) hc (by simpa [joB,ByteArray.size]using hl)).mono ?_
   rintro e w' ⟨rfl,hB⟩
   exact⟨rfl,hB⟩
def La:PSp:=fun xs K=>match xs with
 | [.isl (.strs xs) .none,.str sep]=>VC (xs.length≤1000000∧(joB xs sep).size≤140737488355328)∧K (.str (joB xs sep))
 |_=>False
theorem Xm:POK Tryz.prog 158 La:=by
 intro xs K h
 unfold La at h
 split at h
 ·exact⟨_,h.2,Om _ _ h.1.get.1 h.1.get.2⟩
 ·exact h.elim
def kBl:ByteArray:=⟨#[32]⟩
theorem Xn {xs:List ByteArray} {b:Nat} (h:∀x∈xs,x.size≤b):Go.Lib.lens (xs.map (·.data.toList))≤xs.length*b:=by
 induction xs with
 |nil=>simp[Go.Lib.lens]
 |cons x xs ih=>
  have h1:=ih fun y hy=>h y (List.mem_cons_of_mem _ hy)
  have h2:=h x (List.mem_cons_self ..)
  simp only[Go.Lib.lens,List.map_cons,List.sum_cons,List.length_cons]at h1⊢
  have h3:x.data.toList.length=x.size:=by rw[Array.length_toList];rfl
  rw[h3,Nat.succ_mul];omega
theorem ER {xs:List ByteArray} {b:Nat} (h:∀x∈xs,x.size≤b):(joB xs kBl).size≤xs.length*(b+1):=by
 cases xs with
 |nil=>exact Nat.zero_le _
 |cons x xs=>
  have h1:=Xn (xs:=xs) fun y hy=>h y (List.mem_cons_of_mem _ hy)
  have h2:=h x (List.mem_cons_self ..)
  have h3:x.data.toList.length=x.size:=by rw[Array.length_toList];rfl
  have e:(joB (x::xs) kBl).size=x.size+(xs.length+Go.Lib.lens (xs.map (·.data.toList))):=by
   show(List.toArray _).size=_
   have e1:kBl.data.toList.length=1:=rfl
   rw[List.size_toArray,List.map_cons,Go.Lib.join_cons,List.length_append,Go.Lib.joinTail_length,List.length_map,e1,h3,Nat.one_mul]
  rw[e,List.length_cons,Nat.succ_mul,Nat.mul_add]
  omega
noncomputable def acw:CPT:=aA 158 (aB La) noC
theorem Xo:aY Tryz.prog acw:=aj (au Xm) aD
theorem Lb (xs:List ByteArray) (h:xs.length≤1000000) (hl:(joB xs kBl).size≤140737488355328):aG Tryz.prog 107 [.isl (.strs xs) .none] (.str (joB xs kBl)):=by
 unfold kBl at*
 refine av (md:=1) (rf:=[]) mixed ak Xo Tryz.func107 (by rfl) (by rfl) (by rfl) ?_
 repeat'((conv=>whnf);first|intro _|apply aI|with_reducible exact vM rfl|exact⟨⟩|apply nM|apply fM)
 all_goals((try apply vM);(try simp only[vq]at*);try omega)
 all_goals first|exact⟨h,hl⟩|exact Sup.of rfl|exact fun h=>h
structure Q5 (xs:List ByteArray) (n:Nat):Prop where
 len:xs.length≤n
 sz:∀x∈xs,x.size≤4000
def zf:PSp:=fun xs K=>match xs with
 | [.isl (.strs ws) .none]=>VC (Q5 ws 1000000)∧K (.str (joB ws kBl))
 |_=>False
theorem ES:POK Tryz.prog 107 zf:=by
 intro xs K hk
 unfold zf at hk
 split at hk
 ·refine⟨_,hk.2,Lb _ hk.1.get.len ?_⟩
  have h1:=ER hk.1.get.sz
  have h2:=hk.1.get.len
  have:(4000+1)*1000000≤140737488355328:=by decide
  refine Nat.le_trans h1 (Nat.le_trans (Nat.mul_le_mul_right _ h2) ?_)
  decide
 ·exact hk.elim
def mI (l:List Int) (m:Nat):List ByteArray:=(l.take m).map itB
theorem Hy (l:List Int) (m:Nat) (h:m<l.length):mI l (m+1)=mI l m++[itB (l.getD m 0)]:=by
 unfold mI
 rw[List.take_add_one,List.map_append,List.getD_eq_getElem?_getD,List.getElem?_eq_getElem h];rfl
theorem zh (l:List Int) (m:Nat) (h:m≤l.length):(mI l m).length=m:=by simp[mI];omega
noncomputable def acy:CPT:=aA 129 (aB Dj) noC
theorem IV:aY Tryz.prog acy:=aj (au IU) aD
structure Q6 (l:List Int):Prop where
 len:l.length≤1000000
 num:∀i,i<l.length→mV (l.getD i 0)
theorem Lc (l:List Int) (h:Q6 l):aG Tryz.prog 108 [.isl (.ints .i64 l) .none] (.isl (.strs (l.map itB)) .none):=by
 obtain⟨hl,hn⟩:=h
 refine av (md:=1) (rf:=[]) mixed ak IV Tryz.func108 (by rfl) (by rfl) (by rfl) ?_
 repeat'((conv=>whnf);first|intro _|apply aI|with_reducible exact vM rfl|exact⟨⟩|apply nM|apply fM)
 all_goals((try apply vM);(try simp only[vq]at*);try omega)
 conv=>whnf
 refine aM (X:=Nat) (fun i=>i≤l.length) (fun i=>[(8,.int .i64 i),(3,.isl (.strs (mI l i)) (.own 3)),(5,.any)]) (fun i=>[(3,.tok 1 i)]) (fun i=>l.length-i) 0 ⟨aK,mixed,ak,IV,aQ⟩ (by rfl) (by omega) ?_ ?_
 ·repeat'((conv=>whnf);first|intro _|apply aI|with_reducible exact vM rfl|exact⟨⟩|apply nM|apply fM)
  all_goals((try apply vM);(try simp only[vq]at*);try omega)
 intro i hi
 by_cases hlt:i<l.length
 ·have e0:=zh l i hi
  have e1:=Hy l i hlt
  have e2:=hn i hlt
  repeat'((conv=>whnf);first|intro _|apply aI|with_reducible exact vM rfl|exact⟨⟩|apply nM|apply fM)
  all_goals((try apply vM);(try simp only[vq]at*);try omega)
  all_goals(try exact e2)
  all_goals(try(simp only[List.length_append,List.length_cons,List.length_nil];omega))
  refine⟨i+1,[],⟨by omega,by omega⟩,?_⟩
  repeat'((conv=>whnf);first|intro _|apply aI|with_reducible exact vM rfl|exact⟨⟩|apply nM|apply fM)
  all_goals((try apply vM);(try simp only[vq]at*);try omega)
  all_goals(try(rw[e1]))
 ·have:l.length=i:=by omega
  subst this
  have e0:=zh l l.length (Nat.le_refl _)
  have e3:mI l l.length=l.map itB:=by unfold mI;rw[List.take_length]
  repeat'((conv=>whnf);first|intro _|apply aI|with_reducible exact vM rfl|exact⟨⟩|apply nM|apply fM)
  all_goals((try apply vM);(try simp only[vq]at*);try omega)
  rw[e3]
  exact Sup.of rfl
def ET:PSp:=fun xs K=>match xs with
 | [.isl (.ints .i64 l) .none]=>VC (Q6 l)∧K (.isl (.strs (l.map itB)) .none)
 |_=>False
theorem Q7:POK Tryz.prog 108 ET:=by
 intro xs K h
 unfold ET at h
 split at h
 ·exact⟨_,h.2,Lc _ h.1.get⟩
 ·exact h.elim
end Go.Eng.YtcechbdgokjmgaaGreatDoor
namespace Go.Eng.YtcechbdgokjmgaaGreatDoor
open Go.Proofs Go.RowKit
set_option linter.unusedSimpArgs false
set_option linter.unusedVariables false
set_option maxHeartbeats 0
set_option maxRecDepth 100000
def spl (c:UInt8):List UInt8→List (List UInt8)
 | []=>[[]]
 |x::r=>if x=c then []::spl c r else match spl c r with
  | []=>[]
  |a::t=>(x::a)::t
theorem Oo (c:UInt8):∀l,spl c l≠[]:=by
 intro l
 induction l with
 |nil=>simp[spl]
 |cons x r ih=>
  unfold spl
  split
  ·simp
  ·cases h:spl c r with
   |nil=>exact absurd h ih
   |cons a t=>simp
theorem Ld (c:UInt8):∀(l:List UInt8),Go.Lib.splitK [c] 0 (l.count c) l=spl c l:=by
 intro l
 induction l with
 |nil=>rfl
 |cons x r ih=>
  by_cases e:x=c
  ·subst e
   have hi:Go.Lib.index (x::r) [x]=0:=by rw[Go.Lib.index_one];simp[Go.Lib.indexByte]
   rw[List.count_cons_self]
   unfold Go.Lib.splitK
   rw[hi,if_neg (by decide)]
   show []::Go.Lib.splitK [x] 0 (r.count x) r=_
   rw[ih];unfold spl;rw[if_pos rfl];cases r<;>rfl
  ·rw[List.count_cons_of_ne e]
   have hs:spl c (x::r)=match spl c r with| []=>[]|a::t=>(x::a)::t:=by
    conv=>lhs;unfold spl
    rw[if_neg e]
   rw[hs,←ih]
   cases hk:r.count c with
   |zero=>rfl
   |succ k=>
    have hi:Go.Lib.index (x::r) [c]=if Go.Lib.index r [c]= -1 then-1 else Go.Lib.index r [c]+1:=by
     rw[Go.Lib.index_one,Go.Lib.index_one]
     conv=>lhs;unfold Go.Lib.indexByte
     simp[e]
    have hne:Go.Lib.index r [c]≠ -1:=fun h=>by
     rw[Go.Lib.index_one]at h
     have:=Go.Lib.indexByte_none h
     have hm:c∈r:=List.count_pos_iff.1 (by omega)
     obtain⟨i,hi,he⟩:=List.getElem_of_mem hm
     exact this i (by rw[List.getElem?_eq_getElem hi,he])
    have hge:=Go.Lib.indexByte_ge r c
    rw[←Go.Lib.index_one]at hge
    unfold Go.Lib.splitK
    rw[hi,if_neg hne,if_neg (by simp;omega),if_neg (by simpa using hne)]
    obtain⟨n,hn⟩:∃n:Nat,Go.Lib.index r [c]=n:=⟨(Go.Lib.index r [c]).toNat,by omega⟩
    rw[hn]
    rfl
def dx (c:UInt8) (s:ByteArray):List ByteArray:=(spl c s.data.toList).map fun l=>⟨l.toArray⟩
theorem zi (c:UInt8) (s:ByteArray):Go.Lib.splitB ⟨#[c]⟩ 0 (Go.Lib.countB s ⟨#[c]⟩) s=dx c s:=by
 have h:=Go.Lib.splitB_data ⟨#[c]⟩ 0 (Go.Lib.countB s ⟨#[c]⟩) s
 have e:Go.Lib.countB s ⟨#[c]⟩=s.data.toList.count c:=Go.Lib.count_one c _
 rw[e]at h⊢
 unfold dx
 rw[←Ld,show Go.Lib.splitK [c] 0 (s.data.toList.count c) s.data.toList=Go.Lib.splitK (ByteArray.mk #[c]).data.toList 0 (s.data.toList.count c) s.data.toList from rfl,←h,List.map_map]
 conv=>lhs;rw[←List.map_id (Go.Lib.splitB _ _ _ _)]
 rfl
theorem Q8 (s:ByteArray) (c:UInt8) (hs:s.size<4294967281):aG Tryz.prog 160 [.str s,.str ⟨#[c]⟩,.int .i64 0,.int .i64 (-1)] (.isl (.strs (dx c s)) .none):=by
 refine EJ (enters' Tryz.func160 (by rfl) (by rfl)) (.strs (dx c s)) fun S w vs himm hA=>?_
 have h0:=hA.2 0 (by simp)
 have h1:=hA.2 1 (by simp)
 have h2:=hA.2 2 (by simp)
 have h3:=hA.2 3 (by simp)
 have hsz:vs.size=4:=hA.1.symm
 simp only[aC]at h0 h1 h2 h3
 have hvs:vs= #[vs.getD 0 undef,vs.getD 1 undef,vs.getD 2 undef,vs.getD 3 undef]:=by
  apply Array.ext (by simp[hsz])
  intro i h1 h2
  have:i=0∨i=1∨i=2∨i=3:=by omega
  rcases this with rfl|rfl|rfl|rfl<;>simp[Array.getD_eq_getD_getElem?,h1]
 rw[hvs]
 generalize vs.getD 0 undef=v0 at h0
 generalize vs.getD 1 undef=v1 at h1
 generalize vs.getD 2 undef=v2 at h2
 generalize vs.getD 3 undef=v3 at h3
 cases h0;cases h1;cases h2;cases h3
 have hlen:(dx c s).length=Go.Lib.countB s ⟨#[c]⟩+1:=by rw[←zi];exact Go.Lib.splitB_all ⟨#[c]⟩ (Nat.le_refl 1) 0 _ s rfl
 have hcl:=Tryz.genSplit_one s c w hs
 rw[zi]at hcl
 refine⟨Go.Lib.cellsOf (dx c s) (Go.Lib.countB s ⟨#[c]⟩+1),9,Go.Lib.countB s ⟨#[c]⟩+1,?_,?_,fun j hj S' w'=>?_,hcl⟩
 ·simp only[CL.cnt];omega
 ·simp only[CL.ncell];rw[Go.Lib.cellsOf_size (by omega)];omega
 ·simp only[CL.ncell]at hj
  have:(Go.Lib.cellsOf (dx c s) (Go.Lib.countB s ⟨#[c]⟩+1)).getD j undef=.string ((dx c s).getD j .empty):=by
   rw[←hlen,Go.Lib.cellsOf_full]
   simp[Array.getD_eq_getD_getElem?,List.getD_eq_getElem?_getD,hj]
  rw[this]
  exact .str _ _
def Q9:PSp:=fun xs K=>match xs with
 | [.str s,.str sep,.int .i64 a,.int .i64 b]=>∃c:UInt8,VC (sep=⟨#[c]⟩∧a=0∧b= -1∧s.size<4294967281)∧K (.isl (.strs (dx c s)) .none)
 |_=>False
theorem aaA:POK Tryz.prog 160 Q9:=by
 intro xs K hk
 unfold Q9 at hk
 split at hk
 ·obtain⟨c,⟨rfl,rfl,rfl,h⟩,hk⟩:=hk
  exact⟨_,hk,Q8 _ _ h⟩
 ·exact hk.elim
noncomputable def acz:CPT:=aA 160 (aB Q9) noC
theorem Xp:aY Tryz.prog acz:=aj (au aaA) aD
theorem Le (s:ByteArray) (c:UInt8) (hs:s.size<4294967281):aG Tryz.prog 113 [.str s,.str ⟨#[c]⟩] (.isl (.strs (dx c s)) .none):=by
 refine av (md:=1) (rf:=[]) mixed ak Xp Tryz.func113 (by rfl) (by rfl) (by rfl) ?_
 repeat'((conv=>whnf);first|apply Exists.intro (c)|(intro hq;(try simp only[vw]at hq);try first|exact absurd hq (by decide)|exfalso;omega)|apply aI|with_reducible exact vM rfl|exact⟨⟩|apply nM|apply fM)
 all_goals((try apply vM);(try simp only[vq]at*);try omega)
 all_goals first|exact hs|exact⟨rfl,rfl,rfl,hs⟩|exact Sup.of rfl|skip
def zk:PSp:=fun xs K=>match xs with
 | [.str s,.str sep]=>∃c:UInt8,VC (sep=⟨#[c]⟩∧s.size<4294967281)∧K (.isl (.strs (dx c s)) .none)
 |_=>False
theorem EU:POK Tryz.prog 113 zk:=by
 intro xs K hk
 unfold zk at hk
 split at hk
 ·obtain⟨c,⟨rfl,h⟩,hk⟩:=hk
  exact⟨_,hk,Le _ _ h⟩
 ·exact hk.elim
theorem xH {S:Imm} {w:World} {s p:ByteArray} {vs:Array Value} (h:bB S w noI [.str s,.str p] vs):vs= #[.string s,.string p]:=by
 obtain⟨v,u,rfl,h1,h2⟩:=EI h
 cases h1;cases h2;rfl
def EW (s p:ByteArray):Bool:=Go.Lib.hasSuffix s.data.toList p.data.toList
theorem Ra (s p:ByteArray) (hs:s.size≤9223372036854775807):aG Tryz.prog 112 [.str s,.str p] (.bp (EW s p)):=by
 refine gU (enters' Tryz.func112 (by rfl) (by rfl)) fun S w vs himm hA=>?_
 rw[xH hA]
 refine⟨_,.bp _ _,(Tryz.strings_HasSuffix s p w hs).mono ?_⟩
 rintro e w' ⟨rfl,rfl⟩
 exact⟨rfl,.refl _ _⟩
def Rb:PSp:=fun xs K=>match xs with
 | [.str s,.str p]=>VC (s.size≤9223372036854775807)∧K (.bp (EW s p))
 |_=>False
theorem aaB:POK Tryz.prog 112 Rb:=by
 intro xs K h
 unfold Rb at h
 split at h
 ·exact⟨_,h.2,Ra _ _ h.1.get⟩
 ·exact h.elim
def iY (s p:ByteArray):ByteArray:=⟨(Go.Lib.trimSuffix s.data.toList p.data.toList).toArray⟩
theorem Rf (s p:ByteArray) (hs:s.size≤9223372036854775807):aG Tryz.prog 114 [.str s,.str p] (.str (iY s p)):=by
 refine gU (enters' Tryz.func114 (by rfl) (by rfl)) fun S w vs himm hA=>?_
 rw[xH hA]
 refine⟨_,.str _ _,(Tryz.strings_TrimSuffix s p w hs).mono ?_⟩
 rintro e w' ⟨rfl,rfl⟩
 exact⟨rfl,.refl _ _⟩
def Rh:PSp:=fun xs K=>match xs with
 | [.str s,.str p]=>VC (s.size≤9223372036854775807)∧K (.str (iY s p))
 |_=>False
theorem aaC:POK Tryz.prog 114 Rh:=by
 intro xs K h
 unfold Rh at h
 split at h
 ·exact⟨_,h.2,Rf _ _ h.1.get⟩
 ·exact h.elim
def jV (s p:ByteArray):ByteArray:=⟨(Go.Lib.trimPrefix s.data.toList p.data.toList).toArray⟩
def preB (s p:ByteArray):Bool:=Go.Lib.hasPrefix s.data.toList p.data.toList
theorem Ri (s p:ByteArray):aG Tryz.prog 229 [.str s,.str p] (.tup [.str (jV s p),.bp (preB s p)]):=by
 refine gU (enters' Tryz.func229 (by rfl) (by rfl)) fun S w vs himm hA=>?_
 rw[xH hA]
 refine⟨.tuple #[.string (jV s p),.bool (preB s p)],.tup _ _ _ rfl (fun i hi=>by
  match i,hi with
  |0,_=>exact .str _ _
  |1,_=>exact .bp _ _),(Tryz.strings_CutPrefix s p w).mono ?_⟩
 rintro e w' ⟨rfl,rfl⟩
 exact⟨rfl,.refl _ _⟩
def Rj:PSp:=fun xs K=>match xs with
 | [.str s,.str p]=>VC (True)∧K (.tup [.str (jV s p),.bp (preB s p)])
 |_=>False
theorem aaD:POK Tryz.prog 229 Rj:=by
 intro xs K h
 unfold Rj at h
 split at h
 ·exact⟨_,h.2,Ri _ _⟩
 ·exact h.elim
theorem Oq (s:ByteArray) (n:Int) (hl:s.size≤18) (h:Go.Lib.atoi s.data.toList=some n):aG Tryz.prog 230 [.str s] (.tup [.int .i64 n,.nili]):=by
 refine gU (enters' Tryz.func230 (by rfl) (by rfl)) fun S w vs himm hA=>?_
 obtain⟨v,rfl,h1⟩:=xA hA
 cases h1
 refine⟨.tuple #[.int .i64 n,.nilIface],.tup _ _ _ rfl (fun i hi=>by
  match i,hi with
  |0,_=>exact .int _ _ _
  |1,_=>exact .nili _),(Tryz.strconv_Atoi s n hl h w).mono ?_⟩
 rintro e w' ⟨rfl,t,rfl⟩
 exact⟨rfl,⟨by unfold Lib.bytesWorld World.freeze;split<;>rfl,by unfold Lib.bytesWorld World.freeze;split<;>rfl,by unfold Lib.bytesWorld World.freeze;split<;>rfl,by rw[Lib.bytesWorld_size];omega,fun i hi=>Lib.bytesWorld_at_old w 5 t i hi⟩⟩
def Lh:PSp:=fun xs K=>match xs with
 | [.str s]=>∃n:Int,VC (s.size≤18∧Go.Lib.atoi s.data.toList=some n)∧K (.tup [.int .i64 n,.nili])
 |_=>False
theorem Xq:POK Tryz.prog 230 Lh:=by
 intro xs K hk
 unfold Lh at hk
 split at hk
 ·obtain⟨n,⟨h1,h2⟩,hk⟩:=hk
  exact⟨_,hk,Oq _ _ h1 h2⟩
 ·exact hk.elim
end Go.Eng.YtcechbdgokjmgaaGreatDoor
namespace Go.Eng.YtcechbdgokjmgaaGreatDoor
set_option linter.unusedSimpArgs false
set_option linter.unusedVariables false
def mkA (a:Nat) (l:List Int):Nat:=l.foldl (fun a x=>a|||2 ^ x.toNat) a
def mk (l:List Int):Nat:=mkA 0 l
def InM (l:List Int):Prop:=∀x∈l,0≤x∧x≤31
theorem Xr:∀(l:List Int) (a i:Nat),InM l→(mkA a l).testBit i=(a.testBit i||decide ((i:Int)∈l)):=by
 intro l
 induction l with
 |nil=>intro a i _;simp[mkA]
 |cons x l ih=>
  intro a i h
  have hx:=h x (by simp)
  have:mkA a (x::l)=mkA (a|||2 ^ x.toNat) l:=rfl
  rw[this,ih _ _ (fun y hy=>h y (by simp[hy])),Nat.testBit_or,Nat.testBit_two_pow]
  have e:decide (x.toNat=i)=decide ((i:Int)=x):=by by_cases e:x.toNat=i<;>simp<;>omega
  rw[e,Bool.or_assoc]
  congr 1
  rw[Bool.eq_iff_iff]
  simp
theorem IW (i:Nat):(1:Nat).testBit i=decide (i=0):=by
 have:=Nat.testBit_two_pow (n:=0) (m:=i)
 simp only[Nat.pow_zero]at this
 rw[this,Bool.eq_iff_iff];simp;omega
theorem dG {l:List Int} (h:InM l) (i:Nat):(mk l).testBit i=decide ((i:Int)∈l):=by
 unfold mk;rw[Xr l 0 i h];simp
theorem gu {l:List Int} (h:InM l):mk l<4294967296:=by
 refine Nat.lt_pow_two_of_testBit (n:=32) _ fun i hi=>?_
 rw[dG h]
 simp only[decide_eq_false_iff_not]
 intro hm
 have:=h _ hm
 omega
theorem aaE {l:List Int} (h:∀x∈l,0≤x∧x≤16):mk l<131072:=by
 refine Nat.lt_pow_two_of_testBit (n:=17) _ fun i hi=>?_
 rw[dG (fun x hx=>by have:=h x hx;omega)]
 simp only[decide_eq_false_iff_not]
 intro hm
 have:=h _ hm
 omega
theorem aaF {l u:List Int} (hl:InM l) (hu:InM u) (h:∀x,x∈l↔x∈u):mk l=mk u:=by
 apply Nat.eq_of_testBit_eq
 intro i
 rw[dG hl,dG hu]
 simp[h]
theorem mk_inj {l u:List Int} (hl:InM l) (hu:InM u) (h:mk l=mk u) (x:Int):x∈l↔x∈u:=by
 have key:∀(l u:List Int),InM l→InM u→mk l=mk u→x∈l→x∈u:=fun l u hl hu h hx=>by
  have hb:=hl x hx
  have h1:=dG hl x.toNat
  rw[h,dG hu]at h1
  have e:((x.toNat:Nat):Int)=x:=by omega
  rw[e]at h1
  simpa [hx]using h1
 exact⟨key l u hl hu h,key u l hu hl h.symm⟩
theorem mk_one {x:Int}:mk [x]=2 ^ x.toNat:=by simp[mk,mkA]
theorem mk_zero {l:List Int} (hl:InM l):mk l=0↔l=[]:=by
 constructor
 ·intro h
  cases l with
  |nil=>rfl
  |cons x l=>exact absurd ((mk_inj hl (u:=[]) (fun x hx=>by simp at hx) h x).1 (by simp)) (by simp)
 ·rintro rfl;rfl
theorem kr (n:Nat) (h:n≤31):0≤(1:Int)*2 ^ n∧(1:Int)*2 ^ n≤4294967295∧n≤IntKind.u32.bits:=by
 have h1:(2:Nat) ^ n≤2 ^ 31:=Nat.pow_le_pow_right (by omega) h
 have h2:(1:Int)*2 ^ n=((2 ^ n:Nat):Int):=by rw[Int.one_mul];norm_cast
 have h3:IntKind.u32.bits=32:=rfl
 obtain⟨q,hq⟩:∃q:Nat,2 ^ n=q:=⟨_,rfl⟩
 rw[hq]at h1
 rw[h2,hq]
 refine⟨by omega,by omega,by omega⟩
theorem xI (n:Nat) (h:n<4294967296):IntKind.u32.wrap (n:Int)=n:=by
 simp only[IntKind.wrap,IntKind.bits,IntKind.signed];simp;omega
theorem kL (m i:Nat) (h:m<4294967296):(BitVec.ofInt IntKind.u32.bits (m:Int)).getLsbD i=(decide (i<32)&&m.testBit i):=by
 show(BitVec.ofInt 32 (m:Int)).getLsbD i=_
 rw[BitVec.ofInt_natCast,BitVec.getLsbD_ofNat]
theorem Dk {m n k:Nat} (hm:m<4294967296) (hn:n<4294967296) (h:∀i,i<32→k.testBit i=(m.testBit i&&n.testBit i)) (hk:k<4294967296):
 IntKind.u32.wrap ((BitVec.ofInt IntKind.u32.bits (m:Int)&&& BitVec.ofInt IntKind.u32.bits (n:Int)).toNat:Int)=k:=by
 have e:(BitVec.ofInt IntKind.u32.bits (m:Int)&&& BitVec.ofInt IntKind.u32.bits (n:Int)).toNat=k:=by
  apply Nat.eq_of_testBit_eq
  intro i
  rw[BitVec.testBit_toNat,BitVec.getLsbD_and,kL m i hm,kL n i hn]
  by_cases hi:i<32
  ·rw[h i hi];simp[hi]
  ·rw[Nat.testBit_lt_two_pow (x:=k) (i:=i) (by have:=Nat.pow_le_pow_right (n:=2) (by omega) (show 32≤i by omega);omega)];simp[hi]
 rw[e,xI _ hk]
theorem aaG {m n k:Nat} (hm:m<4294967296) (hn:n<4294967296) (h:∀i,i<32→k.testBit i=(m.testBit i||n.testBit i)) (hk:k<4294967296):
 IntKind.u32.wrap ((BitVec.ofInt IntKind.u32.bits (m:Int)|||BitVec.ofInt IntKind.u32.bits (n:Int)).toNat:Int)=k:=by
 have e:(BitVec.ofInt IntKind.u32.bits (m:Int)|||BitVec.ofInt IntKind.u32.bits (n:Int)).toNat=k:=by
  apply Nat.eq_of_testBit_eq
  intro i
  rw[BitVec.testBit_toNat,BitVec.getLsbD_or,kL m i hm,kL n i hn]
  by_cases hi:i<32
  ·rw[h i hi];simp[hi]
  ·rw[Nat.testBit_lt_two_pow (x:=k) (i:=i) (by have:=Nat.pow_le_pow_right (n:=2) (by omega) (show 32≤i by omega);omega)];simp[hi]
 rw[e,xI _ hk]
theorem abS {m n k:Nat} (hm:m<4294967296) (hn:n<4294967296) (h:∀i,i<32→k.testBit i=(m.testBit i&&!n.testBit i)) (hk:k<4294967296):
 IntKind.u32.wrap ((BitVec.ofInt IntKind.u32.bits (m:Int)&&& ~~~BitVec.ofInt IntKind.u32.bits (n:Int)).toNat:Int)=k:=by
 have e:(BitVec.ofInt IntKind.u32.bits (m:Int)&&& ~~~BitVec.ofInt IntKind.u32.bits (n:Int)).toNat=k:=by
  apply Nat.eq_of_testBit_eq
  intro i
  rw[BitVec.testBit_toNat,BitVec.getLsbD_and,BitVec.getLsbD_not,kL m i hm,kL n i hn]
  by_cases hi:i<32
  ·rw[h i hi];simp[hi,show i<IntKind.u32.bits from hi]
  ·rw[Nat.testBit_lt_two_pow (x:=k) (i:=i) (by have:=Nat.pow_le_pow_right (n:=2) (by omega) (show 32≤i by omega);omega)];simp[hi]
 rw[e,xI _ hk]
theorem Li {l:List Int} {x:Int} (hl:InM l) (hx:0≤x∧x≤31):
 IntKind.u32.wrap ((BitVec.ofInt IntKind.u32.bits (mk l:Int)|||BitVec.ofInt IntKind.u32.bits (1*2 ^ x.toNat)).toNat:Int)=(mk (l++[x]):Nat):=by
 have hh:InM (l++[x]):=fun y hy=>by
  rcases List.mem_append.1 hy with h|h
  ·exact hl y h
  ·simp at h;subst h;exact hx
 have hone:InM [x]:=fun y hy=>by simp at hy;subst hy;exact hx
 rw[Int.one_mul,show((2:Int) ^ x.toNat)=((mk [x]:Nat):Int) by rw[mk_one];norm_cast]
 refine aaG (gu hl) (gu hone) (fun i hi=>?_) (gu hh)
 rw[dG hh,dG hl,dG hone];simp
theorem aaH {l u:List Int} (hl:InM l) (hu:InM u):
 IntKind.u32.wrap ((BitVec.ofInt IntKind.u32.bits (mk l:Int)|||BitVec.ofInt IntKind.u32.bits (mk u:Int)).toNat:Int)=(mk (l++u):Nat):=by
 have hh:InM (l++u):=fun y hy=>by
  rcases List.mem_append.1 hy with h|h
  ·exact hl y h
  ·exact hu y h
 refine aaG (gu hl) (gu hu) (fun i hi=>?_) (gu hh)
 rw[dG hh,dG hl,dG hu];simp
theorem Ot {l u:List Int} (hl:InM l) (hu:InM u):
 IntKind.u32.wrap ((BitVec.ofInt IntKind.u32.bits (mk l:Int)&&& ~~~BitVec.ofInt IntKind.u32.bits (mk u:Int)).toNat:Int)=(mk (l.filter fun y=>!decide (y∈u)):Nat):=by
 have hh:InM (l.filter fun y=>!decide (y∈u)):=fun y hy=>hl y (List.mem_filter.1 hy).1
 refine abS (gu hl) (gu hu) (fun i hi=>?_) (gu hh)
 rw[dG hh,dG hl,dG hu];simp
def dM (l:List Int) (x:Int):List Int:=l.filter fun y=>!decide (y=x)
theorem qw {l:List Int} {x:Int} (hl:InM l) (hx:0≤x∧x≤31):
 IntKind.u32.wrap ((BitVec.ofInt IntKind.u32.bits (mk l:Int)&&& ~~~BitVec.ofInt IntKind.u32.bits (1*2 ^ x.toNat)).toNat:Int)=(mk (dM l x):Nat):=by
 have hone:InM [x]:=fun y hy=>by simp at hy;subst hy;exact hx
 rw[Int.one_mul,show((2:Int) ^ x.toNat)=((mk [x]:Nat):Int) by rw[mk_one];norm_cast,Ot hl hone]
 simp[dM]
theorem Ou {l:List Int} {x:Int} (hl:InM l) (hx:0≤x∧x≤31):
 IntKind.u32.wrap ((BitVec.ofInt IntKind.u32.bits ((mk l:Int) / 2 ^ x.toNat)&&& BitVec.ofInt IntKind.u32.bits 1).toNat:Int)=if x∈l then 1 else 0:=by
 have e:((mk l:Int) / 2 ^ x.toNat)=((mk l>>>x.toNat:Nat):Int):=by rw[Nat.shiftRight_eq_div_pow];norm_cast
 have h1:mk l>>>x.toNat<4294967296:=Nat.lt_of_le_of_lt (Nat.shiftRight_le _ _) (gu hl)
 rw[e,show(1:Int)=((1:Nat):Int)from rfl,Dk (k:=if x∈l then 1 else 0) h1 (by omega) (fun i hi=>?_) (by split<;>omega)]
 ·split<;>rfl
 ·rw[Nat.testBit_shiftRight,dG hl,IW]
  by_cases h0:i=0
  ·subst h0
   have:((x.toNat+0:Nat):Int)=x:=by omega
   rw[this]
   by_cases hm:x∈l<;>simp[hm]
  ·rw[show decide (i=0)=false by simp[h0],Bool.and_false]
   split
   ·rw[IW];simp[h0]
   ·simp
structure Asc (l:List Int):Prop where mkAsc::
 pw:l.Pairwise (·< ·)
 rng:∀x∈l,1≤x∧x≤16
theorem Asc.inM {l:List Int} (h:Asc l):InM l:=fun x hx=>by have:=h.rng x hx;omega
theorem Asc.tail {x:Int} {l:List Int} (h:Asc (x::l)):Asc l:=⟨(List.pairwise_cons.1 h.pw).2,fun y hy=>h.rng y (by simp[hy])⟩
theorem Asc.head {x:Int} {l:List Int} (h:Asc (x::l)):∀y∈l,x<y:=(List.pairwise_cons.1 h.pw).1
theorem Asc.filter {l:List Int} (h:Asc l) (p:Int→Bool):Asc (l.filter p):=⟨h.pw.filter _,fun x hx=>h.rng x (List.mem_filter.1 hx).1⟩
theorem Asc.nil:Asc []:=⟨.nil,fun x hx=>by simp at hx⟩
theorem Asc.one {x:Int} (h:1≤x∧x≤16):Asc [x]:=⟨by simp,fun y hy=>by simp at hy;subst hy;exact h⟩
theorem Asc.out {l:List Int} (h:Asc l) (x:Int):Asc (dM l x):=h.filter _
theorem Xt:∀{l u:List Int},l.Pairwise (·< ·)→u.Pairwise (·< ·)→(∀x,x∈l↔x∈u)→l=u:=by
 intro l
 induction l with
 |nil=>
  intro u _ _ h
  cases u with
  |nil=>rfl
  |cons y u=>exact absurd ((h y).2 (by simp)) (by simp)
 |cons x l ih=>
  intro u hl hu h
  cases u with
  |nil=>exact absurd ((h x).1 (by simp)) (by simp)
  |cons y u=>
   have hx:=(List.pairwise_cons.1 hl).1
   have hy:=(List.pairwise_cons.1 hu).1
   have e:x=y:=by
    rcases List.mem_cons.1 ((h x).1 (by simp))with e|h1
    ·exact e
    ·rcases List.mem_cons.1 ((h y).2 (by simp))with e|h2
     ·exact e.symm
     ·have:=hy x h1;have:=hx y h2;omega
   subst e
   congr 1
   refine ih (List.pairwise_cons.1 hl).2 (List.pairwise_cons.1 hu).2 fun z=>?_
   constructor
   ·intro hz
    rcases List.mem_cons.1 ((h z).1 (by simp[hz]))with e|h1
    ·subst e;have:=hx z hz;omega
    ·exact h1
   ·intro hz
    rcases List.mem_cons.1 ((h z).2 (by simp[hz]))with e|h1
    ·subst e;have:=hy z hz;omega
    ·exact h1
theorem Asc.ext {l u:List Int} (hl:Asc l) (hu:Asc u) (h:mk l=mk u):l=u:=Xt hl.pw hu.pw (mk_inj hl.inM hu.inM h)
theorem rM {x:Int} {l:List Int} (h:Asc (x::l)):∃k,mk (x::l)=2 ^ (x.toNat+1)*k+2 ^ x.toNat∧mk l=2 ^ (x.toNat+1)*k:=by
 have hx:=h.rng x (by simp)
 refine⟨mk l / 2 ^ (x.toNat+1),?_,?_⟩
 ·apply Nat.eq_of_testBit_eq
  intro i
  rw[dG h.inM,Nat.testBit_two_pow_mul_add _ (by rw[Nat.pow_succ];have:=Nat.two_pow_pos x.toNat;omega),Nat.testBit_two_pow,Nat.testBit_div_two_pow,dG h.tail.inM]
  split
  ·have:((i:Int)∈x::l)↔x.toNat=i:=by
    constructor
    ·intro hm
     rcases List.mem_cons.1 hm with e|hm
     ·omega
     ·have:=h.head _ hm;omega
    ·intro e;exact List.mem_cons.2 (.inl (by omega))
   simp only[this]
  ·rw[show i-(x.toNat+1)+(x.toNat+1)=i by omega]
   have:((i:Int)∈x::l)↔(i:Int)∈l:=by
    rw[List.mem_cons]
    constructor
    ·rintro(e|h)
     ·omega
     ·exact h
    ·exact .inr
   simp only[this]
 ·apply Nat.eq_of_testBit_eq
  intro i
  rw[Nat.testBit_two_pow_mul,Nat.testBit_div_two_pow,dG h.tail.inM i]
  by_cases hi:i≥x.toNat+1
  ·rw[show i-(x.toNat+1)+(x.toNat+1)=i by omega,dG h.tail.inM];simp[hi]
  ·have:(i:Int)∉l:=fun hm=>by have:=h.head _ hm;omega
   rw[decide_eq_false hi,Bool.false_and,decide_eq_false this]
theorem Xu {x:Int} {l:List Int} (h:Asc (x::l)):
 IntKind.u32.wrap ((BitVec.ofInt IntKind.u32.bits (mk (x::l):Int)&&& BitVec.ofInt IntKind.u32.bits ((mk (x::l):Int)-1)).toNat:Int)=(mk l:Nat):=by
 obtain⟨k,h1,h2⟩:=rM h
 have hx:=h.rng x (by simp)
 have hp:=Nat.two_pow_pos x.toNat
 have hlt:=gu h.inM
 have e:((mk (x::l):Int)-1)=((2 ^ (x.toNat+1)*k+(2 ^ x.toNat-1):Nat):Int):=by rw[h1];omega
 rw[e]
 refine Dk hlt (by omega) (fun i hi=>?_) (gu h.tail.inM)
 rw[h1,h2,Nat.testBit_two_pow_mul_add _ (by rw[Nat.pow_succ];omega),Nat.testBit_two_pow_mul_add _ (by rw[Nat.pow_succ];omega),Nat.testBit_two_pow_mul,Nat.testBit_two_pow,Nat.testBit_two_pow_sub_one]
 by_cases hi:i<x.toNat+1
 ·rw[if_pos hi,if_pos hi,decide_eq_false (show¬(i≥x.toNat+1) by omega),Bool.false_and]
  by_cases e:x.toNat=i
  ·subst e;simp
  ·rw[decide_eq_false e,Bool.false_and]
 ·rw[if_neg hi,if_neg hi]
  simp;omega
theorem mk_pos {x:Int} {l:List Int} (h:Asc (x::l)):0<mk (x::l):=by
 obtain⟨k,h1,_⟩:=rM h
 have hp:=Nat.two_pow_pos x.toNat
 omega
theorem aaI {x:Int} {l:List Int} (h:Asc (x::l)):Go.Lib.ctz 32 (mk (x::l))=x.toNat:=by
 have hp:=mk_pos h
 obtain⟨m,h1,h2⟩:=Go.Lib.ctzFrom_spec 32 (mk (x::l)) hp (gu h.inM)
 obtain⟨k,h3,_⟩:=rM h
 unfold Go.Lib.ctz
 rw[if_neg (by omega)]
 generalize Go.Lib.ctzFrom 32 (mk (x::l))=c at h1 h2
 have b1:∀i,(mk (x::l)).testBit i=(decide (i≥c)&&(2*m+1).testBit (i-c)):=fun i=>by rw[h1,Nat.testBit_two_pow_mul]
 have hx:=h.rng x (by simp)
 have b2:=b1 x.toNat
 rw[dG h.inM]at b2
 have e1:((x.toNat:Nat):Int)=x:=by omega
 rw[e1]at b2
 simp at b2
 have b3:=b1 c
 rw[dG h.inM]at b3
 simp at b3
 rcases b3 with e|b3
 ·omega
 ·have:=h.head _ b3;omega
structure St where
 cs:List (List Int)
 ds:List Bool
def St.cd (s:St) (i:Nat):List Int:=s.cs.getD i []
def St.dc (s:St) (i:Nat):Bool:=s.ds.getD i false
def ms (cs:List (List Int)):List Int:=cs.map fun l=>((mk l:Nat):Int)
theorem dJ (cs:List (List Int)):(ms cs).length=cs.length:=by simp[ms]
theorem eY {cs:List (List Int)} {i:Nat} (h:i<cs.length):(ms cs).getD i 0=(mk (cs.getD i []):Nat):=by
 simp[ms,List.getD_eq_getElem?_getD,h]
structure aaJ (c:Int) (l:List Int):Prop where
 ne:1≤l.length
 len:l.length≤16
 rng:∀x∈l,0≤x∧x<c
 pw:l.Pairwise (·< ·)
structure bM (c:Int) (ls:List (List Int)) (sum:Int) (s:St):Prop where
 c1:1≤c∧c≤16
 ll:1≤ls.length∧ls.length≤128
 ln:∀i,i<ls.length→aaJ c (ls.getD i [])
 sm: -999999999≤sum∧sum≤999999999
 cl:(s.cs.length:Int)=c
 dl:(s.ds.length:Int)=c
 asc:∀i,i<s.cs.length→Asc (s.cd i)∧∀x∈s.cd i,x≤c
 dec:∀i,i<s.cs.length→s.dc i=true→(s.cd i).length=1
def hd0 (l:List Int):Int:=l.getD 0 0
def ls0 (l:List Int):Int:=l.getD (l.length-1) 0
def opn (s:St) (l:List Int) (but:Int):List Int:=l.filter fun x=>!(s.dc x.toNat)&&decide (x≠but)
def rst (s:St) (sum:Int) (l:List Int):Int:=l.foldl (fun a x=>if s.dc x.toNat then a-hd0 (s.cd x.toNat)else a) sum
theorem Xv (s:St) (l:List Int) (x but:Int):opn s (l++[x]) but=opn s l but++if !(s.dc x.toNat)&&decide (x≠but)then [x]else []:=by
 unfold opn
 rw[List.filter_append,List.filter_cons,List.filter_nil]
theorem IX (s:St) (sum:Int) (l:List Int) (x:Int):rst s sum (l++[x])=if s.dc x.toNat then rst s sum l-hd0 (s.cd x.toNat)else rst s sum l:=by
 unfold rst;rw[List.foldl_append];rfl
theorem cZ {l:List Int} {i:Nat} (h:i<l.length):l.take (i+1)=l.take i++[l.getD i 0]:=by
 rw[List.take_add_one,List.getD_eq_getElem?_getD,List.getElem?_eq_getElem h];rfl
theorem vO {l:List Int} (h:1≤l.length):hd0 l∈l:=by
 cases l with
 |nil=>simp at h
 |cons x l=>simp[hd0]
theorem qx {l:List Int} (h:1≤l.length):ls0 l∈l:=by
 unfold ls0
 rw[List.getD_eq_getElem?_getD,List.getElem?_eq_getElem (show l.length-1<l.length by omega)]
 exact List.getElem_mem _
theorem aaK {l:List Int} (h:l.Pairwise (·< ·)):∀x∈l,hd0 l≤x:=by
 cases l with
 |nil=>intro x hx;simp at hx
 |cons y l=>
  intro x hx
  rcases List.mem_cons.1 hx with rfl|hx
  ·simp[hd0]
  ·have:=(List.pairwise_cons.1 h).1 x hx;simp[hd0];omega
theorem uJ {l:List Int} (h:l.Pairwise (·< ·)):∀x∈l,x≤ls0 l:=by
 intro x hx
 obtain⟨i,hi,rfl⟩:=List.getElem_of_mem hx
 unfold ls0
 rw[List.getD_eq_getElem?_getD,List.getElem?_eq_getElem (show l.length-1<l.length by omega)]
 by_cases e:i=l.length-1
 ·subst e;simp
 ·have:=List.pairwise_iff_getElem.1 h i (l.length-1) hi (by omega) (by omega)
  simp;omega
theorem bM.at {c:Int} {ls:List (List Int)} {sum:Int} {s:St} (h:bM c ls sum s) {x:Int} (hx:0≤x∧x<c):x.toNat<s.cs.length∧x.toNat<s.ds.length:=by
 have:=h.cl;have:=h.dl;omega
theorem bM.num {c:Int} {ls:List (List Int)} {sum:Int} {s:St} (h:bM c ls sum s) {x:Int} (hx:0≤x∧x<c) (hd:s.dc x.toNat=true):1≤hd0 (s.cd x.toNat)∧hd0 (s.cd x.toNat)≤16∧s.cd x.toNat=[hd0 (s.cd x.toNat)]:=by
 have hi:=(h.at hx).1
 have h1:=h.dec _ hi hd
 obtain⟨y,hy⟩:=List.length_eq_one_iff.1 h1
 have h2:=(h.asc _ hi).1.rng (hd0 (s.cd x.toNat)) (vO (by omega))
 refine⟨h2.1,h2.2,?_⟩
 rw[hy];rfl
theorem EX {c:Int} {ls:List (List Int)} {sum:Int} {s:St} (h:bM c ls sum s) {l:List Int} (hl:∀x∈l,0≤x∧x<c):∀i,i≤l.length→sum-16*i≤rst s sum (l.take i)∧rst s sum (l.take i)≤sum:=by
 intro i
 induction i with
 |zero=>intro _;simp[rst]
 |succ i ih=>
  intro hi
  have ih:=ih (by omega)
  have hx:=hl (l.getD i 0) (by rw[List.getD_eq_getElem?_getD,List.getElem?_eq_getElem (show i<l.length by omega)];exact List.getElem_mem _)
  rw[cZ (by omega),IX]
  split
  ·rename_i hd
   have:=h.num hx hd
   omega
  ·omega
def z8 (s:St) (sum:Int) (l:List Int) (c x:Int):Bool:=decide ((opn s l c).length=0)&&decide (rst s sum l=x)
def Aa (s:St) (c:Int):Bool:=decide ((s.cd c.toNat).length=1)
def rO (s:St) (c x:Int):Bool:=(List.range s.cs.length).all fun i=>decide ((i:Int)=c)||!decide (x∈s.cd i)
def pR (s:St) (o:List Int):Int:=o.foldl (fun a y=>a+hd0 (s.cd y.toNat)) 0
def pU (s:St) (o:List Int):Int:=o.foldl (fun a y=>a+ls0 (s.cd y.toNat)) 0
def Ab (s:St) (sum:Int) (l:List Int) (c x:Int):Bool:=
 (opn s l c).any (fun y=>decide (s.cd y.toNat=[]))||(decide (rst s sum l-x<pR s (opn s l c))||decide (pU s (opn s l c)<rst s sum l-x))
def chs (s:St):List Int→List Int→Int→Bool
 | [],_,sum=>decide (sum=0)
 |y::r,used,sum=>((s.cd y.toNat).filter fun x=>!decide (x∈used)).any fun x=>chs s r (used++[x]) (sum-x)
def Ac (s:St) (sum:Int) (l:List Int) (c x:Int):Bool:=decide ((opn s l c).length<4)&&!chs s (opn s l c) [x] (rst s sum l-x)
def brk (c:Int) (ls:List (List Int)) (sum:Int) (s:St):Bool:=
 (!(List.range c.toNat).all fun i=>s.cs.any fun l=>decide (((i:Int)+1)∈l))||s.cs.any (fun l=>decide (l=[]))||ls.any fun l=>decide ((opn s l (-1)).length=0)&&decide (rst s sum l≠0)
def jst (g:Nat) (s:St) (sum:Int) (l:List Int) (y x:Int):Bool:=
 match g with
 |1=>z8 s sum l y x
 |2=>Aa s y
 |3=>rO s y x
 |4=>Ab s sum l y x
 |5=>Ac s sum l y x
 |_=>false
def okJ (g:Nat) (s:St) (sum:Int) (l:List Int) (y x:Int):Bool:=!s.dc y.toNat&&(decide (x∈s.cd y.toNat)&&jst g s sum l y x)
def apl (g:Nat) (s:St) (y x:Int):St:=
 if g≤3 then⟨(s.cs.map fun l=>dM l x).set y.toNat [x],s.ds.set y.toNat true⟩else⟨s.cs.set y.toNat (dM (s.cd y.toNat) x),s.ds⟩
def don (s:St):Bool:=!s.ds.any fun b=>!b
end Go.Eng.YtcechbdgokjmgaaGreatDoor
namespace Go.Eng.YtcechbdgokjmgaaGreatDoor
open Go.Proofs
set_option linter.unusedSimpArgs false
set_option linter.unusedVariables false
set_option maxHeartbeats 0
set_option maxRecDepth 100000
theorem Dl (x:Int) (h:0≤x∧x<4294967296):IntKind.u32.wrap ((BitVec.ofInt IntKind.u32.bits x&&& BitVec.ofInt IntKind.u32.bits 255).toNat:Int)=((x.toNat % 256:Nat):Int):=by
 obtain⟨n,rfl⟩:∃n:Nat,x=n:=⟨x.toNat,by omega⟩
 rw[show(255:Int)=((255:Nat):Int)from rfl,Int.toNat_natCast]
 refine Dk (by omega) (by omega) (fun i hi=>?_) (by omega)
 rw[show(256:Nat)=2 ^ 8 from rfl,Nat.testBit_mod_two_pow,show(255:Nat)=2 ^ 8-1 from rfl,Nat.testBit_two_pow_sub_one,Bool.and_comm]
theorem Ad:∀(f g x:Nat),Go.Lib.popAux (f+g) x=Go.Lib.popAux f x+Go.Lib.popAux g (x / 2 ^ f):=by
 intro f
 induction f with
 |zero=>intro g x;simp[Go.Lib.popAux]
 |succ f ih=>
  intro g x
  rw[show f+1+g=(f+g)+1 by omega,Go.Lib.popAux,Go.Lib.popAux,ih,Nat.div_div_eq_div_mul,Nat.pow_succ,Nat.mul_comm 2,Nat.add_assoc]
theorem Ae:∀(f x:Nat),Go.Lib.popAux f (x % 2 ^ f)=Go.Lib.popAux f x:=by
 intro f
 induction f with
 |zero=>intro x;simp[Go.Lib.popAux]
 |succ f ih=>
  intro x
  have e1:x % 2 ^ (f+1) % 2=x % 2:=Nat.mod_mod_of_dvd x (by rw[Nat.pow_succ];exact Nat.dvd_mul_left 2 _)
  have e2:x % 2 ^ (f+1) / 2=x / 2 % 2 ^ f:=by
   rw[Nat.pow_succ,Nat.mul_comm,Nat.mod_mul_right_div_self]
  rw[Go.Lib.popAux,Go.Lib.popAux,e1,e2,ih]
theorem zl:∀(f x:Nat),Go.Lib.popAux f x≤f:=by
 intro f
 induction f with
 |zero=>intro x;simp[Go.Lib.popAux]
 |succ f ih=>intro x;rw[Go.Lib.popAux];have:=ih (x / 2);omega
def uK (m:Int):Int:=(Go.Lib.popAux 32 m.toNat:Nat)
theorem Ov (n:Nat) (h:n<4294967296):Go.Lib.popAux 32 n=Go.Lib.popAux 8 (n / 16777216)+Go.Lib.popAux 8 (n / 65536 % 256)+(Go.Lib.popAux 8 (n / 256 % 256)+Go.Lib.popAux 8 (n % 256)):=by
 rw[show(256:Nat)=2 ^ 8 from rfl,Ae,Ae,Ae,show(32:Nat)=8+(8+(8+8))from rfl,Ad,Ad,Ad,Nat.div_div_eq_div_mul,Nat.div_div_eq_div_mul]
 simp only[show 2 ^ 8*2 ^ 8=65536 from rfl,show 65536*2 ^ 8=16777216 from rfl]
 omega
theorem Af (n:Nat) (h:n<256):IntKind.u8.wrap (n:Int)=n:=by
 simp only[IntKind.wrap,IntKind.bits,IntKind.signed];simp;omega
theorem Rk (n:Nat) (h:n<1000):IntKind.i64.wrap (n:Int)=n:=by
 simp only[IntKind.wrap,IntKind.bits,IntKind.signed];simp;omega
theorem Rl (T:Array UInt8) (hT:∀j,j<256→(T.getD j 0).toNat=Go.Lib.popAux 8 j) (m:Int) (h:0≤m∧m<4294967296):
 IntKind.i64.wrap (IntKind.u8.wrap (IntKind.u8.wrap (IntKind.u8.wrap (((T.getD (m / 2 ^ Int.toNat 24).toNat 0).toNat:Int)+((T.getD (IntKind.u32.wrap ((BitVec.ofInt IntKind.u32.bits (m / 2 ^ Int.toNat 16)&&& BitVec.ofInt IntKind.u32.bits 255).toNat:Int)).toNat 0).toNat:Int))+
  ((T.getD (IntKind.u32.wrap ((BitVec.ofInt IntKind.u32.bits (m / 2 ^ Int.toNat 8)&&& BitVec.ofInt IntKind.u32.bits 255).toNat:Int)).toNat 0).toNat:Int))+((T.getD (IntKind.u32.wrap ((BitVec.ofInt IntKind.u32.bits m&&& BitVec.ofInt IntKind.u32.bits 255).toNat:Int)).toNat 0).toNat:Int)))=uK m:=by
 obtain⟨n,rfl⟩:∃n:Nat,m=n:=⟨m.toNat,by omega⟩
 have e24:((n:Int) / 2 ^ Int.toNat 24)=((n / 16777216:Nat):Int):=by norm_cast
 have e16:((n:Int) / 2 ^ Int.toNat 16)=((n / 65536:Nat):Int):=by norm_cast
 have e8:((n:Int) / 2 ^ Int.toNat 8)=((n / 256:Nat):Int):=by norm_cast
 rw[e24,e16,e8,Dl _ (by omega),Dl _ (by omega),Dl _ (by omega)]
 simp only[Int.toNat_natCast]
 rw[hT _ (by omega),hT _ (by omega),hT _ (by omega),hT _ (by omega)]
 have:=zl 8 (n / 16777216);have:=zl 8 (n / 65536 % 256);have:=zl 8 (n / 256 % 256);have:=zl 8 (n % 256)
 rw[←Int.natCast_add,Af _ (by omega),←Int.natCast_add,Af _ (by omega),←Int.natCast_add,Af _ (by omega),Rk _ (by omega)]
 unfold uK
 rw[Int.toNat_natCast,Ov n (by omega)]
 omega
theorem Ow (m:Int) (h:0≤m∧m<4294967296):aG Tryz.prog 237 [.int .u32 m] (.int .i64 (uK m)):=by
 have b:∀x:Int,(0≤x∧x<4294967296)→0≤IntKind.u32.wrap ((BitVec.ofInt IntKind.u32.bits x&&& BitVec.ofInt IntKind.u32.bits 255).toNat:Int)∧IntKind.u32.wrap ((BitVec.ofInt IntKind.u32.bits x&&& BitVec.ofInt IntKind.u32.bits 255).toNat:Int)<256:=fun x hx=>by rw[Dl x hx];omega
 have e16:0≤m / 2 ^ Int.toNat 16∧m / 2 ^ Int.toNat 16<4294967296:=by rw[show(2:Int) ^ Int.toNat 16=65536 from rfl];omega
 have e8:0≤m / 2 ^ Int.toNat 8∧m / 2 ^ Int.toNat 8<4294967296:=by rw[show(2:Int) ^ Int.toNat 8=256 from rfl];omega
 have e24:0≤m / 2 ^ Int.toNat 24∧m / 2 ^ Int.toNat 24<256:=by rw[show(2:Int) ^ Int.toNat 24=16777216 from rfl];omega
 refine av (md:=2) (rf:=[]) mixed ak aD Tryz.func237 (by rfl) (by rfl) (by rfl) ?_
 repeat'((conv=>whnf);first|intro _|apply aI|with_reducible exact vM rfl|exact⟨⟩|apply nM|apply fM)
 all_goals first
  |(refine Sup.of (congrArg (PV.int .i64) ?_);exact Rl _ (by decide+kernel) m h)
  |(refine Int.lt_of_lt_of_le (b:=256) ?_ (by decide+kernel);first|exact e24.2|exact(b _ e16).2|exact(b _ e8).2|exact(b _ h).2)
  |exact e24.1|exact(b _ e16).1|exact(b _ e8).1|exact(b _ h).1|exact h.1|decide
theorem BR:∀(a n y:Nat),Go.Lib.popAux (a+n) (2 ^ a*y)=Go.Lib.popAux n y:=by
 intro a
 induction a with
 |zero=>intro n y;simp
 |succ a ih=>
  intro n y
  have e:2 ^ (a+1)*y=2*(2 ^ a*y):=by rw[Nat.pow_succ,Nat.mul_comm (2 ^ a) 2,Nat.mul_assoc]
  rw[show a+1+n=(a+n)+1 by omega,Go.Lib.popAux,e,Nat.mul_mod_right,Nat.mul_div_cancel_left _ (by omega),ih,Nat.zero_add]
theorem pop_mk {l:List Int} (h:Asc l):uK (mk l:Nat)=l.length:=by
 unfold uK
 rw[Int.toNat_natCast]
 induction l with
 |nil=>rfl
 |cons x l ih=>
  obtain⟨k,h1,h2⟩:=rM h
  have hx:=h.rng x (by simp)
  have ih:=ih h.tail
  rw[h2,Nat.pow_succ,Nat.mul_assoc,show 32=x.toNat+(31-x.toNat+1) by omega,BR,Go.Lib.popAux,Nat.mul_mod_right,Nat.mul_div_cancel_left _ (by omega)]at ih
  rw[h1,Nat.pow_succ,Nat.mul_assoc,show 2 ^ x.toNat*(2*k)+2 ^ x.toNat=2 ^ x.toNat*(2*k+1) by rw[Nat.mul_add,Nat.mul_one],show 32=x.toNat+(31-x.toNat+1) by omega,BR,Go.Lib.popAux,
   show(2*k+1) % 2=1 by omega,show(2*k+1) / 2=k by omega,List.length_cons]
  omega
def eF (m:Int):Int:=(Go.Lib.bitLen m.toNat:Nat)
theorem vP (T:Array UInt8) (hT:∀j,j<256→(T.getD j 0).toNat=Go.Lib.bitLen j) (x:Int) (h:0≤x∧x<256):((T.getD x.toNat 0).toNat:Int)=eF x:=by
 rw[hT _ (by omega)];rfl
theorem vQ (x:Int) (h:0≤x∧x<256):0≤eF x∧eF x≤8:=by
 have:=Go.Lib.bitLen_le8 ⟨x.toNat,by omega⟩
 unfold eF
 simp only at this
 omega
theorem IY (k n:Nat) (h0:2 ^ k≤n) (h:n<4294967296):eF (n:Int)=(k:Int)+eF ((n / 2 ^ k:Nat):Int):=by
 have h2:(4294967296:Nat)<2 ^ 64:=by decide
 unfold eF
 rw[Int.toNat_natCast,Int.toNat_natCast,Go.Lib.bitLen_shift k n h0 (by omega)]
 omega
theorem IZ (k K:Nat) (hK:2 ^ k=K) (x:Int) (h0:(K:Int)≤x) (h:x<4294967296):eF x=k+eF (x / K):=by
 obtain⟨n,rfl⟩:∃n:Nat,x=n:=⟨x.toNat,by omega⟩
 have:=IY k n (by rw[hK];omega) (by omega)
 rw[this,hK]
 rfl
theorem Rm (m:Int) (h:0≤m∧m<4294967296):aG Tryz.prog 257 [.int .u32 m] (.int .i64 (eF m)):=by
 have p16:(2:Int) ^ Int.toNat 16=65536:=by decide
 have p8:(2:Int) ^ Int.toNat 8=256:=by decide
 have d16:Int.toNat 16≤IntKind.u32.bits:=by decide
 have d8:Int.toNat 8≤IntKind.u32.bits:=by decide
 have a1:65536≤m→eF m=16+eF (m / 65536):=fun h1=>IZ 16 65536 rfl m h1 h.2
 have a2:∀x:Int,256≤x→x<4294967296→eF x=8+eF (x / 256):=fun x h1 h2=>IZ 8 256 rfl x h1 h2
 refine av (md:=1) (rf:=[]) mixed ak aD Tryz.func257 (by rfl) (by rfl) (by rfl) ?_
 repeat'((conv=>whnf);first|intro _|apply aI|with_reducible exact vM rfl|exact⟨⟩|apply nM|apply fM)
 all_goals((try apply vM);(try simp only[vq]at*);try omega)
 all_goals(try simp only[p16,p8]at*)
 all_goals(try first|exact d16|exact d8|omega|(refine Int.lt_of_lt_of_le (b:=256) (by omega) (by decide+kernel)))
 all_goals(try(rw[vP _ ?_ (m / 65536 / 256) (by omega)];rotate_left;(decide+kernel);(have:=vQ (m / 65536 / 256) (by omega));first|omega|((refine Sup.of (congrArg (PV.int .i64) ?_));rw[a1 (by omega),a2 (m / 65536) (by omega) (by omega)];omega)))
 all_goals(try(rw[vP _ ?_ (m / 65536) (by omega)];rotate_left;(decide+kernel);(have:=vQ (m / 65536) (by omega));first|omega|((refine Sup.of (congrArg (PV.int .i64) ?_));rw[a1 (by omega)])))
 all_goals(try(rw[vP _ ?_ (m / 256) (by omega)];rotate_left;(decide+kernel);(have:=vQ (m / 256) (by omega));first|omega|((refine Sup.of (congrArg (PV.int .i64) ?_));rw[a2 m (by omega) (by omega)];omega)))
 all_goals(try(rw[vP _ ?_ (m) (by omega)];rotate_left;(decide+kernel);(have:=vQ (m) (by omega));first|omega|((refine Sup.of (congrArg (PV.int .i64) ?_));omega)))
def Ro:PSp:=fun xs K=>match xs with
 | [.int .u32 m]=>VC (0≤m∧m<4294967296)∧K (.int .i64 (eF m))
 |_=>False
theorem aaL:POK Tryz.prog 257 Ro:=by
 intro xs K h
 unfold Ro at h
 split at h
 ·exact⟨_,h.2,Rm _ h.1.get⟩
 ·exact h.elim
noncomputable def acA:CPT:=aA 257 (aB Ro) noC
theorem Xw:aY Tryz.prog acA:=aj (au aaL) aD
theorem I4 (m:Int) (h:0≤m∧m<4294967296):0≤eF m∧eF m≤64:=by
 have:∀f x,Go.Lib.bitLenAux f x≤f:=by
  intro f
  induction f with
  |zero=>intro x;simp[Go.Lib.bitLenAux]
  |succ f ih=>intro x;rw[Go.Lib.bitLenAux];(split;omega;(have:=ih (x / 2);omega))
 have h2:=this 64 m.toNat
 have h3:eF m=((Go.Lib.bitLenAux 64 m.toNat:Nat):Int):=rfl
 omega
theorem Xx (m:Int) (h:0≤m∧m<4294967296):aG Tryz.prog 238 [.int .u32 m] (.int .i64 (32-eF m)):=by
 have:=I4 m h
 refine av (md:=1) (rf:=[]) mixed ak Xw Tryz.func238 (by rfl) (by rfl) (by rfl) ?_
 repeat'((conv=>whnf);first|intro _|apply aI|with_reducible exact vM rfl|exact⟨⟩|apply nM|apply fM)
 all_goals((try apply vM);(try simp only[vq]at*);try omega)
 all_goals exact Sup.of rfl
def lzP:PSp:=fun xs K=>match xs with
 | [.int .u32 m]=>VC (0≤m∧m<4294967296)∧K (.int .i64 (32-eF m))
 |_=>False
theorem abT:POK Tryz.prog 238 lzP:=by
 intro xs K h
 unfold lzP at h
 split at h
 ·exact⟨_,h.2,Xx _ h.1.get⟩
 ·exact h.elim
def Lj:PSp:=fun xs K=>match xs with
 | [.int .u32 m]=>VC (0≤m∧m<4294967296)∧K (.int .i64 (uK m))
 |_=>False
theorem Xy:POK Tryz.prog 237 Lj:=by
 intro xs K h
 unfold Lj at h
 split at h
 ·exact⟨_,h.2,Ow _ h.1.get⟩
 ·exact h.elim
def oz (m:Int):Int:=(Go.Lib.ctz 32 m.toNat:Nat)
theorem u32_neg (n:Nat) (h0:n≠0) (h:n<4294967296):IntKind.u32.wrap (0-(n:Int))=((4294967296-n:Nat):Int):=by
 simp only[IntKind.wrap,IntKind.bits,IntKind.signed];simp;omega
theorem Xz (m:Int) (h:0<m∧m<4294967296):∃k:Nat,k<32∧oz m=k∧IntKind.u32.wrap (IntKind.u32.wrap ((BitVec.ofInt IntKind.u32.bits m&&& BitVec.ofInt IntKind.u32.bits (IntKind.u32.wrap (0-m))).toNat:Int)*125613361) / 2 ^ Int.toNat 27=((2 ^ k*125613361 % 4294967296 / 134217728:Nat):Int):=by
 obtain⟨n,rfl⟩:∃n:Nat,m=n:=⟨m.toNat,by omega⟩
 obtain⟨h1,h2⟩:=Go.Lib.lowest_bit 32 n (by omega) (by omega)
 refine⟨Go.Lib.ctz 32 n,h2,by simp[oz],?_⟩
 have hp:2 ^ Go.Lib.ctz 32 n≤2 ^ 31:=Nat.pow_le_pow_right (by omega) (by omega)
 rw[u32_neg n (by omega) (by omega),Dk (k:=2 ^ Go.Lib.ctz 32 n) (by omega) (by omega) (fun i hi=>by rw[←h1,Nat.testBit_and]) (by omega)]
 have e:((2 ^ Go.Lib.ctz 32 n:Nat):Int)*125613361=((2 ^ Go.Lib.ctz 32 n*125613361:Nat):Int):=by rw[Int.natCast_mul];rfl
 rw[e,show(2:Int) ^ Int.toNat 27=((134217728:Nat):Int) by decide]
 have w:∀q:Nat,IntKind.u32.wrap (q:Int)=((q % 4294967296:Nat):Int):=fun q=>by simp only[IntKind.wrap,IntKind.bits,IntKind.signed];simp
 rw[w,Int.natCast_ediv]
theorem aaM:∀k:Nat,k<32→qd.getD (2 ^ k*125613361 % 4294967296 / 134217728) 0=(k:Int):=by decide+kernel
theorem Ox (n:Int) (h:0≤n∧n<1000):IntKind.i64.wrap n=n:=by
 simp only[IntKind.wrap,IntKind.bits,IntKind.signed];simp;omega
theorem Rp:aG Tryz.prog 220 [.int .u32 0] (.int .i64 32):=by
 refine av (md:=2) (rf:=[]) mixed ak aD Tryz.func220 (by rfl) (by rfl) (by rfl) ?_
 repeat'((conv=>whnf);first|(intro hq;(try simp only[vw]at hq);try first|exact absurd hq (by decide)|exfalso;omega)|apply aI|with_reducible exact vM rfl|exact⟨⟩|apply nM|apply fM)
 all_goals exact Sup.of rfl
theorem XA (m q:Int) (k:Nat) (h0:¬m=0) (hk:k<32) (h1:IntKind.u32.wrap (IntKind.u32.wrap ((BitVec.ofInt IntKind.u32.bits m&&& BitVec.ofInt IntKind.u32.bits (IntKind.u32.wrap (0-m))).toNat:Int)*125613361)=q) (hq0:0≤q)
 (h2:q / 2 ^ Int.toNat 27=(k:Int)) (e:Int) (he:0≤e∧e<1000) (ht:qd.getD k 0=e):aG Tryz.prog 220 [.int .u32 m] (.int .i64 e):=by
 have e5:te5.size=1:=by rfl
 have d27:Int.toNat 27≤IntKind.u32.bits:=by decide
 have hl:qd.length=32:=rfl
 refine av (md:=2) (rf:=[]) mixed ak aD Tryz.func220 (by rfl) (by rfl) (by rfl) ?_
 repeat'((conv=>whnf);first|(intro hq;(try simp only[vw]at hq);try first|exact absurd hq (by decide)|exfalso;omega)|apply aI|with_reducible exact vM rfl|exact⟨⟩|apply nM|apply fM)
 all_goals first|exact h0|exact d27|(rw[h1];exact hq0)|(rw[h1,h2];omega)|(rw[h1,h2,e5,Int.toNat_natCast];simp only[CL.ncell,hl];omega)|(refine Sup.of (congrArg (PV.int .i64) ?_);rw[h1,h2,e5,Int.toNat_natCast,Nat.mul_one,Nat.zero_add,ht,Ox _ he])|omega
theorem Rq (m:Int) (h:0≤m∧m<4294967296):aG Tryz.prog 220 [.int .u32 m] (.int .i64 (oz m)):=by
 by_cases h0:m=0
 ·subst h0
  exact Rp
 obtain⟨k,hk,h1,h2⟩:=Xz m (by omega)
 have hb:=Go.Lib.deBruijn32_at k hk
 have ht:=aaM k hk
 rw[h1]
 refine XA m _ _ h0 hb.1 rfl ?_ h2 _ (by omega) ht
 generalize IntKind.u32.wrap ((BitVec.ofInt IntKind.u32.bits m&&& BitVec.ofInt IntKind.u32.bits (IntKind.u32.wrap (0-m))).toNat:Int)*125613361=q
 simp only[IntKind.wrap,IntKind.bits,IntKind.signed];simp;omega
def Rs:PSp:=fun xs K=>match xs with
 | [.int .u32 m]=>VC (0≤m∧m<4294967296)∧K (.int .i64 (oz m))
 |_=>False
theorem aaN:POK Tryz.prog 220 Rs:=by
 intro xs K h
 unfold Rs at h
 split at h
 ·exact⟨_,h.2,Rq _ h.1.get⟩
 ·exact h.elim
noncomputable def acB:CPT:=aA 220 (aB Rs) (aA 237 (aB Lj) (aA 238 (aB lzP) noC))
theorem Ag:aY Tryz.prog acB:=aj (au aaN) (aj (au Xy) (aj (au abT) aD))
theorem Ll (m:Int) (h:0≤m∧m<4294967296):aG Tryz.prog 190 [.int .u32 m] (.int .i64 (oz m)):=by
 refine av (md:=1) (rf:=[]) mixed ak Ag Tryz.func190 (by rfl) (by rfl) (by rfl) ?_
 repeat'((conv=>whnf);first|intro _|apply aI|with_reducible exact vM rfl|exact⟨⟩|apply nM|apply fM)
 all_goals((try apply vM);(try simp only[vq]at*);try omega)
 all_goals exact Sup.of rfl
theorem Oy (m:Int) (h:0≤m∧m<4294967296):aG Tryz.prog 210 [.int .u32 m] (.int .i64 (uK m)):=by
 refine av (md:=1) (rf:=[]) mixed ak Ag Tryz.func210 (by rfl) (by rfl) (by rfl) ?_
 repeat'((conv=>whnf);first|intro _|apply aI|with_reducible exact vM rfl|exact⟨⟩|apply nM|apply fM)
 all_goals((try apply vM);(try simp only[vq]at*);try omega)
 all_goals exact Sup.of rfl
theorem Cy (m:Int) (h:0≤m∧m<4294967296):aG Tryz.prog 211 [.int .u32 m] (.int .i64 (eF m-1)):=by
 have:=I4 m h
 have e:(31:Int)-(32-eF m)=eF m-1:=by omega
 refine av (md:=1) (rf:=[]) mixed ak Ag Tryz.func211 (by rfl) (by rfl) (by rfl) ?_
 repeat'((conv=>whnf);first|intro _|apply aI|with_reducible exact vM rfl|exact⟨⟩|apply nM|apply fM)
 all_goals((try apply vM);(try simp only[vq]at*);try omega)
 all_goals(rw[e];exact Sup.of rfl)
def Ah (m x:Int):Bool:=decide (IntKind.u32.wrap ((BitVec.ofInt IntKind.u32.bits (m / 2 ^ x.toNat)&&& BitVec.ofInt IntKind.u32.bits 1).toNat:Int)=1)
theorem Oz (m x:Int) (h:0≤m) (hx:0≤x∧x≤31):aG Tryz.prog 156 [.int .u32 m,.int .i64 x] (.bp (Ah m x)):=by
 have e:IntKind.u32.bits=32:=rfl
 refine av (md:=1) (rf:=[]) mixed ak aD Tryz.func156 (by rfl) (by rfl) (by rfl) ?_
 repeat'((conv=>whnf);first|intro _|apply aI|with_reducible exact vM rfl|exact⟨⟩|apply nM|apply fM)
 all_goals((try apply vM);(try simp only[vq]at*);try omega)
 all_goals exact Sup.of rfl
def uL:PSp:=fun xs K=>match xs with
 | [.int .u32 m]=>VC (0≤m∧m<4294967296)∧K (.int .i64 (oz m))
 |_=>False
theorem xJ:POK Tryz.prog 190 uL:=by
 intro xs K h
 unfold uL at h
 split at h
 ·exact⟨_,h.2,Ll _ h.1.get⟩
 ·exact h.elim
def Lm:PSp:=fun xs K=>match xs with
 | [.int .u32 m]=>VC (0≤m∧m<4294967296)∧K (.int .i64 (uK m))
 |_=>False
theorem XB:POK Tryz.prog 210 Lm:=by
 intro xs K h
 unfold Lm at h
 split at h
 ·exact⟨_,h.2,Oy _ h.1.get⟩
 ·exact h.elim
def uM:PSp:=fun xs K=>match xs with
 | [.int .u32 m]=>VC (0≤m∧m<4294967296)∧K (.int .i64 (eF m-1))
 |_=>False
theorem Hz:POK Tryz.prog 211 uM:=by
 intro xs K h
 unfold uM at h
 split at h
 ·exact⟨_,h.2,Cy _ h.1.get⟩
 ·exact h.elim
def Dm:PSp:=fun xs K=>match xs with
 | [.int .u32 m,.int .i64 x]=>VC (0≤m∧0≤x∧x≤31)∧K (.bp (Ah m x))
 |_=>False
theorem I5:POK Tryz.prog 156 Dm:=by
 intro xs K h
 unfold Dm at h
 split at h
 ·exact⟨_,h.2,Oz _ _ h.1.get.1 h.1.get.2⟩
 ·exact h.elim
theorem oC {l:List Int} (h:Asc l):0≤(mk l:Int)∧(mk l:Int)<131072:=by
 have:=aaE (l:=l) (fun x hx=>by have:=h.rng x hx;omega)
 omega
theorem I6 {l:List Int} (h:Asc l) {x:Int} (hx:0≤x∧x≤31):Ah (mk l) x=decide (x∈l):=by
 unfold Ah
 rw[Ou h.inM hx]
 by_cases hm:x∈l<;>simp[hm]
theorem I7 {x:Int} {l:List Int} (h:Asc (x::l)):oz (mk (x::l))=x:=by
 unfold oz
 rw[Int.toNat_natCast,aaI h]
 have:=h.rng x (by simp)
 omega
theorem XC {l:List Int} (h:Asc l) {z:Int} (hz:z∈l) (hm:∀x∈l,x≤z):eF (mk l)=z+1:=by
 have hr:=h.rng z hz
 have e:((z.toNat:Nat):Int)=z:=by omega
 have h1:2 ^ z.toNat≤mk l:=Nat.ge_two_pow_of_testBit (by rw[dG h.inM,e];simp[hz])
 have h2:mk l<2 ^ (z.toNat+1):=Nat.lt_pow_two_of_testBit _ fun i hi=>by
  rw[dG h.inM]
  simp only[decide_eq_false_iff_not]
  intro hm';have:=hm _ hm';omega
 have h3:=(oC h).2
 rw[IY z.toNat (mk l) h1 (by omega)]
 have h4:mk l / 2 ^ z.toNat=1:=by
  rw[Nat.div_eq_iff (Nat.two_pow_pos _)]
  rw[Nat.pow_succ]at h2
  omega
 rw[h4]
 have:eF ((1:Nat):Int)=1:=by decide
 omega
theorem uN {p:Nat→Bool} {n:Nat} (h:∀i,i<n→p i=false):(List.range n).find? p=none:=by
 simp only[List.find?_eq_none,List.mem_range];exact fun i hi=>by simp[h i hi]
theorem BS {p:Nat→Bool} {n y:Nat} (hy:y<n) (hp:p y=true) (h:∀i,i<y→p i=false):(List.range n).find? p=some y:=by
 have e:List.range n=List.range y++(y::List.range' (y+1) (n-y-1)):=by
  rw[List.range_eq_range',List.range_eq_range',show n=y+(1+(n-y-1)) by omega,←List.range'_append_1,←List.range'_append_1]
  simp
 rw[e,List.find?_append,uN h]
 simp[hp]
def firstAt (p:Nat→Bool) (n:Nat):Int:=match(List.range n).find? p with
 |some i=>i
 |none=> -1
theorem jy {p:Nat→Bool} {n:Nat} (h:∀i,i<n→p i=false):firstAt p n= -1:=by unfold firstAt;rw[uN h]
theorem jA {p:Nat→Bool} {n y:Nat} (hy:y<n) (hp:p y=true) (h:∀i,i<y→p i=false):firstAt p n=y:=by unfold firstAt;rw[BS hy hp h]
theorem gV {p:Nat→Bool} {n:Nat}:decide (0≤firstAt p n)=(List.range n).any p:=by
 unfold firstAt
 cases h:(List.range n).find? p with
 |some i=>
  have:=List.find?_some h
  have hm:=List.mem_of_find?_eq_some h
  rw[List.any_eq_true.2 ⟨i,hm,this⟩];simp
 |none=>
  rw[List.find?_eq_none]at h
  rw[List.any_eq_false.2 (fun x hx=>h x hx)];simp
theorem mJ {α:Type} (p:α→Bool) (d:α) (l:List α):(List.range l.length).any (fun i=>p (l.getD i d))=l.any p:=by
 rw[Bool.eq_iff_iff,List.any_eq_true,List.any_eq_true]
 constructor
 ·rintro⟨i,hi,h⟩
  have hi:=List.mem_range.1 hi
  rw[List.getD_eq_getElem?_getD,List.getElem?_eq_getElem hi]at h
  exact⟨l[i],List.getElem_mem hi,h⟩
 ·rintro⟨x,hx,h⟩
  obtain⟨i,hi,rfl⟩:=List.getElem_of_mem hx
  exact⟨i,List.mem_range.2 hi,by rw[List.getD_eq_getElem?_getD,List.getElem?_eq_getElem hi];exact h⟩
def Dn:PSp:=fun xs K=>match xs with
 | [.isl (.ints .i64 l) .none,.fn (.func f) fs cs]=>VC (l.length≤2000000)∧∃p:Int→Bool,(∀x∈l,aG Tryz.prog f (fs++[.int .i64 x]++cs) (.bp (p x)))∧K (.int .i64 (firstAt (fun i=>p (l.getD i 0)) l.length))
 |_=>False
theorem OA (l:List Int) (hl:l.length≤2000000) (f:Nat) (fs cs:List PV) (p:Int→Bool) (hp:∀x∈l,aG Tryz.prog f (fs++[.int .i64 x]++cs) (.bp (p x))):
 aG Tryz.prog 207 [.isl (.ints .i64 l) .none,.fn (.func f) fs cs] (.int .i64 (firstAt (fun i=>p (l.getD i 0)) l.length)):=by
 refine yY 1 (enters' Tryz.func207 (by rfl) (by rfl)) rfl (by simp) fun S0 w0 us vs hu hv=>?_
 have hY:∀r,jT Tryz.prog r (vI S0 w0) (fnY f us vs fun xs K=>match xs with
  | [.int .i64 x]=>VC (x∈l)∧K (.bp (p x))
  |_=>False):=fun r=>NT (fs:=fs) (cs:=cs) (fun S w hb=>⟨hu.mono hb.1 (.refl _),hv.mono hb.1 (.refl _)⟩) fun xs K hk=>by
  split at hk
  ·exact⟨_,hk.2,hp _ hk.1.get⟩
  ·exact hk.elim
 have W:Walk Tryz.prog none (vI S0 w0) tab.get noC _:=⟨rC,mixed,ak,aD.up _,hY none⟩
 refine tX rC mixed ak (md:=1) (rf:=[]) (aD.up _) (hY none) Tryz.func207 (by rfl) (by rfl) ?_
 repeat'((conv=>whnf);first|intro _|apply aI|with_reducible exact vM rfl|exact⟨⟩|apply nM|apply fM)
 all_goals((try apply vM);(try simp only[vq]at*);try omega)
 conv=>whnf
 refine aM (X:=Nat) (fun i=>i≤l.length∧∀j,j<i→p (l.getD j 0)=false) (fun i=>[(8,.int .i64 i)]) (fun i=>[]) (fun i=>l.length-i) 0 W (by rfl) ⟨by omega,fun j hj=>by omega⟩ ?_ ?_
 ·repeat'((conv=>whnf);first|intro _|apply aI|with_reducible exact vM rfl|exact⟨⟩|apply nM|apply fM)
  all_goals((try apply vM);(try simp only[vq]at*);try omega)
 ·rintro i ⟨hi,hok⟩
  by_cases hlt:i<l.length
  ·have hm:l.getD i 0∈l:=by rw[List.getD_eq_getElem?_getD,List.getElem?_eq_getElem hlt];exact List.getElem_mem hlt
   repeat'((conv=>whnf);first|intro _|apply aI|with_reducible exact vM rfl|exact⟨⟩|apply nM|apply fM)
   all_goals((try apply vM);(try simp only[vq]at*);try omega)
   ·rw[jA hlt ‹p (l.getD i 0)=true› hok];exact Sup.of rfl
   ·refine⟨i+1,[],⟨⟨by omega,fun j hj=>?_⟩,by omega⟩,?_⟩
    ·by_cases e:j=i
     ·subst e;assumption
     ·exact hok j (by omega)
    ·repeat'((conv=>whnf);first|intro _|apply aI|with_reducible exact vM rfl|exact⟨⟩|apply nM|apply fM)
     all_goals((try apply vM);(try simp only[vq]at*);try omega)
  ·have:i=l.length:=by omega
   subst this
   rw[jy hok]
   repeat'((conv=>whnf);first|intro _|apply aI|with_reducible exact vM rfl|exact⟨⟩|apply nM|apply fM)
   all_goals((try apply vM);(try simp only[vq]at*);try omega)
   exact Sup.of rfl
theorem I8:POK Tryz.prog 207 Dn:=by
 intro xs K h
 unfold Dn at h
 split at h
 ·obtain⟨⟨h1⟩,p,h2,hK⟩:=h
  exact⟨_,hK,OA _ h1 _ _ _ p h2⟩
 ·exact h.elim
def Lr:PSp:=fun xs K=>match xs with
 | [.isl (.ints .i64 l) .none,.fn (.func f) fs cs]=>VC (l.length≤2000000∧d9.inlF fs=true∧d9.inlF cs=true)∧∃p:Int→Bool,(∀x∈l,aG Tryz.prog f (fs++[.int .i64 x]++cs) (.bp (p x)))∧K (.bp (l.any p))
 |_=>False
theorem OB (l:List Int) (hl:l.length≤2000000) (f:Nat) (fs cs:List PV) (hfs:d9.inlF fs=true) (hcs:d9.inlF cs=true) (p:Int→Bool) (hp:∀x∈l,aG Tryz.prog f (fs++[.int .i64 x]++cs) (.bp (p x))):
 aG Tryz.prog 215 [.isl (.ints .i64 l) .none,.fn (.func f) fs cs] (.bp (l.any p)):=by
 have hc:aY Tryz.prog (aA 207 (aB Dn) noC):=aj (au I8) aD
 refine av (md:=1) (rf:=[]) mixed ak hc Tryz.func215 (by rfl) (by rfl) (by rfl) ?_
 repeat'((conv=>whnf);first|intro _|apply aI|with_reducible exact vM rfl|exact⟨⟩|apply nM|apply fM)
 conv=>whnf
 simp only[aB,oV,iO,qQ,d9,hfs,hcs]
 repeat'((conv=>whnf);first|intro _|apply aI|with_reducible exact vM rfl|exact⟨⟩|apply nM|apply fM)
 all_goals((try apply vM);(try simp only[vq]at*);try omega)
 refine⟨p,hp,?_⟩
 repeat'((conv=>whnf);first|intro _|apply aI|with_reducible exact vM rfl|exact⟨⟩|apply nM|apply fM)
 all_goals((try apply vM);(try simp only[vq]at*);try omega)
 refine Sup.via ?_
 repeat'((conv=>whnf);first|intro _|apply aI|with_reducible exact vM rfl|exact⟨⟩|apply nM|apply fM)
 refine VC.mk ?_
 rw[gV,mJ]
theorem XD:POK Tryz.prog 215 Lr:=by
 intro xs K h
 unfold Lr at h
 split at h
 ·obtain⟨⟨h1,h3,h4⟩,p,h2,hK⟩:=h
  exact⟨_,hK,OB _ h1 _ _ _ h3 h4 p h2⟩
 ·exact h.elim
theorem OC (l:List Bool) (hl:l.length≤2000000) (b:Bool):aG Tryz.prog 192 [.isl (.bools l) .none,.bp b] (.int .i64 (firstAt (fun i=>b==l.getD i false) l.length)):=by
 refine av (md:=1) (rf:=[]) mixed ak aD Tryz.func192 (by rfl) (by rfl) (by rfl) ?_
 repeat'((conv=>whnf);first|intro _|apply aI|with_reducible exact vM rfl|exact⟨⟩|apply nM|apply fM)
 all_goals((try apply vM);(try simp only[vq]at*);try omega)
 conv=>whnf
 refine aM (X:=Nat) (fun i=>i≤l.length∧∀j,j<i→(b==l.getD j false)=false) (fun i=>[(8,.int .i64 i)]) (fun i=>[]) (fun i=>l.length-i) 0 ⟨aK,mixed,ak,aD,aQ⟩ (by rfl) ⟨by omega,fun j hj=>by omega⟩ ?_ ?_
 ·repeat'((conv=>whnf);first|intro _|apply aI|with_reducible exact vM rfl|exact⟨⟩|apply nM|apply fM)
  all_goals((try apply vM);(try simp only[vq]at*);try omega)
 ·rintro i ⟨hi,hok⟩
  by_cases hlt:i<l.length
  ·repeat'((conv=>whnf);first|intro _|apply aI|with_reducible exact vM rfl|exact⟨⟩|apply nM|apply fM)
   all_goals((try apply vM);(try simp only[vq]at*);try omega)
   ·rw[jA hlt ‹(b==l.getD i false)=true› hok];exact Sup.of rfl
   ·refine⟨i+1,[],⟨⟨by omega,fun j hj=>?_⟩,by omega⟩,?_⟩
    ·by_cases e:j=i
     ·subst e;assumption
     ·exact hok j (by omega)
    ·repeat'((conv=>whnf);first|intro _|apply aI|with_reducible exact vM rfl|exact⟨⟩|apply nM|apply fM)
     all_goals((try apply vM);(try simp only[vq]at*);try omega)
  ·have:i=l.length:=by omega
   subst this
   rw[jy hok]
   repeat'((conv=>whnf);first|intro _|apply aI|with_reducible exact vM rfl|exact⟨⟩|apply nM|apply fM)
   all_goals((try apply vM);(try simp only[vq]at*);try omega)
   exact Sup.of rfl
def Ls:PSp:=fun xs K=>match xs with
 | [.isl (.bools l) .none,.bp b]=>VC (l.length≤2000000)∧K (.int .i64 (firstAt (fun i=>b==l.getD i false) l.length))
 |_=>False
theorem XE:POK Tryz.prog 192 Ls:=by
 intro xs K h
 unfold Ls at h
 split at h
 ·exact⟨_,h.2,OC _ h.1.get _⟩
 ·exact h.elim
theorem OD (l:List Bool) (hl:l.length≤2000000) (b:Bool):aG Tryz.prog 152 [.isl (.bools l) .none,.bp b] (.bp (l.any fun x=>b==x)):=by
 have hc:aY Tryz.prog (aA 192 (aB Ls) noC):=aj (au XE) aD
 refine av (md:=1) (rf:=[]) mixed ak hc Tryz.func152 (by rfl) (by rfl) (by rfl) ?_
 repeat'((conv=>whnf);first|intro _|apply aI|with_reducible exact vM rfl|exact⟨⟩|apply nM|apply fM)
 all_goals((try apply vM);(try simp only[vq]at*);try omega)
 refine Sup.via ?_
 repeat'((conv=>whnf);first|intro _|apply aI|with_reducible exact vM rfl|exact⟨⟩|apply nM|apply fM)
 refine VC.mk ?_
 rw[gV,mJ (fun x=>b==x)]
def Lu:PSp:=fun xs K=>match xs with
 | [.isl (.bools l) .none,.bp b]=>VC (l.length≤2000000)∧K (.bp (l.any fun x=>b==x))
 |_=>False
theorem XF:POK Tryz.prog 152 Lu:=by
 intro xs K h
 unfold Lu at h
 split at h
 ·exact⟨_,h.2,OD _ h.1.get _⟩
 ·exact h.elim
theorem EY:∀(l:List Int) (a b:Int),l.Pairwise (·< ·)→(∀x∈l,a<x∧x≤b)→a≤b→(l.length:Int)≤b-a:=by
 intro l
 induction l with
 |nil=>intro a b _ _ h;simp;omega
 |cons x l ih=>
  intro a b hp hr hab
  have hx:=hr x (by simp)
  have:=ih x b (List.pairwise_cons.1 hp).2 (fun y hy=>⟨(List.pairwise_cons.1 hp).1 y hy,(hr y (by simp[hy])).2⟩) hx.2
  rw[List.length_cons]
  omega
theorem I9 {l:List Int} (h:Asc l):l.length≤16:=by
 have:=EY l 0 16 h.pw (fun x hx=>by have:=h.rng x hx;omega) (by omega)
 omega
theorem nN {l:List Int} {i:Nat} {x:PV} (hx:(l.map (PV.int .i64))[i]? =some x):i<l.length∧x=.int .i64 (l.getD i 0):=by
 rw[List.getElem?_map]at hx
 cases h:l[i]? with
 |none=>rw[h]at hx;cases hx
 |some y=>
  rw[h]at hx;cases hx
  exact⟨(List.getElem?_eq_some_iff.1 h).1,by rw[List.getD_eq_getElem?_getD,h];rfl⟩
theorem Rt {l:List Int} (h:Asc l) (k:Nat):Asc (l.drop k):=⟨h.pw.sublist (List.drop_sublist k l),fun x hx=>h.rng x (List.mem_of_mem_drop hx)⟩
theorem drop_cons {l:List Int} {k:Nat} (hk:k<l.length):l.drop k=l.getD k 0::l.drop (k+1):=by
 rw[List.drop_eq_getElem_cons hk,List.getD_eq_getElem?_getD,List.getElem?_eq_getElem hk];rfl
noncomputable def aaO:CPT:=aA 190 (aB uL) noC
theorem Ja:aY Tryz.prog aaO:=aj (au xJ) aD
theorem jB (l:List Int) (h:Asc l):l8 Tryz.prog 189 [] [.ip (.pv [.int .u32 (mk l:Nat)]) 0] 1 (l.map (PV.int .i64)):=by
 refine kH (md:=1) (rf:=[]) mixed ak Tryz.func189 (by rfl) (by rfl) (by rfl) fun G go b hY=>⟨_,Ja,?_⟩
 obtain⟨L,hL⟩:∃L,L=l.map (PV.int .i64):=⟨_,rfl⟩
 have hlen:L.length=l.length:=by simp[hL]
 have hget:∀i,i<l.length→L[i]? =some (.int .i64 (l.getD i 0)):=fun i hi=>by simp[hL,hi]
 rw[←hL]at hY⊢
 have W:Walk Tryz.prog none jS tab.get aaO (rE b 1 G go L):=⟨aK,mixed,ak,Ja,hY _ _⟩
 have stop:∀i,i<l.length→GoTo go L i→go (L.take i++[.int .i64 (l.getD i 0)])=false→L.take i++[.int .i64 (l.getD i 0)]=gT go [] L:=fun i hi hg h=>by
  rw[dR (hget i hi)]at h⊢
  rw[uf (by omega) hg h]
 have cont:∀i,i<l.length→GoTo go L i→go (L.take i++[.int .i64 (l.getD i 0)])=true→GoTo go L (i+1):=fun i hi hg h=>hg.succ (by rw[←dR (hget i hi)];exact h)
 have done:GoTo go L l.length→L.take l.length=gT go [] L:=fun hg=>by rw[w9 (by omega) hg,←hlen];simp
 repeat'((conv=>whnf);first|intro _|apply aI|with_reducible exact vM rfl|exact⟨⟩|apply nM|apply fM)
 all_goals((try apply vM);(try simp only[vq]at*);try omega)
 conv=>whnf
 refine aM (X:=Nat) (fun k=>k≤l.length∧GoTo go L k) (fun k=>[(3,.int .u32 (mk (l.drop k):Nat))]) (fun k=>[(0,.ext G (L.take k))]) (fun k=>l.length-k) 0 W (by rfl) ⟨by omega,.zero⟩ ?_ ?_
 ·repeat'((conv=>whnf);first|intro _|apply aI|with_reducible exact vM rfl|exact⟨⟩|apply nM|apply fM)
  all_goals((try apply vM);(try simp only[vq]at*);try omega)
  all_goals simp
 intro k hk
 obtain⟨hk1,hk3⟩:=hk
 by_cases hlt:k<l.length
 ·have hA:=Rt h k
  have hr:=oC hA
  have e:=drop_cons hlt
  have hpos:0<mk (l.drop k):=by rw[e]at hA⊢;exact mk_pos hA
  have hlow:oz (mk (l.drop k))=l.getD k 0:=by rw[e]at hA⊢;exact I7 hA
  have hrest:IntKind.u32.wrap ((BitVec.ofInt IntKind.u32.bits (mk (l.drop k):Int)&&& BitVec.ofInt IntKind.u32.bits ((mk (l.drop k):Int)-1)).toNat:Int)=(mk (l.drop (k+1)):Nat):=by rw[e]at hA⊢;exact Xu hA
  repeat'((conv=>whnf);first|(intro hq;(try simp only[vw]at hq);try first|exact absurd hq (by decide)|exfalso;omega)|apply aI|with_reducible exact vM rfl|exact⟨⟩|apply nM|apply fM)
  all_goals(try rw[hlow]at*)
  all_goals((try apply vM);(try simp only[vq]at*);try omega)
  ·exact Oi (hget k hlt) hk3
  ·exact stop k hlt hk3 (by rename_i hq;simpa using hq)
  ·refine⟨k+1,[],⟨⟨by omega,cont k hlt hk3 (by rename_i hq;simpa using hq)⟩,by omega⟩,?_⟩
   repeat'((conv=>whnf);first|intro _|apply aI|with_reducible exact vM rfl|exact⟨⟩|apply nM|apply fM)
   all_goals((try apply vM);(try simp only[vq]at*);try omega)
   all_goals exact dR (hget k hlt)
 ·have:l.length=k:=by omega
  subst this
  have hz:mk (l.drop l.length)=0:=by rw[List.drop_length];rfl
  rw[hz]
  repeat'((conv=>whnf);first|(intro hq;(try simp only[vw]at hq);try first|exact absurd hq (by decide)|exfalso;omega)|apply aI|with_reducible exact vM rfl|exact⟨⟩|apply nM|apply fM)
  all_goals((try apply vM);(try simp only[vq]at*);try omega)
  exact done hk3
def hsN (l:List Int):Nat→List (Nat × AO):=fun i=>[(0,.cells (.pv [.isl (.ints .i64 (l.take i)) (.own 5)]) false),(5,.tok 1 i)]
theorem Lv (l:List Int) (h:Asc l):aG Tryz.prog 188 [.nils,.fn (.func 189) [] [.ip (.pv [.int .u32 (mk l:Nat)]) 0]] (.isl (.ints .i64 l) .none):=by
 have h16:=I9 h
 refine av (md:=1) (rf:=[]) mixed ak aD Tryz.func188 (by rfl) (by rfl) (by rfl) ?_
 repeat'((conv=>whnf);first|intro _|apply aI|with_reducible exact vM rfl|exact⟨⟩|apply nM|apply fM)
 all_goals((try apply vM);(try simp only[vq]at*);try omega)
 conv=>whnf
 refine iG aK mixed ak aD (fun r=>aQ) (fs:=[]) (cs:=[.ip (.pv [.int .u32 (mk l:Nat)]) 0]) (l.map (PV.int .i64)) (fun _=>true) (hsN l) (by rfl) (by rfl) (by rfl) (jB l h) (by rfl) (by rfl) (by rfl) (by rfl) ?_ ?_ ?_
 ·repeat'((conv=>whnf);first|intro _|apply aI|with_reducible exact vM rfl|exact⟨⟩|apply nM|apply fM)
  all_goals((try apply vM);(try simp only[vq]at*);try omega)
 ·intro hall
  rw[List.length_map]
  repeat'((conv=>whnf);first|intro _|apply aI|with_reducible exact vM rfl|exact⟨⟩|apply nM|apply fM)
  all_goals((try apply vM);(try simp only[vq]at*);try omega)
  all_goals(try rw[List.take_length])
  all_goals exact Sup.of rfl
 ·intro i x hx hall lp
  have hx':i<l.length∧x=.int .i64 (l.getD i 0):=by
   rw[List.getElem?_map]at hx
   cases h:l[i]? with
   |none=>rw[h]at hx;cases hx
   |some y=>
    rw[h]at hx;cases hx
    have:=(List.getElem?_eq_some_iff.1 h).1
    exact⟨this,by rw[List.getD_eq_getElem?_getD,h];rfl⟩
  obtain⟨hi,rfl⟩:=hx'
  have e1:(l.take i).length=i:=by rw[List.length_take];omega
  have e2:l.take i++[l.getD i 0]=l.take (i+1):=by
   rw[List.take_add_one,List.getD_eq_getElem?_getD,List.getElem?_eq_getElem hi];rfl
  repeat'((conv=>whnf);first|intro _|apply aI|with_reducible exact vM rfl|exact⟨⟩|apply nM|apply fM)
  all_goals((try apply vM);(try simp only[vq]at*);try omega)
  all_goals(try(simp only[List.length_append,List.length_take,List.length_cons,List.length_nil];omega))
  refine⟨[],?_⟩
  repeat'((conv=>whnf);first|intro _|apply aI|with_reducible exact vM rfl|exact⟨⟩|apply nM|apply fM)
  all_goals((try apply vM);(try simp only[vq]at*);try omega)
  all_goals(try(rw[e2]))
def EZ:PSp:=fun xs K=>match xs with
 | [.nils,.fn (.func f) [] [.ip (.pv [.int .u32 m]) 0]]=>∃l,VC (f=189∧m=(mk l:Nat)∧Asc l)∧K (.isl (.ints .i64 l) .none)
 |_=>False
theorem Ru:POK Tryz.prog 188 EZ:=by
 intro xs K hk
 unfold EZ at hk
 split at hk
 ·obtain⟨l,⟨rfl,rfl,h⟩,hk⟩:=hk
  exact⟨_,hk,Lv _ h⟩
 ·exact hk.elim
noncomputable def acC:CPT:=aA 188 (KT EZ) noC
theorem XG:aY Tryz.prog acC:=aj (QM Ru) aD
theorem OE (l:List Int) (h:Asc l):aG Tryz.prog 148 [.fn (.func 189) [] [.ip (.pv [.int .u32 (mk l:Nat)]) 0]] (.isl (.ints .i64 l) .none):=by
 refine av (md:=1) (rf:=[]) mixed ak XG Tryz.func148 (by rfl) (by rfl) (by rfl) ?_
 repeat'((conv=>whnf);first|intro _|apply aI|with_reducible exact vM rfl|exact⟨⟩|apply nM|apply fM)
 refine⟨l,VC.mk ⟨rfl,rfl,h⟩,?_⟩
 repeat'((conv=>whnf);first|intro _|apply aI|with_reducible exact vM rfl|exact⟨⟩|apply nM|apply fM)
 all_goals((try apply vM);(try simp only[vq]at*);try omega)
 all_goals exact Sup.of rfl
def Lx:PSp:=fun xs K=>match xs with
 | [.fn (.func f) [] [.ip (.pv [.int .u32 m]) 0]]=>∃l,VC (f=189∧m=(mk l:Nat)∧Asc l)∧K (.isl (.ints .i64 l) .none)
 |_=>False
theorem XH:POK Tryz.prog 148 Lx:=by
 intro xs K hk
 unfold Lx at hk
 split at hk
 ·obtain⟨l,⟨rfl,rfl,h⟩,hk⟩:=hk
  exact⟨_,hk,OE _ h⟩
 ·exact hk.elim
theorem Cz (m:Int):aG Tryz.prog 149 [.int .u32 m] (.fn (.func 189) [] [.ip (.pv [.int .u32 m]) 0]):=by
 refine av (md:=1) (rf:=[]) mixed ak aD Tryz.func149 (by rfl) (by rfl) (by rfl) ?_
 repeat'((conv=>whnf);first|intro _|apply aI|with_reducible exact vM rfl|exact⟨⟩|apply nM|apply fM)
 all_goals((try apply vM);(try simp only[vq]at*);try omega)
 all_goals exact Sup.of rfl
def zm:PSp:=fun xs K=>match xs with
 | [.int .u32 m]=>VC (True)∧K (.fn (.func 189) [] [.ip (.pv [.int .u32 m]) 0])
 |_=>False
theorem Ai:POK Tryz.prog 149 zm:=by
 intro xs K h
 unfold zm at h
 split at h
 ·exact⟨_,h.2,Cz _⟩
 ·exact h.elim
theorem OG (l:List Int) (hl:l.length≤2000000) (b:Int):aG Tryz.prog 191 [.isl (.ints .u32 l) .none,.int .u32 b] (.int .i64 (firstAt (fun i=>decide (b=l.getD i 0)) l.length)):=by
 refine av (md:=1) (rf:=[]) mixed ak aD Tryz.func191 (by rfl) (by rfl) (by rfl) ?_
 repeat'((conv=>whnf);first|intro _|apply aI|with_reducible exact vM rfl|exact⟨⟩|apply nM|apply fM)
 all_goals((try apply vM);(try simp only[vq]at*);try omega)
 conv=>whnf
 refine aM (X:=Nat) (fun i=>i≤l.length∧∀j,j<i→decide (b=l.getD j 0)=false) (fun i=>[(8,.int .i64 i)]) (fun i=>[]) (fun i=>l.length-i) 0 ⟨aK,mixed,ak,aD,aQ⟩ (by rfl) ⟨by omega,fun j hj=>by omega⟩ ?_ ?_
 ·repeat'((conv=>whnf);first|intro _|apply aI|with_reducible exact vM rfl|exact⟨⟩|apply nM|apply fM)
  all_goals((try apply vM);(try simp only[vq]at*);try omega)
 ·rintro i ⟨hi,hok⟩
  by_cases hlt:i<l.length
  ·repeat'((conv=>whnf);first|intro _|apply aI|with_reducible exact vM rfl|exact⟨⟩|apply nM|apply fM)
   all_goals((try apply vM);(try simp only[vq]at*);try omega)
   ·rename_i hq
    rw[jA (p:=fun i=>decide (b=l.getD i 0)) hlt (decide_eq_true hq) (fun j hj=>decide_eq_false (hok j hj))];exact Sup.of rfl
   ·refine⟨i+1,[],⟨⟨by omega,fun j hj=>?_⟩,by omega⟩,?_⟩
    ·by_cases e:j=i
     ·subst e;first|assumption|(apply decide_eq_false;assumption)
     ·first|exact hok j (by omega)|exact decide_eq_false (hok j (by omega))
    ·repeat'((conv=>whnf);first|intro _|apply aI|with_reducible exact vM rfl|exact⟨⟩|apply nM|apply fM)
     all_goals((try apply vM);(try simp only[vq]at*);try omega)
  ·have:i=l.length:=by omega
   subst this
   rw[jy hok]
   repeat'((conv=>whnf);first|intro _|apply aI|with_reducible exact vM rfl|exact⟨⟩|apply nM|apply fM)
   all_goals((try apply vM);(try simp only[vq]at*);try omega)
   exact Sup.of rfl
def LA:PSp:=fun xs K=>match xs with
 | [.isl (.ints .u32 l) .none,.int .u32 b]=>VC (l.length≤2000000)∧K (.int .i64 (firstAt (fun i=>decide (b=l.getD i 0)) l.length))
 |_=>False
theorem XI:POK Tryz.prog 191 LA:=by
 intro xs K h
 unfold LA at h
 split at h
 ·exact⟨_,h.2,OG _ h.1.get _⟩
 ·exact h.elim
noncomputable def acD:CPT:=aA 191 (aB LA) noC
theorem XJ:aY Tryz.prog acD:=aj (au XI) aD
theorem OH (l:List Int) (hl:l.length≤2000000) (b:Int):aG Tryz.prog 150 [.isl (.ints .u32 l) .none,.int .u32 b] (.bp (l.any fun y=>decide (b=y))):=by
 refine av (md:=1) (rf:=[]) mixed ak XJ Tryz.func150 (by rfl) (by rfl) (by rfl) ?_
 repeat'((conv=>whnf);first|intro _|apply aI|with_reducible exact vM rfl|exact⟨⟩|apply nM|apply fM)
 all_goals((try apply vM);(try simp only[vq]at*);try omega)
 refine Sup.via ?_
 repeat'((conv=>whnf);first|intro _|apply aI|with_reducible exact vM rfl|exact⟨⟩|apply nM|apply fM)
 refine VC.mk ?_
 rw[gV,mJ (fun y=>decide (b=y))]
def LB:PSp:=fun xs K=>match xs with
 | [.isl (.ints .u32 l) .none,.int .u32 b]=>VC (l.length≤2000000)∧K (.bp (l.any fun y=>decide (b=y)))
 |_=>False
theorem XK:POK Tryz.prog 150 LB:=by
 intro xs K h
 unfold LB at h
 split at h
 ·exact⟨_,h.2,OH _ h.1.get _⟩
 ·exact h.elim
def fO (cs l:List Int) (i:Nat):Int:=(l.take i).foldl (fun s c=>s+cs.getD c.toNat 0) 0
theorem zn (cs l:List Int) (i:Nat) (h:i<l.length):fO cs l (i+1)=fO cs l i+cs.getD (l.getD i 0).toNat 0:=by
 unfold fO
 rw[List.take_add_one,List.foldl_append]
 simp[h]
theorem kM {ls:List (List Int)} {i:Nat} (h:i<ls.length):ls.getD i []∈ls:=by
 rw[List.getD_eq_getElem?_getD,List.getElem?_eq_getElem h];exact List.getElem_mem _
theorem bV {l:List Int} {i:Nat} (h:i<l.length):l.getD i 0∈l:=by
 rw[List.getD_eq_getElem?_getD,List.getElem?_eq_getElem h];exact List.getElem_mem _
theorem LC (h:Bool) (e:Int):aG Tryz.prog 195 [.bp h,.int .i64 e] (.int .i64 (if h then e else 0)):=by
 refine av (md:=0) (rf:=[]) mixed ak aD Tryz.func195 (by rfl) (by rfl) (by rfl) ?_
 repeat'((conv=>whnf);first|intro _|apply aI|with_reducible exact vM rfl|exact⟨⟩|apply nM|apply fM)
 all_goals all_goals(first|(refine Sup.of ?_;first|rfl|(simp[*,bF];done))|(refine Sup.via ?_;repeat'((conv=>whnf);first|intro _|apply aI|with_reducible exact vM rfl|exact⟨⟩|apply nM|apply fM);all_goals((try apply vM);(try simp only[vq]at*);try omega);all_goals(try(simp[CL.sub];done))))
theorem HV (h:Bool) (e:Int):aG Tryz.prog 195 [.bool h,.int .i64 e] (.int .i64 (if h then e else 0)):=by
 cases h
 all_goals
  refine av (md:=0) (rf:=[]) mixed ak aD Tryz.func195 (by rfl) (by rfl) (by rfl) ?_
  repeat'((conv=>whnf);first|intro _|apply aI|with_reducible exact vM rfl|exact⟨⟩|apply nM|apply fM)
  all_goals all_goals(first|(refine Sup.of ?_;first|rfl|(simp[*,bF];done))|(refine Sup.via ?_;repeat'((conv=>whnf);first|intro _|apply aI|with_reducible exact vM rfl|exact⟨⟩|apply nM|apply fM);all_goals((try apply vM);(try simp only[vq]at*);try omega);all_goals(try(simp[CL.sub];done))))
theorem oD:POK Tryz.prog 195 gq:=by
 intro xs K h
 unfold gq at h
 split at h
 ·exact⟨_,h,LC _ _⟩
 ·exact⟨_,h,HV _ _⟩
 ·exact h.elim
structure Dp (f l:List Int):Prop where
 len:l.length≤1000000
 at':∀c∈l,0≤c∧c<f.length
 bd:∀i,i≤l.length→ -1000000000000≤fO f l i∧fO f l i≤1000000000000
theorem OI (l f:List Int) (h:Dp f l):aG Tryz.prog 232 [.isl (.ints .i64 l) .none,.isl (.ints .i64 f) .none] (.int .i64 (fO f l l.length)):=by
 obtain⟨hl,hm,hb⟩:=h
 refine av (md:=1) (rf:=[]) mixed ak aD Tryz.func232 (by rfl) (by rfl) (by rfl) ?_
 repeat'((conv=>whnf);first|intro _|apply aI|with_reducible exact vM rfl|exact⟨⟩|apply nM|apply fM)
 all_goals((try apply vM);(try simp only[vq]at*);try omega)
 conv=>whnf
 refine aM (X:=Nat) (fun i=>i≤l.length) (fun i=>[(5,.int .i64 (fO f l i)),(10,.int .i64 i)]) (fun _=>[]) (fun i=>l.length-i) 0 ⟨aK,mixed,ak,aD,aQ⟩ (by rfl) (by omega) ?_ ?_
 ·repeat'((conv=>whnf);first|intro _|apply aI|with_reducible exact vM rfl|exact⟨⟩|apply nM|apply fM)
  all_goals((try apply vM);(try simp only[vq]at*);try omega)
  all_goals(try rfl)
 intro i hi
 by_cases hlt:i<l.length
 ·have key:=hm (l.getD i 0) (by simp[hlt])
  have hs:=hb (i+1) hlt
  have hs0:=hb i hi
  have e:=zn f l i hlt
  repeat'((conv=>whnf);first|intro _|apply aI|with_reducible exact vM rfl|exact⟨⟩|apply nM|apply fM)
  all_goals((try apply vM);(try simp only[vq]at*);try omega)
  refine⟨i+1,[],⟨by omega,by omega⟩,?_⟩
  repeat'((conv=>whnf);first|intro _|apply aI|with_reducible exact vM rfl|exact⟨⟩|apply nM|apply fM)
  all_goals((try apply vM);(try simp only[vq]at*);try omega)
  all_goals(try(rw[e]))
 ·have:i=l.length:=by omega
  subst this
  repeat'((conv=>whnf);first|intro _|apply aI|with_reducible exact vM rfl|exact⟨⟩|apply nM|apply fM)
  all_goals((try apply vM);(try simp only[vq]at*);try omega)
  all_goals(first|(refine Sup.of ?_;first|rfl|(simp[*,bF];done))|(refine Sup.via ?_;repeat'((conv=>whnf);first|intro _|apply aI|with_reducible exact vM rfl|exact⟨⟩|apply nM|apply fM);all_goals((try apply vM);(try simp only[vq]at*);try omega);all_goals(try(simp[CL.sub];done))))
def LD:PSp:=fun xs K=>match xs with
 | [.isl (.ints .i64 l) .none,.isl (.ints .i64 f) .none]=>VC (Dp f l)∧K (.int .i64 (fO f l l.length))
 |_=>False
theorem XL:POK Tryz.prog 232 LD:=by
 intro xs K h
 unfold LD at h
 split at h
 ·exact⟨_,h.2,OI _ _ h.1.get⟩
 ·exact h.elim
def gI (f:List Int) (ls:List (List Int)) (m:Nat):List Int:=(ls.take m).map fun l=>fO f l l.length
theorem LG (f:List Int) (ls:List (List Int)) (m:Nat) (h:m<ls.length):gI f ls (m+1)=gI f ls m++[fO f (ls.getD m []) (ls.getD m []).length]:=by
 unfold gI
 rw[List.take_add_one,List.map_append,List.getD_eq_getElem?_getD,List.getElem?_eq_getElem h]
 rfl
theorem BU (f:List Int) (ls:List (List Int)) (m:Nat) (h:m≤ls.length):(gI f ls m).length=m:=by simp[gI];omega
noncomputable def acE:CPT:=aA 232 (aB LD) noC
theorem Jb:aY Tryz.prog acE:=aj (au XL) aD
theorem OJ (c:Int) (ls:List (List Int)) (f:List Int) (hl:ls.length≤1000000) (h:∀i,i<ls.length→Dp f (ls.getD i [])):aG Tryz.prog 206 [.agg [.int .i64 c,.isl (.rows .i64 ls) .none],.isl (.ints .i64 f) .none] (.isl (.ints .i64 (gI f ls ls.length)) .none):=by
 refine av (md:=1) (rf:=[]) mixed ak Jb Tryz.func206 (by rfl) (by rfl) (by rfl) ?_
 repeat'((conv=>whnf);first|intro _|apply aI|with_reducible exact vM rfl|exact⟨⟩|apply nM|apply fM)
 all_goals((try apply vM);(try simp only[vq]at*);try omega)
 conv=>whnf
 refine aM (X:=Nat) (fun i=>i≤ls.length) (fun i=>[(11,.int .i64 i),(5,.isl (.ints .i64 (gI f ls i)) (.own 3)),(7,.any)]) (fun i=>[(3,.tok 1 i)]) (fun i=>ls.length-i) 0 ⟨aK,mixed,ak,Jb,aQ⟩ (by rfl) (by omega) ?_ ?_
 ·repeat'((conv=>whnf);first|intro _|apply aI|with_reducible exact vM rfl|exact⟨⟩|apply nM|apply fM)
  all_goals((try apply vM);(try simp only[vq]at*);try omega)
 intro i hi
 by_cases hlt:i<ls.length
 ·have e0:=BU f ls i hi
  have e1:=LG f ls i hlt
  have e2:=h i hlt
  repeat'((conv=>whnf);first|intro _|apply aI|with_reducible exact vM rfl|exact⟨⟩|apply nM|apply fM)
  all_goals((try apply vM);(try simp only[vq]at*);try omega)
  all_goals(try exact e2)
  all_goals(try(simp only[List.length_append,List.length_cons,List.length_nil];omega))
  refine⟨i+1,[],⟨by omega,by omega⟩,?_⟩
  repeat'((conv=>whnf);first|intro _|apply aI|with_reducible exact vM rfl|exact⟨⟩|apply nM|apply fM)
  all_goals((try apply vM);(try simp only[vq]at*);try omega)
  all_goals(try(rw[e1]))
 ·have:ls.length=i:=by omega
  subst this
  repeat'((conv=>whnf);first|intro _|apply aI|with_reducible exact vM rfl|exact⟨⟩|apply nM|apply fM)
  all_goals((try apply vM);(try simp only[vq]at*);try omega)
  all_goals(refine Sup.via ?_;repeat'((conv=>whnf);first|intro _|apply aI|with_reducible exact vM rfl|exact⟨⟩|apply nM|apply fM);all_goals((try apply vM);(try simp only[vq]at*);try omega);all_goals(try(simp[CL.sub];done)))
structure qy (f:List Int) (ls:List (List Int)):Prop where
 len:1≤ls.length∧ls.length≤1000000
 all:∀i,i<ls.length→Dp f (ls.getD i [])
def LH:PSp:=fun xs K=>match xs with
 | [.agg [.int .i64 c,.isl (.rows .i64 ls) .none],.isl (.ints .i64 f) .none]=>VC (qy f ls)∧K (.isl (.ints .i64 (gI f ls ls.length)) .none)
 |_=>False
theorem XM:POK Tryz.prog 206 LH:=by
 intro xs K h
 unfold LH at h
 split at h
 ·exact⟨_,h.2,OJ _ _ _ h.1.get.len.2 h.1.get.all⟩
 ·exact h.elim
def Dq (all:List Int) (x:Int):Bool:=decide (x≠all.getD 0 0)
theorem Rv (all:List Int) (h:1≤all.length) (x:Int):aG Tryz.prog 208 ([]++[.int .i64 x]++[.ip (.pv [.isl (.ints .i64 all) .none]) 0]) (.bp (Dq all x)):=by
 unfold Dq
 refine av (md:=0) (rf:=[]) mixed ak aD Tryz.func208 (by rfl) (by rfl) (by rfl) ?_
 repeat'((conv=>whnf);first|intro _|apply aI|with_reducible exact vM rfl|exact⟨⟩|apply nM|apply fM)
 all_goals((try apply vM);(try simp only[vq]at*);try omega)
 all_goals(refine Sup.via ?_;repeat'((conv=>whnf);first|intro _|apply aI|with_reducible exact vM rfl|exact⟨⟩|apply nM|apply fM);all_goals((try apply vM);(try simp only[vq]at*);try omega))
 all_goals rfl
def nG (all:List Int):Int:=firstAt (fun i=>Dq all (all.getD i 0)) all.length
noncomputable def acF:CPT:=aA 206 (aB LH) (aA 207 (aB Dn) noC)
theorem XO:aY Tryz.prog acF:=aj (au XM) (aj (au I8) aD)
theorem E5 (c:Int) (ls:List (List Int)) (f:List Int) (h:qy f ls):aG Tryz.prog 169 [.agg [.int .i64 c,.isl (.rows .i64 ls) .none],.isl (.ints .i64 f) .none] (.int .i64 (nG (gI f ls ls.length))):=by
 have e:=BU f ls ls.length (Nat.le_refl _)
 have h1:=h.len
 refine av (md:=1) (rf:=[]) mixed ak XO Tryz.func169 (by rfl) (by rfl) (by rfl) ?_
 repeat'((conv=>whnf);first|intro _|apply aI|with_reducible exact vM rfl|exact⟨⟩|apply nM|apply fM)
 all_goals((try apply vM);(try simp only[vq]at*);try omega)
 all_goals(try exact h)
 refine⟨Dq (gI f ls ls.length),fun x _=>Rv _ (by omega) x,?_⟩
 repeat'((conv=>whnf);first|intro _|apply aI|with_reducible exact vM rfl|exact⟨⟩|apply nM|apply fM)
 all_goals((try apply vM);(try simp only[vq]at*);try omega)
 all_goals(refine Sup.via ?_;repeat'((conv=>whnf);first|intro _|apply aI|with_reducible exact vM rfl|exact⟨⟩|apply nM|apply fM);all_goals((try apply vM);(try simp only[vq]at*);try omega);all_goals(try(simp[CL.sub];done)))
 rfl
def xK:PSp:=fun xs K=>match xs with
 | [.agg [.int .i64 c,.isl (.rows .i64 ls) .none],.isl (.ints .i64 f) .none]=>VC (qy f ls)∧K (.int .i64 (nG (gI f ls ls.length)))
 |_=>False
theorem LJ:POK Tryz.prog 169 xK:=by
 intro xs K h
 unfold xK at h
 split at h
 ·exact⟨_,h.2,E5 _ _ _ h.1.get⟩
 ·exact h.elim
theorem HY (l:List Int) (hl:l.length<1000000):aG Tryz.prog 193 [.isl (.ints .i64 l) .none] (.int .i64 (aJ l)):=by
 refine av (md:=1) (rf:=[]) mixed ak aD Tryz.func193 (by rfl) (by rfl) (by rfl) ?_
 repeat'((conv=>whnf);first|intro _|apply aI|with_reducible exact vM rfl|exact⟨⟩|apply nM|apply fM)
 all_goals((try apply vM);(try simp only[vq]at*);try omega)
 conv=>whnf
 refine aM (X:=Nat) (fun i=>i≤l.length∧∀j,j<i→l.getD j 0=0) (fun i=>[(7,.int .i64 i)]) (fun _=>[]) (fun i=>l.length-i) 0 ⟨aK,mixed,ak,aD,aQ⟩ (by rfl) ⟨by omega,fun j hj=>by omega⟩ ?_ ?_
 ·repeat'((conv=>whnf);first|intro _|apply aI|with_reducible exact vM rfl|exact⟨⟩|apply nM|apply fM)
  all_goals((try apply vM);(try simp only[vq]at*);try omega)
 ·intro i hi
  obtain⟨hi,hz⟩:=hi
  repeat'((conv=>whnf);first|intro _|apply aI|with_reducible exact vM rfl|exact⟨⟩|apply nM|apply fM)
  all_goals((try apply vM);(try simp only[vq]at*);try omega)
  ·rename_i hne
   have:=jO l i (by omega) hz (by simpa using hne)
   rw[this];exact Sup.of rfl
  ·rename_i hne
   have hne:l.getD i 0=0:=by simpa using hne
   refine⟨i+1,[],⟨⟨by omega,fun j hj=>?_⟩,by omega⟩,?_⟩
   ·by_cases e:j=i
    ·subst e;exact hne
    ·exact hz j (by omega)
   ·repeat'((conv=>whnf);first|intro _|apply aI|with_reducible exact vM rfl|exact⟨⟩|apply nM|apply fM)
    all_goals((try apply vM);(try simp only[vq]at*);try omega)
  ·have:i=l.length:=by omega
   subst this
   rw[uI l hz];exact Sup.of rfl
def nO:PSp:=fun xs K=>match xs with
 | [.isl (.ints .i64 l) .none]=>VC (l.length<1000000)∧K (.int .i64 (aJ l))
 |_=>False
theorem pq:POK Tryz.prog 193 nO:=by
 intro xs K h
 unfold nO at h
 split at h
 ·exact⟨_,h.2,HY _ h.1.get⟩
 ·exact h.elim
def rP (lo hi x:Int):Bool:=decide (x<lo)||decide (hi<x)
theorem Rx (lo hi x:Int):aG Tryz.prog 221 ([]++[.int .i64 x]++[.ip (.pv [.int .i64 lo]) 0,.ip (.pv [.int .i64 hi]) 0]) (.bp (rP lo hi x)):=by
 refine av (md:=1) (rf:=[]) mixed ak aD Tryz.func221 (by rfl) (by rfl) (by rfl) ?_
 unfold rP
 repeat'((conv=>whnf);first|intro _|apply aI|with_reducible exact vM rfl|exact⟨⟩|apply nM|apply fM)
 ·rename_i hq
  rw[show(decide (x<lo))=false from hq,Bool.false_or]
  exact Sup.of rfl
 ·rename_i hq
  rw[show(decide (x<lo))=true from hq,Bool.true_or]
  all_goals(refine Sup.via ?_;repeat'((conv=>whnf);first|intro _|apply aI|with_reducible exact vM rfl|exact⟨⟩|apply nM|apply fM);all_goals((try apply vM);(try simp only[vq]at*);try omega);all_goals(try(simp[CL.sub];done)))
noncomputable def acG:CPT:=aA 215 (y5 Lr) (aA 195 (aB gq) noC)
theorem XP:aY Tryz.prog acG:=aj (BM XD) (aj (au oD) aD)
theorem OL (lo hi:Int) (l:List Int) (hl:l.length≤2000000):aG Tryz.prog 194 [.int .i64 lo,.int .i64 hi,.isl (.ints .i64 l) .none] (.int .i64 (if l.any (rP lo hi)then 3 else 0)):=by
 refine av (md:=1) (rf:=[]) mixed ak XP Tryz.func194 (by rfl) (by rfl) (by rfl) ?_
 repeat'((conv=>whnf);first|intro _|apply aI|with_reducible exact vM rfl|exact⟨⟩|apply nM|apply fM)
 all_goals((try apply vM);(try simp only[vq]at*);try omega)
 ·exact⟨hl,rfl,rfl⟩
 refine⟨rP lo hi,fun x _=>Rx lo hi x,?_⟩
 repeat'((conv=>whnf);first|intro _|apply aI|with_reducible exact vM rfl|exact⟨⟩|apply nM|apply fM)
 all_goals((try apply vM);(try simp only[vq]at*);try omega)
 all_goals(first|(refine Sup.of ?_;first|rfl|(simp[*,bF];done))|(refine Sup.via ?_;repeat'((conv=>whnf);first|intro _|apply aI|with_reducible exact vM rfl|exact⟨⟩|apply nM|apply fM);all_goals((try apply vM);(try simp only[vq]at*);try omega);all_goals(try(simp[CL.sub];done))))
def Dr:PSp:=fun xs K=>match xs with
 | [.int .i64 lo,.int .i64 hi,.isl (.ints .i64 l) .none]=>VC (l.length≤2000000)∧K (.int .i64 (if l.any (rP lo hi)then 3 else 0))
 |_=>False
theorem Jc:POK Tryz.prog 194 Dr:=by
 intro xs K h
 unfold Dr at h
 split at h
 ·exact⟨_,h.2,OL _ _ _ h.1.get⟩
 ·exact h.elim
noncomputable def acH:CPT:=aA 194 (aB Dr) noC
theorem XQ:aY Tryz.prog acH:=aj (au Jc) aD
def rQ (l:List Int):Int:=if l.any (rP (-999999999) 999999999)then 3 else 0
theorem E8 (l:List Int) (hl:l.length≤2000000):aG Tryz.prog 203 [.isl (.ints .i64 l) .none] (.int .i64 (rQ l)):=by
 refine av (md:=1) (rf:=[]) mixed ak XQ Tryz.func203 (by rfl) (by rfl) (by rfl) ?_
 unfold rQ
 repeat'((conv=>whnf);first|intro _|apply aI|with_reducible exact vM rfl|exact⟨⟩|apply nM|apply fM)
 all_goals((try apply vM);(try simp only[vq]at*);try omega)
 all_goals(first|(refine Sup.of ?_;first|rfl|(simp[*,bF];done))|(refine Sup.via ?_;repeat'((conv=>whnf);first|intro _|apply aI|with_reducible exact vM rfl|exact⟨⟩|apply nM|apply fM);all_goals((try apply vM);(try simp only[vq]at*);try omega);all_goals(try(simp[CL.sub];done))))
def rR:PSp:=fun xs K=>match xs with
 | [.isl (.ints .i64 l) .none]=>VC (l.length≤2000000)∧K (.int .i64 (rQ l))
 |_=>False
theorem zo:POK Tryz.prog 203 rR:=by
 intro xs K h
 unfold rR at h
 split at h
 ·exact⟨_,h.2,E8 _ h.1.get⟩
 ·exact h.elim
theorem zq {a b:List Int} (hl:a.length=b.length) (h:∀j,j<a.length→a.getD j 0=b.getD j 0):a=b:=by
 refine List.ext_getElem hl fun j h1 h2=>?_
 have:=h j h1
 rw[List.getD_eq_getElem?_getD,List.getD_eq_getElem?_getD,List.getElem?_eq_getElem h1,List.getElem?_eq_getElem h2]at this
 exact this
theorem CB (a b:List Int) (ha:a.length≤2000000):aG Tryz.prog 36 [.isl (.ints .i64 a) .none,.isl (.ints .i64 b) .none] (.bp (decide (a=b))):=by
 refine av (md:=1) (rf:=[]) mixed ak aD Tryz.func36 (by rfl) (by rfl) (by rfl) ?_
 repeat'((conv=>whnf);first|intro _|apply aI|with_reducible exact vM rfl|exact⟨⟩|apply nM|apply fM)
 all_goals((try apply vM);(try simp only[vq]at*);try omega)
 ·rw[show decide (a=b)=false from by simp;rintro rfl;simp at*];all_goals(refine Sup.via ?_;repeat'((conv=>whnf);first|intro _|apply aI|with_reducible exact vM rfl|exact⟨⟩|apply nM|apply fM);all_goals((try apply vM);(try simp only[vq]at*);try omega);all_goals(try(simp[CL.sub];done)))
 have hl:a.length=b.length:=by omega
 conv=>whnf
 refine aM (X:=Nat) (fun i=>i≤a.length∧∀j,j<i→a.getD j 0=b.getD j 0) (fun i=>[(5,.int .i64 i)]) (fun i=>[]) (fun i=>a.length-i) 0 ⟨aK,mixed,ak,aD,aQ⟩ (by rfl) ⟨by omega,fun j h=>by omega⟩ ?_ ?_
 ·repeat'((conv=>whnf);first|intro _|apply aI|with_reducible exact vM rfl|exact⟨⟩|apply nM|apply fM)
  all_goals((try apply vM);(try simp only[vq]at*);try omega)
 ·rintro i ⟨hi,hok⟩
  by_cases hlt:i<a.length
  ·repeat'((conv=>whnf);first|intro _|apply aI|with_reducible exact vM rfl|exact⟨⟩|apply nM|apply fM)
   all_goals((try apply vM);(try simp only[vq]at*);try omega)
   ·rw[show decide (a=b)=false from by simp;rintro rfl;simp_all];all_goals(refine Sup.via ?_;repeat'((conv=>whnf);first|intro _|apply aI|with_reducible exact vM rfl|exact⟨⟩|apply nM|apply fM);all_goals((try apply vM);(try simp only[vq]at*);try omega);all_goals(try(simp[CL.sub];done)))
   ·refine⟨i+1,[],⟨⟨by omega,fun j hj=>?_⟩,by omega⟩,?_⟩
    ·by_cases e:j=i
     ·subst e;omega
     ·exact hok j (by omega)
    ·repeat'((conv=>whnf);first|intro _|apply aI|with_reducible exact vM rfl|exact⟨⟩|apply nM|apply fM)
     all_goals((try apply vM);(try simp only[vq]at*);try omega)
  ·have:i=a.length:=by omega
   subst this
   rw[show decide (a=b)=true from by simp;exact zq hl hok]
   repeat'((conv=>whnf);first|intro _|apply aI|with_reducible exact vM rfl|exact⟨⟩|apply nM|apply fM)
   all_goals((try apply vM);(try simp only[vq]at*);try omega)
   all_goals(refine Sup.via ?_;repeat'((conv=>whnf);first|intro _|apply aI|with_reducible exact vM rfl|exact⟨⟩|apply nM|apply fM);all_goals((try apply vM);(try simp only[vq]at*);try omega);all_goals(try(simp[CL.sub];done)))
def mK:PSp:=fun xs K=>match xs with
 | [.isl (.ints .i64 a) .none,.isl (.ints .i64 b) .none]=>VC (a.length≤2000000)∧K (.bp (decide (a=b)))
 |_=>False
theorem pV:POK Tryz.prog 36 mK:=by
 intro xs K h
 unfold mK at h
 split at h
 ·exact⟨_,h.2,CB _ _ h.1.get⟩
 ·exact h.elim
theorem LK (a b:List Int) (ha:a.length≤2000000):aG Tryz.prog 223 [.isl (.ints .i64 a) .none,.isl (.ints .i64 b) .none] (.bp (decide (a=b))):=by
 refine av (md:=1) (rf:=[]) mixed ak aD Tryz.func223 (by rfl) (by rfl) (by rfl) ?_
 repeat'((conv=>whnf);first|intro _|apply aI|with_reducible exact vM rfl|exact⟨⟩|apply nM|apply fM)
 all_goals((try apply vM);(try simp only[vq]at*);try omega)
 ·rw[show decide (a=b)=false from by simp;rintro rfl;simp at*];all_goals(refine Sup.via ?_;repeat'((conv=>whnf);first|intro _|apply aI|with_reducible exact vM rfl|exact⟨⟩|apply nM|apply fM);all_goals((try apply vM);(try simp only[vq]at*);try omega);all_goals(try(simp[CL.sub];done)))
 have hl:a.length=b.length:=by omega
 conv=>whnf
 refine aM (X:=Nat) (fun i=>i≤a.length∧∀j,j<i→a.getD j 0=b.getD j 0) (fun i=>[(13,.int .i64 i)]) (fun i=>[]) (fun i=>a.length-i) 0 ⟨aK,mixed,ak,aD,aQ⟩ (by rfl) ⟨by omega,fun j h=>by omega⟩ ?_ ?_
 ·repeat'((conv=>whnf);first|intro _|apply aI|with_reducible exact vM rfl|exact⟨⟩|apply nM|apply fM)
  all_goals((try apply vM);(try simp only[vq]at*);try omega)
 ·rintro i ⟨hi,hok⟩
  by_cases hlt:i<a.length
  ·repeat'((conv=>whnf);first|intro _|apply aI|with_reducible exact vM rfl|exact⟨⟩|apply nM|apply fM)
   all_goals((try apply vM);(try simp only[vq]at*);try omega)
   ·rw[show decide (a=b)=false from by simp;rintro rfl;simp_all];all_goals(refine Sup.via ?_;repeat'((conv=>whnf);first|intro _|apply aI|with_reducible exact vM rfl|exact⟨⟩|apply nM|apply fM);all_goals((try apply vM);(try simp only[vq]at*);try omega);all_goals(try(simp[CL.sub];done)))
   ·refine⟨i+1,[],⟨⟨by omega,fun j hj=>?_⟩,by omega⟩,?_⟩
    ·by_cases e:j=i
     ·subst e;omega
     ·exact hok j (by omega)
    ·repeat'((conv=>whnf);first|intro _|apply aI|with_reducible exact vM rfl|exact⟨⟩|apply nM|apply fM)
     all_goals((try apply vM);(try simp only[vq]at*);try omega)
  ·have:i=a.length:=by omega
   subst this
   rw[show decide (a=b)=true from by simp;exact zq hl hok]
   repeat'((conv=>whnf);first|intro _|apply aI|with_reducible exact vM rfl|exact⟨⟩|apply nM|apply fM)
   all_goals((try apply vM);(try simp only[vq]at*);try omega)
   all_goals(refine Sup.via ?_;repeat'((conv=>whnf);first|intro _|apply aI|with_reducible exact vM rfl|exact⟨⟩|apply nM|apply fM);all_goals((try apply vM);(try simp only[vq]at*);try omega);all_goals(try(simp[CL.sub];done)))
def E9:PSp:=fun xs K=>match xs with
 | [.isl (.ints .i64 a) .none,.isl (.ints .i64 b) .none]=>VC (a.length≤2000000)∧K (.bp (decide (a=b)))
 |_=>False
theorem Ry:POK Tryz.prog 223 E9:=by
 intro xs K h
 unfold E9 at h
 split at h
 ·exact⟨_,h.2,LK _ _ h.1.get⟩
 ·exact h.elim
noncomputable def acI:CPT:=aA 36 (aB mK) noC
theorem Jd:aY Tryz.prog acI:=aj (au pV) aD
theorem Fa (ls:List (List Int)) (l:List Int) (hl:ls.length≤1000000∧∀x∈ls,x.length≤5000):aG Tryz.prog 165 [.isl (.rows .i64 ls) .none,.isl (.ints .i64 l) .none] (.bp (ls.any fun x=>decide (x=l))):=by
 refine av (md:=1) (rf:=[]) mixed ak Jd Tryz.func165 (by rfl) (by rfl) (by rfl) ?_
 repeat'((conv=>whnf);first|intro _|apply aI|with_reducible exact vM rfl|exact⟨⟩|apply nM|apply fM)
 all_goals((try apply vM);(try simp only[vq]at*);try omega)
 conv=>whnf
 refine aM (X:=Nat) (fun i=>i≤ls.length∧∀j,j<i→ls.getD j []≠l) (fun i=>[(5,.int .i64 i)]) (fun i=>[]) (fun i=>ls.length-i) 0 ⟨aK,mixed,ak,Jd,aQ⟩ (by rfl) ⟨by omega,fun j h=>by omega⟩ ?_ ?_
 ·repeat'((conv=>whnf);first|intro _|apply aI|with_reducible exact vM rfl|exact⟨⟩|apply nM|apply fM)
  all_goals((try apply vM);(try simp only[vq]at*);try omega)
 ·rintro i ⟨hi,hok⟩
  by_cases hlt:i<ls.length
  ·have hm:=hl.2 _ (kM hlt)
   repeat'((conv=>whnf);first|intro _|apply aI|with_reducible exact vM rfl|exact⟨⟩|apply nM|apply fM)
   all_goals((try apply vM);(try simp only[vq]at*);try omega)
   ·rename_i hq
    rw[show(ls.any fun x=>decide (x=l))=true from List.any_eq_true.2 ⟨_,kM hlt,decide_eq_true hq⟩];all_goals(refine Sup.via ?_;repeat'((conv=>whnf);first|intro _|apply aI|with_reducible exact vM rfl|exact⟨⟩|apply nM|apply fM);all_goals((try apply vM);(try simp only[vq]at*);try omega);all_goals(try(simp[CL.sub];done)))
   ·refine⟨i+1,[],⟨⟨by omega,fun j hj=>?_⟩,by omega⟩,?_⟩
    ·by_cases e:j=i
     ·subst e;assumption
     ·exact hok j (by omega)
    ·repeat'((conv=>whnf);first|intro _|apply aI|with_reducible exact vM rfl|exact⟨⟩|apply nM|apply fM)
     all_goals((try apply vM);(try simp only[vq]at*);try omega)
  ·have:i=ls.length:=by omega
   subst this
   rw[show(ls.any fun x=>decide (x=l))=false from List.any_eq_false.2 fun x hx=>by
    obtain⟨j,hj,rfl⟩:=List.getElem_of_mem hx
    have:=hok j hj
    rw[List.getD_eq_getElem?_getD,List.getElem?_eq_getElem hj]at this
    simpa using this]
   repeat'((conv=>whnf);first|intro _|apply aI|with_reducible exact vM rfl|exact⟨⟩|apply nM|apply fM)
   all_goals((try apply vM);(try simp only[vq]at*);try omega)
   all_goals(refine Sup.via ?_;repeat'((conv=>whnf);first|intro _|apply aI|with_reducible exact vM rfl|exact⟨⟩|apply nM|apply fM);all_goals((try apply vM);(try simp only[vq]at*);try omega);all_goals(try(simp[CL.sub];done)))
def xL:PSp:=fun xs K=>match xs with
 | [.isl (.rows .i64 ls) .none,.isl (.ints .i64 l) .none]=>VC (ls.length≤1000000∧∀x∈ls,x.length≤5000)∧K (.bp (ls.any fun x=>decide (x=l)))
 |_=>False
theorem LM:POK Tryz.prog 165 xL:=by
 intro xs K h
 unfold xL at h
 split at h
 ·exact⟨_,h.2,Fa _ _ h.1.get⟩
 ·exact h.elim
def cu (f:Nat→Int) (n:Nat):Int:=match(List.range n).find? (fun i=>decide (f i≠0))with
 |some i=>f i
 |none=>0
theorem gD {f:Nat→Int} {n:Nat} (h:∀i,i<n→f i=0):cu f n=0:=by
 unfold cu;rw[uN (fun i hi=>by simpa using h i hi)]
theorem eH {f:Nat→Int} {n y:Nat} (hy:y<n) (hp:f y≠0) (h:∀i,i<y→f i=0):cu f n=f y:=by
 unfold cu;rw[BS hy (by simpa using hp) (fun i hi=>by simpa using h i hi)]
theorem iU {f:Nat→Int} {n:Nat} (h:cu f n=0):∀i,i<n→f i=0:=by
 intro i hi
 unfold cu at h
 cases hf:(List.range n).find? (fun i=>decide (f i≠0))with
 |some j=>
  rw[hf]at h
  have:=List.find?_some hf
  simp only[decide_eq_true_eq]at this
  exact absurd h this
 |none=>
  rw[List.find?_eq_none]at hf
  simpa using hf i (by simpa using hi)
def bP (c:Int) (l:List Int) (k:Nat):Int:=if l.getD k 0<0∨c≤l.getD k 0 then 10 else if 0<k∧l.getD k 0≤l.getD (k-1) 0 then 11 else 0
def iI (c:Int) (ls:List (List Int)) (i:Nat):Int:=
 if(ls.getD i []).length=0 then 12 else if cu (bP c (ls.getD i [])) (ls.getD i []).length≠0 then cu (bP c (ls.getD i [])) (ls.getD i []).length
 else if(ls.take i).any (fun x=>decide (x=ls.getD i []))then 9 else 0
def iJ (c:Int) (ls:List (List Int)):Int:=if c<1∨256<c then 3 else if 128<ls.length then 5 else cu (iI c ls) ls.length
structure bT (ls:List (List Int)):Prop where
 len:ls.length≤1000000
 all:∀x∈ls,x.length≤5000
theorem bT.at' {ls:List (List Int)} (h:bT ls) (i:Nat):(ls.getD i []).length≤5000:=by
 by_cases hi:i<ls.length
 ·exact h.all _ (kM hi)
 ·rw[List.getD_eq_getElem?_getD,List.getElem?_eq_none (by omega)];simp
theorem BX {ls:List (List Int)} (h:bT ls) (i:Nat):(ls.take i).length≤1000000∧∀x∈ls.take i,x.length≤5000:=
 ⟨by have:=h.len;rw[List.length_take];omega,fun x hx=>h.all x (List.mem_of_mem_take hx)⟩
noncomputable def acJ:CPT:=aA 165 (aB xL) noC
theorem qz:aY Tryz.prog acJ:=aj (au LM) aD
theorem OM (c:Int) (ls:List (List Int)) (h:bT ls):aG Tryz.prog 120 [.agg [.int .i64 c,.isl (.rows .i64 ls) .none]] (.int .i64 (iJ c ls)):=by
 have h2:=h.len
 unfold iJ
 by_cases hc:c<1∨256<c
 ·rw[if_pos hc]
  refine av (md:=1) (rf:=[]) mixed ak qz Tryz.func120 (by rfl) (by rfl) (by rfl) ?_
  repeat'((conv=>whnf);first|(intro hq;(try simp only[vw]at hq);try first|exact absurd hq (by decide)|exfalso;omega)|apply aI|with_reducible exact vM rfl|exact⟨⟩|apply nM|apply fM)
  all_goals((try apply vM);(try simp only[vq]at*);try omega)
  all_goals first|exact Sup.of rfl|(exfalso;omega)
 rw[if_neg hc]
 by_cases hl:128<ls.length
 ·rw[if_pos hl]
  refine av (md:=1) (rf:=[]) mixed ak qz Tryz.func120 (by rfl) (by rfl) (by rfl) ?_
  repeat'((conv=>whnf);first|(intro hq;(try simp only[vw]at hq);try first|exact absurd hq (by decide)|exfalso;omega)|apply aI|with_reducible exact vM rfl|exact⟨⟩|apply nM|apply fM)
  all_goals((try apply vM);(try simp only[vq]at*);try omega)
  all_goals first|exact Sup.of rfl|(exfalso;omega)
 rw[if_neg hl]
 refine av (md:=1) (rf:=[]) mixed ak qz Tryz.func120 (by rfl) (by rfl) (by rfl) ?_
 repeat'((conv=>whnf);first|(intro hq;(try simp only[vw]at hq);try first|exact absurd hq (by decide)|exfalso;omega)|apply aI|with_reducible exact vM rfl|exact⟨⟩|apply nM|apply fM)
 all_goals((try apply vM);(try simp only[vq]at*);try omega)
 conv=>whnf
 refine aM (X:=Nat) (fun i=>i≤ls.length∧∀j,j<i→iI c ls j=0) (fun i=>[(3,.int .i64 i)]) (fun i=>[]) (fun i=>ls.length-i) 0 ⟨aK,mixed,ak,qz,aQ⟩ (by rfl) ⟨by omega,fun j hj=>by omega⟩ ?_ ?_
 ·repeat'((conv=>whnf);first|intro _|apply aI|with_reducible exact vM rfl|exact⟨⟩|apply nM|apply fM)
  all_goals((try apply vM);(try simp only[vq]at*);try omega)
 intro i ⟨hi,hok⟩
 by_cases hlt:i<ls.length
 ·have e1:=h.at' i
  have e4:=BX h i
  obtain⟨l,hL⟩:∃l,ls.getD i []=l:=⟨_,rfl⟩
  have eE:iI c ls i=if l.length=0 then 12 else if cu (bP c l) l.length≠0 then cu (bP c l) l.length else if(ls.take i).any (fun x=>decide (x=l))then 9 else 0:=by unfold iI;rw[hL]
  rw[hL]at e1
  repeat'((conv=>whnf);first|(intro hq;(try simp only[vw]at hq);try first|exact absurd hq (by decide)|exfalso;omega)|apply aI|with_reducible exact vM rfl|exact⟨⟩|apply nM|apply fM)
  all_goals((try apply vM);(try simp only[vq]at*);try omega)
  ·rename_i hq
   rw[hL]at hq
   rw[if_pos (by omega)]at eE
   rw[eH hlt (by rw[eE];decide) hok,eE]
   exact Sup.of rfl
  rename_i hq
  rw[hL]at hq⊢
  rw[if_neg (by omega)]at eE
  conv=>whnf
  refine aM (X:=Nat) (fun k=>k≤l.length∧∀j,j<k→bP c l j=0) (fun k=>[(5,.int .i64 k)]) (fun k=>[]) (fun k=>l.length-k) 0 ⟨aK,mixed,ak,qz,aQ⟩ (by rfl) ⟨by omega,fun j hj=>by omega⟩ ?_ ?_
  ·repeat'((conv=>whnf);first|intro _|apply aI|with_reducible exact vM rfl|exact⟨⟩|apply nM|apply fM)
   all_goals((try apply vM);(try simp only[vq]at*);try omega)
   all_goals first|exact hL|exact hL.symm|skip
  intro k ⟨hk,hok2⟩
  by_cases hkl:k<l.length
  ·have eS:bP c l k=if l.getD k 0<0∨c≤l.getD k 0 then 10 else if 0<k∧l.getD k 0≤l.getD (k-1) 0 then 11 else 0:=rfl
   have ek:((k:Int)-1).toNat=k-1:=by omega
   have fin:∀e,bP c l k=e→e≠0→cu (iI c ls) ls.length=e:=fun e a1 a2=>by
    have a3:cu (bP c l) l.length=e:=(eH hkl (by rw[a1];exact a2) hok2).trans a1
    have a4:iI c ls i=e:=by rw[eE,if_pos (by rw[a3];exact a2),a3]
    exact(eH hlt (by rw[a4];exact a2) hok).trans a4
   have nxt:bP c l k=0→∀j,j<k+1→bP c l j=0:=fun a j hj=>by
    by_cases e:j=k
    ·subst e;exact a
    ·exact hok2 j (by omega)
   repeat'((conv=>whnf);first|(intro hq;(try simp only[vw]at hq);try first|exact absurd hq (by decide)|exfalso;omega)|apply aI|with_reducible exact vM rfl|exact⟨⟩|apply nM|apply fM)
   all_goals((try apply vM);(try simp only[vq]at*);try omega)
   ·rw[fin 10 (by rw[eS,if_pos (by omega)]) (by decide)];exact Sup.of rfl
   ·rename_i hq
    rw[ek]at hq
    rw[fin 11 (by rw[eS,if_neg (by omega),if_pos (by omega)]) (by decide)];exact Sup.of rfl
   ·rename_i hq
    rw[ek]at hq
    refine⟨k+1,[],⟨⟨by omega,nxt (by rw[eS,if_neg (by omega),if_neg (by omega)])⟩,by omega⟩,?_⟩
    repeat'((conv=>whnf);first|(intro hq;(try simp only[vw]at hq);try first|exact absurd hq (by decide)|exfalso;omega)|apply aI|with_reducible exact vM rfl|exact⟨⟩|apply nM|apply fM)
   ·refine⟨k+1,[],⟨⟨by omega,nxt (by rw[eS,if_neg (by omega),if_neg (by omega)])⟩,by omega⟩,?_⟩
    repeat'((conv=>whnf);first|(intro hq;(try simp only[vw]at hq);try first|exact absurd hq (by decide)|exfalso;omega)|apply aI|with_reducible exact vM rfl|exact⟨⟩|apply nM|apply fM)
   ·rw[fin 10 (by rw[eS,if_pos (by omega)]) (by decide)];exact Sup.of rfl
  ·have a3:cu (bP c l) l.length=0:=gD (n:=l.length) (by rw[show l.length=k by omega];exact hok2)
   rw[if_neg (by rw[a3];simp)]at eE
   have et:List.take (i-0) (List.drop 0 ls)=ls.take i:=by rw[List.drop_zero,Nat.sub_zero]
   repeat'((conv=>whnf);first|(intro hq;(try simp only[vw]at hq);try first|exact absurd hq (by decide)|exfalso;omega)|apply aI|with_reducible exact vM rfl|exact⟨⟩|apply nM|apply fM)
   all_goals((try apply vM);(try simp only[vq]at*);try omega)
   ·rw[et];exact e4
   ·rename_i hq
    rw[et]at hq
    rw[if_pos hq]at eE
    rw[eH hlt (by rw[eE];decide) hok,eE]
    exact Sup.of rfl
   ·rename_i hq
    rw[et]at hq
    rw[if_neg (by rw[hq];decide)]at eE
    refine⟨i+1,[],⟨⟨by omega,fun j hj=>?_⟩,by omega⟩,?_⟩
    ·by_cases e:j=i
     ·subst e;exact eE
     ·exact hok j (by omega)
    repeat'((conv=>whnf);first|(intro hq;(try simp only[vw]at hq);try first|exact absurd hq (by decide)|exfalso;omega)|apply aI|with_reducible exact vM rfl|exact⟨⟩|apply nM|apply fM)
 ·rw[gD (n:=ls.length) (by rw[show ls.length=i by omega];exact hok)]
  repeat'((conv=>whnf);first|(intro hq;(try simp only[vw]at hq);try first|exact absurd hq (by decide)|exfalso;omega)|apply aI|with_reducible exact vM rfl|exact⟨⟩|apply nM|apply fM)
  exact Sup.of rfl
def Dt:PSp:=fun xs K=>match xs with
 | [.agg [.int .i64 c,.isl (.rows .i64 ls) .none]]=>VC (bT ls)∧K (.int .i64 (iJ c ls))
 |_=>False
theorem Je:POK Tryz.prog 120 Dt:=by
 intro xs K h
 unfold Dt at h
 split at h
 ·exact⟨_,h.2,OM _ _ h.1.get⟩
 ·exact h.elim
def LP:PSp:=fun xs K=>match xs with
 | [.isl (.rows .i64 l) .none,.fn (.func f) fs cs]=>VC (l.length≤2000000)∧∃p:List Int→Bool,(∀x∈l,aG Tryz.prog f (fs++[.isl (.ints .i64 x) .none]++cs) (.bp (p x)))∧K (.int .i64 (firstAt (fun i=>p (l.getD i [])) l.length))
 |_=>False
theorem OO (l:List (List Int)) (hl:l.length≤2000000) (f:Nat) (fs cs:List PV) (p:List Int→Bool) (hp:∀x∈l,aG Tryz.prog f (fs++[.isl (.ints .i64 x) .none]++cs) (.bp (p x))):
 aG Tryz.prog 185 [.isl (.rows .i64 l) .none,.fn (.func f) fs cs] (.int .i64 (firstAt (fun i=>p (l.getD i [])) l.length)):=by
 refine yY 1 (enters' Tryz.func185 (by rfl) (by rfl)) rfl (by simp) fun S0 w0 us vs hu hv=>?_
 have hY:∀r,jT Tryz.prog r (vI S0 w0) (fnY f us vs fun xs K=>match xs with
  | [.isl (.ints .i64 x) .none]=>VC (x∈l)∧K (.bp (p x))
  |_=>False):=fun r=>NT (fs:=fs) (cs:=cs) (fun S w hb=>⟨hu.mono hb.1 (.refl _),hv.mono hb.1 (.refl _)⟩) fun xs K hk=>by
  split at hk
  ·exact⟨_,hk.2,hp _ hk.1.get⟩
  ·exact hk.elim
 have W:Walk Tryz.prog none (vI S0 w0) tab.get noC _:=⟨rC,mixed,ak,aD.up _,hY none⟩
 refine tX rC mixed ak (md:=1) (rf:=[]) (aD.up _) (hY none) Tryz.func185 (by rfl) (by rfl) ?_
 repeat'((conv=>whnf);first|intro _|apply aI|with_reducible exact vM rfl|exact⟨⟩|apply nM|apply fM)
 all_goals((try apply vM);(try simp only[vq]at*);try omega)
 conv=>whnf
 refine aM (X:=Nat) (fun i=>i≤l.length∧∀j,j<i→p (l.getD j [])=false) (fun i=>[(8,.int .i64 i)]) (fun i=>[]) (fun i=>l.length-i) 0 W (by rfl) ⟨by omega,fun j hj=>by omega⟩ ?_ ?_
 ·repeat'((conv=>whnf);first|intro _|apply aI|with_reducible exact vM rfl|exact⟨⟩|apply nM|apply fM)
  all_goals((try apply vM);(try simp only[vq]at*);try omega)
 ·rintro i ⟨hi,hok⟩
  by_cases hlt:i<l.length
  ·have hm:l.getD i []∈l:=kM hlt
   repeat'((conv=>whnf);first|intro _|apply aI|with_reducible exact vM rfl|exact⟨⟩|apply nM|apply fM)
   all_goals((try apply vM);(try simp only[vq]at*);try omega)
   ·rw[jA hlt ‹p (l.getD i [])=true› hok];exact Sup.of rfl
   ·refine⟨i+1,[],⟨⟨by omega,fun j hj=>?_⟩,by omega⟩,?_⟩
    ·by_cases e:j=i
     ·subst e;assumption
     ·exact hok j (by omega)
    ·repeat'((conv=>whnf);first|intro _|apply aI|with_reducible exact vM rfl|exact⟨⟩|apply nM|apply fM)
     all_goals((try apply vM);(try simp only[vq]at*);try omega)
  ·have:i=l.length:=by omega
   subst this
   rw[jy hok]
   repeat'((conv=>whnf);first|intro _|apply aI|with_reducible exact vM rfl|exact⟨⟩|apply nM|apply fM)
   all_goals((try apply vM);(try simp only[vq]at*);try omega)
   exact Sup.of rfl
theorem XR:POK Tryz.prog 185 LP:=by
 intro xs K h
 unfold LP at h
 split at h
 ·obtain⟨⟨h1⟩,p,h2,hK⟩:=h
  exact⟨_,hK,OO _ h1 _ _ _ p h2⟩
 ·exact h.elim
def LQ:PSp:=fun xs K=>match xs with
 | [.isl (.rows .i64 l) .none,.fn (.func f) fs cs]=>VC (l.length≤2000000∧d9.inlF fs=true∧d9.inlF cs=true)∧∃p:List Int→Bool,(∀x∈l,aG Tryz.prog f (fs++[.isl (.ints .i64 x) .none]++cs) (.bp (p x)))∧K (.bp (l.any p))
 |_=>False
theorem OP (l:List (List Int)) (hl:l.length≤2000000) (f:Nat) (fs cs:List PV) (hfs:d9.inlF fs=true) (hcs:d9.inlF cs=true) (p:List Int→Bool) (hp:∀x∈l,aG Tryz.prog f (fs++[.isl (.ints .i64 x) .none]++cs) (.bp (p x))):
 aG Tryz.prog 140 [.isl (.rows .i64 l) .none,.fn (.func f) fs cs] (.bp (l.any p)):=by
 have hc:aY Tryz.prog (aA 185 (aB LP) noC):=aj (au XR) aD
 refine av (md:=1) (rf:=[]) mixed ak hc Tryz.func140 (by rfl) (by rfl) (by rfl) ?_
 repeat'((conv=>whnf);first|intro _|apply aI|with_reducible exact vM rfl|exact⟨⟩|apply nM|apply fM)
 conv=>whnf
 simp only[aB,oV,iO,qQ,d9,hfs,hcs]
 repeat'((conv=>whnf);first|intro _|apply aI|with_reducible exact vM rfl|exact⟨⟩|apply nM|apply fM)
 all_goals((try apply vM);(try simp only[vq]at*);try omega)
 refine⟨p,hp,?_⟩
 repeat'((conv=>whnf);first|intro _|apply aI|with_reducible exact vM rfl|exact⟨⟩|apply nM|apply fM)
 all_goals((try apply vM);(try simp only[vq]at*);try omega)
 refine Sup.via ?_
 repeat'((conv=>whnf);first|intro _|apply aI|with_reducible exact vM rfl|exact⟨⟩|apply nM|apply fM)
 refine VC.mk ?_
 rw[gV,mJ]
theorem XT:POK Tryz.prog 140 LQ:=by
 intro xs K h
 unfold LQ at h
 split at h
 ·obtain⟨⟨h1,h3,h4⟩,p,h2,hK⟩:=h
  exact⟨_,hK,OP _ h1 _ _ _ h3 h4 p h2⟩
 ·exact h.elim
noncomputable def abU:CPT:=aA 223 (aB E9) noC
theorem Rz:aY Tryz.prog abU:=aj (au Ry) aD
theorem OQ (l x:List Int) (hx:x.length≤2000000):aG Tryz.prog 222 ([]++[.isl (.ints .i64 x) .none]++[.ip (.pv [.isl (.ints .i64 l) .none]) 0]) (.bp (decide (x=l))):=by
 refine av (md:=1) (rf:=[]) mixed ak Rz Tryz.func222 (by rfl) (by rfl) (by rfl) ?_
 repeat'((conv=>whnf);first|intro _|apply aI|with_reducible exact vM rfl|exact⟨⟩|apply nM|apply fM)
 all_goals((try apply vM);(try simp only[vq]at*);try omega)
 exact Sup.of rfl
noncomputable def abV:CPT:=aA 193 (aB nO) (aA 195 (aB gq) (aA 140 (y5 LQ) noC))
theorem Fb:aY Tryz.prog abV:=aj (au pq) (aj (au oD) (aj (BM XT) aD))
theorem Fe (c:Int) (ls:List (List Int)) (i:Nat) (h:bT ls) (hlt:i<ls.length):aG Tryz.prog 196 [.agg [.int .i64 c,.isl (.rows .i64 ls) .none],.int .i64 (i:Int)] (.int .i64 (iI c ls i)):=by
 have h2:=h.len
 have e1:=h.at' i
 have e4:=BX h i
 obtain⟨l,hL⟩:∃l,ls.getD i []=l:=⟨_,rfl⟩
 have eE:iI c ls i=if l.length=0 then 12 else if cu (bP c l) l.length≠0 then cu (bP c l) l.length else if(ls.take i).any (fun x=>decide (x=l))then 9 else 0:=by unfold iI;rw[hL]
 rw[hL]at e1
 refine av (md:=1) (rf:=[]) mixed ak Fb Tryz.func196 (by rfl) (by rfl) (by rfl) ?_
 repeat'((conv=>whnf);first|intro _|apply aI|with_reducible exact vM rfl|exact⟨⟩|apply nM|apply fM)
 all_goals((try apply vM);(try simp only[vq]at*);try omega)
 ·rw[hL]at*
  rw[eE,if_pos (by omega)];exact Sup.of rfl
 rename_i h0
 rw[hL]at h0⊢
 rw[if_neg (by omega)]at eE
 conv=>whnf
 refine aM (X:=Nat) (fun k=>k≤l.length∧∀j,j<k→bP c l j=0) (fun k=>[(19,.int .i64 k)]) (fun k=>[]) (fun k=>l.length-k) 0 ⟨aK,mixed,ak,Fb,aQ⟩ (by rfl) ⟨by omega,fun j hj=>by omega⟩ ?_ ?_
 ·repeat'((conv=>whnf);first|intro _|apply aI|with_reducible exact vM rfl|exact⟨⟩|apply nM|apply fM)
  all_goals((try apply vM);(try simp only[vq]at*);try omega)
  all_goals first|exact hL|exact hL.symm|skip
 intro k ⟨hk,hok2⟩
 by_cases hkl:k<l.length
 ·have eS:bP c l k=if l.getD k 0<0∨c≤l.getD k 0 then 10 else if 0<k∧l.getD k 0≤l.getD (k-1) 0 then 11 else 0:=rfl
  have ek:((k:Int)-1).toNat=k-1:=by omega
  have fin:∀e,bP c l k=e→e≠0→iI c ls i=e:=fun e a1 a2=>by
   have a3:cu (bP c l) l.length=e:=(eH hkl (by rw[a1];exact a2) hok2).trans a1
   rw[eE,if_pos (by rw[a3];exact a2),a3]
  have nxt:bP c l k=0→∀j,j<k+1→bP c l j=0:=fun a j hj=>by
   by_cases e:j=k
   ·subst e;exact a
   ·exact hok2 j (by omega)
  repeat'((conv=>whnf);first|intro _|apply aI|with_reducible exact vM rfl|exact⟨⟩|apply nM|apply fM)
  all_goals((try apply vM);(try simp only[vq]at*);try omega)
  ·rename_i hq
   refine Sup.of (congrArg (PV.int .i64) (fin _ ?_ hq).symm)
   (rw[eS];simp only[aJ,ek,if_true,if_false,ite_true,ite_false];(repeat' split)<;>(first|rfl|omega))
  ·rename_i hq
   refine⟨k+1,[],⟨⟨by omega,nxt (Eq.trans ?_ (Classical.not_not.1 hq))⟩,by omega⟩,?_⟩
   ·(rw[eS];simp only[aJ,ek,if_true,if_false,ite_true,ite_false];(repeat' split)<;>(first|rfl|omega))
   repeat'((conv=>whnf);first|intro _|apply aI|with_reducible exact vM rfl|exact⟨⟩|apply nM|apply fM)
  ·rename_i hq
   refine Sup.of (congrArg (PV.int .i64) (fin _ ?_ hq).symm)
   (rw[eS];simp only[aJ,ek,if_true,if_false,ite_true,ite_false];(repeat' split)<;>(first|rfl|omega))
  ·rename_i hq
   refine⟨k+1,[],⟨⟨by omega,nxt (Eq.trans ?_ (Classical.not_not.1 hq))⟩,by omega⟩,?_⟩
   ·(rw[eS];simp only[aJ,ek,if_true,if_false,ite_true,ite_false];(repeat' split)<;>(first|rfl|omega))
   repeat'((conv=>whnf);first|intro _|apply aI|with_reducible exact vM rfl|exact⟨⟩|apply nM|apply fM)
  ·rename_i hq
   refine Sup.of (congrArg (PV.int .i64) (fin _ ?_ hq).symm)
   (rw[eS];simp only[aJ,ek,if_true,if_false,ite_true,ite_false];(repeat' split)<;>(first|rfl|omega))
  ·rename_i hq
   refine⟨k+1,[],⟨⟨by omega,nxt (Eq.trans ?_ (Classical.not_not.1 hq))⟩,by omega⟩,?_⟩
   ·(rw[eS];simp only[aJ,ek,if_true,if_false,ite_true,ite_false];(repeat' split)<;>(first|rfl|omega))
   repeat'((conv=>whnf);first|intro _|apply aI|with_reducible exact vM rfl|exact⟨⟩|apply nM|apply fM)
  ·rename_i hq
   refine Sup.of (congrArg (PV.int .i64) (fin _ ?_ hq).symm)
   (rw[eS];simp only[aJ,ek,if_true,if_false,ite_true,ite_false];(repeat' split)<;>(first|rfl|omega))
  ·rename_i hq
   refine⟨k+1,[],⟨⟨by omega,nxt (Eq.trans ?_ (Classical.not_not.1 hq))⟩,by omega⟩,?_⟩
   ·(rw[eS];simp only[aJ,ek,if_true,if_false,ite_true,ite_false];(repeat' split)<;>(first|rfl|omega))
   repeat'((conv=>whnf);first|intro _|apply aI|with_reducible exact vM rfl|exact⟨⟩|apply nM|apply fM)
 ·have a3:cu (bP c l) l.length=0:=gD (n:=l.length) (by rw[show l.length=k by omega];exact hok2)
  rw[if_neg (by rw[a3];simp)]at eE
  have et:List.take (i-0) (List.drop 0 ls)=ls.take i:=by rw[List.drop_zero,Nat.sub_zero]
  repeat'((conv=>whnf);first|intro _|apply aI|with_reducible exact vM rfl|exact⟨⟩|apply nM|apply fM)
  all_goals((try apply vM);(try simp only[vq]at*);try omega)
  ·rw[et];exact⟨by omega,rfl,rfl⟩
  rw[et]
  refine⟨fun x=>decide (x=l),fun x hx=>OQ l x (by have:=e4.2 x hx;omega),?_⟩
  rw[eE]
  repeat'((conv=>whnf);first|intro _|apply aI|with_reducible exact vM rfl|exact⟨⟩|apply nM|apply fM)
  all_goals((try apply vM);(try simp only[vq]at*);try omega)
  exact Sup.of rfl
theorem CF {c:Int} {ls:List (List Int)} {i:Int} (h:bT ls) (h0:0≤i) (hlt:i<ls.length):aG Tryz.prog 196 [.agg [.int .i64 c,.isl (.rows .i64 ls) .none],.int .i64 i] (.int .i64 (iI c ls i.toNat)):=by
 have:=Fe c ls i.toNat h (by omega)
 rwa [Int.toNat_of_nonneg h0]at this
def xM:PSp:=fun xs K=>match xs with
 | [.agg [.int .i64 c,.isl (.rows .i64 ls) .none],.int .i64 i]=>VC (bT ls∧0≤i∧i<ls.length)∧K (.int .i64 (iI c ls i.toNat))
 |_=>False
theorem LU:POK Tryz.prog 196 xM:=by
 intro xs K h
 unfold xM at h
 split at h
 ·exact⟨_,h.2,CF h.1.get.1 h.1.get.2.1 h.1.get.2.2⟩
 ·exact h.elim
noncomputable def acK:CPT:=aA 193 (aB nO) (aA 195 (aB gq) (aA 194 (aB Dr) (aA 196 (aB xM) noC)))
theorem Jf:aY Tryz.prog acK:=aj (au pq) (aj (au oD) (aj (au Jc) (aj (au LU) aD)))
theorem RB (c:Int) (ls:List (List Int)) (h:bT ls):aG Tryz.prog 153 [.agg [.int .i64 c,.isl (.rows .i64 ls) .none]] (.int .i64 (iJ c ls)):=by
 have h2:=h.len
 have hf:aJ [if [c].any (rP 1 256)then 3 else 0,if 128<(ls.length:Int)then 5 else 0]=if c<1∨256<c then 3 else if 128<ls.length then 5 else 0:=by
  simp only[aJ,List.any_cons,List.any_nil,Bool.or_false,rP,Bool.or_eq_true,decide_eq_true_eq]
  (repeat' split)<;>(first|rfl|omega)
 unfold iJ
 refine av (md:=1) (rf:=[]) mixed ak Jf Tryz.func153 (by rfl) (by rfl) (by rfl) ?_
 repeat'((conv=>whnf);first|intro _|apply aI|with_reducible exact vM rfl|exact⟨⟩|apply nM|apply fM)
 all_goals((try apply vM);(try simp only[vq]at*);try omega)
 ·rename_i hq
  rw[hf]at hq⊢
  by_cases hc:c<1∨256<c
  ·rw[if_pos hc,if_pos hc];exact Sup.of rfl
  rw[if_neg hc]at hq⊢
  by_cases hl:128<ls.length
  ·rw[if_neg hc,if_pos hl,if_pos hl];exact Sup.of rfl
  ·rw[if_neg hl]at hq;exact absurd rfl hq
 rename_i hq
 have hq:=Classical.not_not.1 hq
 rw[hf]at hq
 have hc:¬(c<1∨256<c):=fun hc=>by rw[if_pos hc]at hq;cases hq
 rw[if_neg hc]at hq⊢
 have hl:¬128<ls.length:=fun hl=>by rw[if_pos hl]at hq;cases hq
 rw[if_neg hl]
 conv=>whnf
 refine aM (X:=Nat) (fun i=>i≤ls.length∧∀j,j<i→iI c ls j=0) (fun i=>[(23,.int .i64 i)]) (fun i=>[]) (fun i=>ls.length-i) 0 ⟨aK,mixed,ak,Jf,aQ⟩ (by rfl) ⟨by omega,fun j hj=>by omega⟩ ?_ ?_
 ·repeat'((conv=>whnf);first|intro _|apply aI|with_reducible exact vM rfl|exact⟨⟩|apply nM|apply fM)
  all_goals((try apply vM);(try simp only[vq]at*);try omega)
 intro i ⟨hi,hok⟩
 by_cases hlt:i<ls.length
 ·repeat'((conv=>whnf);first|intro _|apply aI|with_reducible exact vM rfl|exact⟨⟩|apply nM|apply fM)
  all_goals((try apply vM);(try simp only[vq]at*);try omega)
  ·exact⟨h,by omega,by omega⟩
  ·rename_i hq
   rw[eH hlt hq hok];exact Sup.of rfl
  ·rename_i hq
   refine⟨i+1,[],⟨⟨by omega,fun j hj=>?_⟩,by omega⟩,?_⟩
   ·by_cases e:j=i
    ·subst e;exact Classical.not_not.1 hq
    ·exact hok j (by omega)
   repeat'((conv=>whnf);first|intro _|apply aI|with_reducible exact vM rfl|exact⟨⟩|apply nM|apply fM)
   all_goals((try apply vM);(try simp only[vq]at*);try omega)
 ·rw[gD (n:=ls.length) (by rw[show ls.length=i by omega];exact hok)]
  repeat'((conv=>whnf);first|intro _|apply aI|with_reducible exact vM rfl|exact⟨⟩|apply nM|apply fM)
  all_goals((try apply vM);(try simp only[vq]at*);try omega)
  exact Sup.of rfl
def LV:PSp:=fun xs K=>match xs with
 | [.agg [.int .i64 c,.isl (.rows .i64 ls) .none]]=>VC (bT ls)∧K (.int .i64 (iJ c ls))
 |_=>False
theorem OT:POK Tryz.prog 153 LV:=by
 intro xs K h
 unfold LV at h
 split at h
 ·exact⟨_,h.2,RB _ _ h.1.get⟩
 ·exact h.elim
def rT (c:Int) (ls:List (List Int)) (f:List Int):Int:=aJ [iJ c ls,if(f.length:Int)≠c then 2 else 0,rQ f]
noncomputable def acL:CPT:=aA 193 (aB nO) (aA 195 (aB gq) (aA 153 (aB LV) (aA 203 (aB rR) noC)))
theorem XU:aY Tryz.prog acL:=aj (au pq) (aj (au oD) (aj (au OT) (aj (au zo) aD)))
theorem LW (c:Int) (ls:List (List Int)) (f:List Int) (h:bT ls) (hf:f.length≤2000000):aG Tryz.prog 168 [.agg [.int .i64 c,.isl (.rows .i64 ls) .none],.isl (.ints .i64 f) .none] (.int .i64 (rT c ls f)):=by
 unfold rT
 refine av (md:=1) (rf:=[]) mixed ak XU Tryz.func168 (by rfl) (by rfl) (by rfl) ?_
 repeat'((conv=>whnf);first|intro _|apply aI|with_reducible exact vM rfl|exact⟨⟩|apply nM|apply fM)
 all_goals((try apply vM);(try simp only[vq]at*);try omega)
 all_goals first|exact h|exact Sup.of rfl
def Fg:PSp:=fun xs K=>match xs with
 | [.agg [.int .i64 c,.isl (.rows .i64 ls) .none],.isl (.ints .i64 f) .none]=>VC (bT ls∧f.length≤2000000)∧K (.int .i64 (rT c ls f))
 |_=>False
theorem RD:POK Tryz.prog 168 Fg:=by
 intro xs K h
 unfold Fg at h
 split at h
 ·exact⟨_,h.2,LW _ _ _ h.1.get.1 h.1.get.2⟩
 ·exact h.elim
noncomputable def acM:CPT:=aA 168 (aB Fg) (aA 169 (aB xK) noC)
theorem XV:aY Tryz.prog acM:=aj (au RD) (aj (au LJ) aD)
theorem CG (c:Int) (ls:List (List Int)) (f:List Int) (h:bT ls) (hf:f.length≤2000000) (he:rT c ls f=0) (hs:qy f ls):aG Tryz.prog 122 [.agg [.int .i64 c,.isl (.rows .i64 ls) .none],.isl (.ints .i64 f) .none] (.tup [.bp (decide (nG (gI f ls ls.length)<0)),.int .i64 0]):=by
 refine av (md:=1) (rf:=[]) mixed ak XV Tryz.func122 (by rfl) (by rfl) (by rfl) ?_
 repeat'((conv=>whnf);first|intro _|apply aI|with_reducible exact vM rfl|exact⟨⟩|apply nM|apply fM)
 all_goals((try apply vM);(try simp only[vq]at*);try omega)
 all_goals first|exact⟨h,by omega⟩|exact hs|exact Sup.of rfl|skip
theorem LX (h:Bool) (e:Int):aG Tryz.prog 89 [.bp h,.int .i64 e] (.int .i64 (if h then e else 0)):=by
 refine av (md:=0) (rf:=[]) mixed ak aD Tryz.func89 (by rfl) (by rfl) (by rfl) ?_
 repeat'((conv=>whnf);first|intro _|apply aI|with_reducible exact vM rfl|exact⟨⟩|apply nM|apply fM)
 all_goals all_goals(first|(refine Sup.of ?_;first|rfl|(simp[*,bF];done))|(refine Sup.via ?_;repeat'((conv=>whnf);first|intro _|apply aI|with_reducible exact vM rfl|exact⟨⟩|apply nM|apply fM);all_goals((try apply vM);(try simp only[vq]at*);try omega);all_goals(try(simp[CL.sub];done))))
theorem HZ (h:Bool) (e:Int):aG Tryz.prog 89 [.bool h,.int .i64 e] (.int .i64 (if h then e else 0)):=by
 cases h
 all_goals
  refine av (md:=0) (rf:=[]) mixed ak aD Tryz.func89 (by rfl) (by rfl) (by rfl) ?_
  repeat'((conv=>whnf);first|intro _|apply aI|with_reducible exact vM rfl|exact⟨⟩|apply nM|apply fM)
  all_goals all_goals(first|(refine Sup.of ?_;first|rfl|(simp[*,bF];done))|(refine Sup.via ?_;repeat'((conv=>whnf);first|intro _|apply aI|with_reducible exact vM rfl|exact⟨⟩|apply nM|apply fM);all_goals((try apply vM);(try simp only[vq]at*);try omega);all_goals(try(simp[CL.sub];done))))
theorem jC:POK Tryz.prog 89 gq:=by
 intro xs K h
 unfold gq at h
 split at h
 ·exact⟨_,h,LX _ _⟩
 ·exact⟨_,h,HZ _ _⟩
 ·exact h.elim
theorem H6 (l:List Int) (hl:l.length<1000000):aG Tryz.prog 88 [.isl (.ints .i64 l) .none] (.int .i64 (aJ l)):=by
 refine av (md:=1) (rf:=[]) mixed ak aD Tryz.func88 (by rfl) (by rfl) (by rfl) ?_
 repeat'((conv=>whnf);first|intro _|apply aI|with_reducible exact vM rfl|exact⟨⟩|apply nM|apply fM)
 all_goals((try apply vM);(try simp only[vq]at*);try omega)
 conv=>whnf
 refine aM (X:=Nat) (fun i=>i≤l.length∧∀j,j<i→l.getD j 0=0) (fun i=>[(7,.int .i64 i)]) (fun _=>[]) (fun i=>l.length-i) 0 ⟨aK,mixed,ak,aD,aQ⟩ (by rfl) ⟨by omega,fun j hj=>by omega⟩ ?_ ?_
 ·repeat'((conv=>whnf);first|intro _|apply aI|with_reducible exact vM rfl|exact⟨⟩|apply nM|apply fM)
  all_goals((try apply vM);(try simp only[vq]at*);try omega)
 ·intro i hi
  obtain⟨hi,hz⟩:=hi
  repeat'((conv=>whnf);first|intro _|apply aI|with_reducible exact vM rfl|exact⟨⟩|apply nM|apply fM)
  all_goals((try apply vM);(try simp only[vq]at*);try omega)
  ·rename_i hne
   have:=jO l i (by omega) hz (by simpa using hne)
   rw[this];exact Sup.of rfl
  ·rename_i hne
   have hne:l.getD i 0=0:=by simpa using hne
   refine⟨i+1,[],⟨⟨by omega,fun j hj=>?_⟩,by omega⟩,?_⟩
   ·by_cases e:j=i
    ·subst e;exact hne
    ·exact hz j (by omega)
   ·repeat'((conv=>whnf);first|intro _|apply aI|with_reducible exact vM rfl|exact⟨⟩|apply nM|apply fM)
    all_goals((try apply vM);(try simp only[vq]at*);try omega)
  ·have:i=l.length:=by omega
   subst this
   rw[uI l hz];exact Sup.of rfl
def jP:PSp:=fun xs K=>match xs with
 | [.isl (.ints .i64 l) .none]=>VC (l.length<1000000)∧K (.int .i64 (aJ l))
 |_=>False
theorem jD:POK Tryz.prog 88 jP:=by
 intro xs K h
 unfold jP at h
 split at h
 ·exact⟨_,h.2,H6 _ h.1.get⟩
 ·exact h.elim
theorem dP (l:List Int) (b:Int):b∈l↔∃i,i<l.length∧l.getD i 0=b:=by
 rw[List.mem_iff_getElem]
 constructor
 ·rintro⟨i,hi,e⟩;exact⟨i,hi,by rw[List.getD_eq_getElem?_getD,List.getElem?_eq_getElem hi];exact e⟩
 ·rintro⟨i,hi,e⟩;exact⟨i,hi,by rw[List.getD_eq_getElem?_getD,List.getElem?_eq_getElem hi]at e;exact e⟩
theorem mW (l:List Int) (b:Int) (i:Nat) (hi:i<l.length):b∈l.take (i+1)↔b∈l.take i∨b=l.getD i 0:=by
 have e:l.take (i+1)=l.take i++[l.getD i 0]:=by rw[List.take_add_one,List.getD_eq_getElem?_getD,List.getElem?_eq_getElem hi];rfl
 rw[e,List.mem_append,List.mem_singleton]
theorem OU (l:List Int) (hl:l.length≤2000000) (b:Int):aG Tryz.prog 154 [.isl (.ints .i64 l) .none,.int .i64 b] (.int .i64 (firstAt (fun i=>decide (b=l.getD i 0)) l.length)):=by
 refine av (md:=1) (rf:=[]) mixed ak aD Tryz.func154 (by rfl) (by rfl) (by rfl) ?_
 repeat'((conv=>whnf);first|intro _|apply aI|with_reducible exact vM rfl|exact⟨⟩|apply nM|apply fM)
 all_goals((try apply vM);(try simp only[vq]at*);try omega)
 conv=>whnf
 refine aM (X:=Nat) (fun i=>i≤l.length∧∀j,j<i→decide (b=l.getD j 0)=false) (fun i=>[(8,.int .i64 i)]) (fun i=>[]) (fun i=>l.length-i) 0 ⟨aK,mixed,ak,aD,aQ⟩ (by rfl) ⟨by omega,fun j hj=>by omega⟩ ?_ ?_
 ·repeat'((conv=>whnf);first|intro _|apply aI|with_reducible exact vM rfl|exact⟨⟩|apply nM|apply fM)
  all_goals((try apply vM);(try simp only[vq]at*);try omega)
 ·rintro i ⟨hi,hok⟩
  by_cases hlt:i<l.length
  ·repeat'((conv=>whnf);first|intro _|apply aI|with_reducible exact vM rfl|exact⟨⟩|apply nM|apply fM)
   all_goals((try apply vM);(try simp only[vq]at*);try omega)
   ·rename_i hq
    rw[jA (p:=fun i=>decide (b=l.getD i 0)) hlt (decide_eq_true hq) (fun j hj=>decide_eq_false (hok j hj))];exact Sup.of rfl
   ·refine⟨i+1,[],⟨⟨by omega,fun j hj=>?_⟩,by omega⟩,?_⟩
    ·by_cases e:j=i
     ·subst e;first|assumption|(apply decide_eq_false;assumption)
     ·first|exact hok j (by omega)|exact decide_eq_false (hok j (by omega))
    ·repeat'((conv=>whnf);first|intro _|apply aI|with_reducible exact vM rfl|exact⟨⟩|apply nM|apply fM)
     all_goals((try apply vM);(try simp only[vq]at*);try omega)
  ·have:i=l.length:=by omega
   subst this
   rw[jy hok]
   repeat'((conv=>whnf);first|intro _|apply aI|with_reducible exact vM rfl|exact⟨⟩|apply nM|apply fM)
   all_goals((try apply vM);(try simp only[vq]at*);try omega)
   exact Sup.of rfl
def LY:PSp:=fun xs K=>match xs with
 | [.isl (.ints .i64 l) .none,.int .i64 b]=>VC (l.length≤2000000)∧K (.int .i64 (firstAt (fun i=>decide (b=l.getD i 0)) l.length))
 |_=>False
theorem XW:POK Tryz.prog 154 LY:=by
 intro xs K h
 unfold LY at h
 split at h
 ·exact⟨_,h.2,OU _ h.1.get _⟩
 ·exact h.elim
noncomputable def acN:CPT:=aA 154 (aB LY) noC
theorem XY:aY Tryz.prog acN:=aj (au XW) aD
theorem OV (l:List Int) (hl:l.length≤2000000) (b:Int):aG Tryz.prog 94 [.isl (.ints .i64 l) .none,.int .i64 b] (.bp (decide (b∈l))):=by
 refine av (md:=1) (rf:=[]) mixed ak XY Tryz.func94 (by rfl) (by rfl) (by rfl) ?_
 repeat'((conv=>whnf);first|intro _|apply aI|with_reducible exact vM rfl|exact⟨⟩|apply nM|apply fM)
 all_goals((try apply vM);(try simp only[vq]at*);try omega)
 refine Sup.via ?_
 repeat'((conv=>whnf);first|intro _|apply aI|with_reducible exact vM rfl|exact⟨⟩|apply nM|apply fM)
 refine VC.mk ?_
 rw[gV,mJ (fun y=>decide (b=y))]
 rw[Bool.eq_iff_iff];simp[List.any_eq_true]
def zu:PSp:=fun xs K=>match xs with
 | [.isl (.ints .i64 l) .none,.int .i64 b]=>VC (l.length≤2000000)∧K (.bp (decide (b∈l)))
 |_=>False
theorem Aj:POK Tryz.prog 94 zu:=by
 intro xs K h
 unfold zu at h
 split at h
 ·exact⟨_,h.2,OV _ h.1.get _⟩
 ·exact h.elim
theorem OW (l:List Int) (hl:l.length≤2000000) (b:Int):aG Tryz.prog 95 [.isl (.ints .i64 l) .none,.int .i64 b] (.bp (decide (b∈l))):=by
 refine av (md:=1) (rf:=[]) mixed ak aD Tryz.func95 (by rfl) (by rfl) (by rfl) ?_
 repeat'((conv=>whnf);first|intro _|apply aI|with_reducible exact vM rfl|exact⟨⟩|apply nM|apply fM)
 all_goals((try apply vM);(try simp only[vq]at*);try omega)
 conv=>whnf
 refine aM (X:=Nat) (fun i=>i≤l.length∧b∉l.take i) (fun i=>[(5,.int .i64 i)]) (fun i=>[]) (fun i=>l.length-i) 0 ⟨aK,mixed,ak,aD,aQ⟩ (by rfl) ⟨by omega,by simp⟩ ?_ ?_
 ·repeat'((conv=>whnf);first|intro _|apply aI|with_reducible exact vM rfl|exact⟨⟩|apply nM|apply fM)
  all_goals((try apply vM);(try simp only[vq]at*);try omega)
 ·rintro i ⟨hi,hok⟩
  by_cases hlt:i<l.length
  ·repeat'((conv=>whnf);first|(intro hq;(try simp only[vw]at hq);try first|exact absurd hq (by decide)|exfalso;omega)|apply aI|with_reducible exact vM rfl|exact⟨⟩|apply nM|apply fM)
   all_goals((try apply vM);(try simp only[vq]at*);try omega)
   ·rename_i hq
    rw[show decide (b∈l)=true by rw[decide_eq_true_eq,←hq];exact bV hlt]
    all_goals(refine Sup.via ?_;repeat'((conv=>whnf);first|intro _|apply aI|with_reducible exact vM rfl|exact⟨⟩|apply nM|apply fM);all_goals((try apply vM);(try simp only[vq]at*);try omega);all_goals(try(simp[CL.sub];done)))
   ·rename_i hq
    refine⟨i+1,[],⟨⟨by omega,fun hm=>?_⟩,by omega⟩,?_⟩
    ·rcases(mW l b i hlt).1 hm with h|h
     ·exact hok h
     ·exact hq h.symm
    ·repeat'((conv=>whnf);first|intro _|apply aI|with_reducible exact vM rfl|exact⟨⟩|apply nM|apply fM)
     all_goals((try apply vM);(try simp only[vq]at*);try omega)
  ·have:i=l.length:=by omega
   subst this
   rw[List.take_length]at hok
   rw[decide_eq_false hok]
   repeat'((conv=>whnf);first|(intro hq;(try simp only[vw]at hq);try first|exact absurd hq (by decide)|exfalso;omega)|apply aI|with_reducible exact vM rfl|exact⟨⟩|apply nM|apply fM)
   all_goals((try apply vM);(try simp only[vq]at*);try omega)
   all_goals(refine Sup.via ?_;repeat'((conv=>whnf);first|intro _|apply aI|with_reducible exact vM rfl|exact⟨⟩|apply nM|apply fM);all_goals((try apply vM);(try simp only[vq]at*);try omega);all_goals(try(simp[CL.sub];done)))
def LZ:PSp:=fun xs K=>match xs with
 | [.isl (.ints .i64 l) .none,.int .i64 b]=>VC (l.length≤2000000)∧K (.bp (decide (b∈l)))
 |_=>False
theorem XZ:POK Tryz.prog 95 LZ:=by
 intro xs K h
 unfold LZ at h
 split at h
 ·exact⟨_,h.2,OW _ h.1.get _⟩
 ·exact h.elim
noncomputable def cpG:CPT:=aA 89 (aB gq) noC
theorem aaP:aY Tryz.prog cpG:=aj (au jC) aD
def iZ (g:Int):Int:=if g<1∨5<g then 3 else 0
theorem CJ (g:Int):aG Tryz.prog 98 [.int .i64 g] (.int .i64 (iZ g)):=by
 unfold iZ
 refine av (md:=1) (rf:=[]) mixed ak aaP Tryz.func98 (by rfl) (by rfl) (by rfl) ?_
 repeat'((conv=>whnf);first|intro _|apply aI|with_reducible exact vM rfl|exact⟨⟩|apply nM|apply fM)
 all_goals refine Sup.of ?_
 all_goals simp_all[bF]
 all_goals(split<;>split<;>omega)
def pz:PSp:=fun xs K=>match xs with
 | [.int .i64 g]=>VC (True)∧K (.int .i64 (iZ g))
 |_=>False
theorem wL:POK Tryz.prog 98 pz:=by
 intro xs K h
 unfold pz at h
 split at h
 ·exact⟨_,h.2,CJ _⟩
 ·exact h.elim
def fT (c:Int) (ls:List (List Int)):Int:=aJ [iJ c ls,if 16<c then 20 else 0,if ls.length=0 then 12 else 0]
noncomputable def acO:CPT:=aA 88 (aB jP) (aA 89 (aB gq) (aA 153 (aB LV) noC))
theorem X0:aY Tryz.prog acO:=aj (au jD) (aj (au jC) (aj (au OT) aD))
theorem L6 (c:Int) (ls:List (List Int)) (h:bT ls):aG Tryz.prog 93 [.agg [.int .i64 c,.isl (.rows .i64 ls) .none]] (.int .i64 (fT c ls)):=by
 unfold fT
 refine av (md:=1) (rf:=[]) mixed ak X0 Tryz.func93 (by rfl) (by rfl) (by rfl) ?_
 repeat'((conv=>whnf);first|intro _|apply aI|with_reducible exact vM rfl|exact⟨⟩|apply nM|apply fM)
 all_goals((try apply vM);(try simp only[vq]at*);try omega)
 all_goals first|exact h|skip
 refine Sup.of (congrArg (PV.int .i64) ?_)
 simp only[decide_eq_true_eq,Int.natCast_eq_zero]
def zw:PSp:=fun xs K=>match xs with
 | [.agg [.int .i64 c,.isl (.rows .i64 ls) .none]]=>VC (bT ls)∧K (.int .i64 (fT c ls))
 |_=>False
theorem Fh:POK Tryz.prog 93 zw:=by
 intro xs K h
 unfold zw at h
 split at h
 ·exact⟨_,h.2,L6 _ _ h.1.get⟩
 ·exact h.elim
noncomputable def acP:CPT:=aA 120 (aB Dt) noC
theorem X3:aY Tryz.prog acP:=aj (au Je) aD
theorem H7 (c:Int) (ls:List (List Int)) (h:bT ls):aG Tryz.prog 51 [.agg [.int .i64 c,.isl (.rows .i64 ls) .none]] (.int .i64 (fT c ls)):=by
 unfold fT aJ aJ aJ aJ
 refine av (md:=1) (rf:=[]) mixed ak X3 Tryz.func51 (by rfl) (by rfl) (by rfl) ?_
 repeat'((conv=>whnf);first|(intro hq;(try simp only[vw]at hq);try first|exact absurd hq (by decide)|exfalso;omega)|apply aI|with_reducible exact vM rfl|exact⟨⟩|apply nM|apply fM)
 all_goals((try apply vM);(try simp only[vq]at*);try omega)
 all_goals first|exact h|(refine Sup.of (congrArg (PV.int .i64) ?_);(repeat' split)<;>simp_all<;>omega)
def Ak:PSp:=fun xs K=>match xs with
 | [.agg [.int .i64 c,.isl (.rows .i64 ls) .none]]=>VC (bT ls)∧K (.int .i64 (fT c ls))
 |_=>False
theorem OX:POK Tryz.prog 51 Ak:=by
 intro xs K h
 unfold Ak at h
 split at h
 ·exact⟨_,h.2,H7 _ _ h.1.get⟩
 ·exact h.elim
def gvE (c:Int) (gv:List Int) (i:Nat):Int:=if gv.getD i 0<0∨c<gv.getD i 0 then 3 else if 0<gv.getD i 0∧gv.getD i 0∈gv.take i then 9 else 0
def rU (c:Int) (ls:List (List Int)) (sum:Int) (gv:List Int):Int:=aJ [fT c ls,if sum< -999999999∨999999999<sum then 3 else 0,if(gv.length:Int)≠c then 2 else 0]
def pzE (c:Int) (ls:List (List Int)) (sum:Int) (gv:List Int):Int:=if rU c ls sum gv≠0 then rU c ls sum gv else cu (gvE c gv) gv.length
abbrev pzV (c:Int) (ls:List (List Int)) (sum:Int) (gv:List Int):PV:=.agg [.int .i64 c,.isl (.rows .i64 ls) .none,.int .i64 sum,.isl (.ints .i64 gv) .none]
noncomputable def acQ:CPT:=aA 88 (aB jP) (aA 89 (aB gq) (aA 93 (aB zw) (aA 94 (aB zu) noC)))
theorem Jg:aY Tryz.prog acQ:=aj (au jD) (aj (au jC) (aj (au Fh) (aj (au Aj) aD)))
theorem L8 (c:Int) (ls:List (List Int)) (sum:Int) (gv:List Int) (h:bT ls) (hg:gv.length≤5000):aG Tryz.prog 22 [pzV c ls sum gv] (.int .i64 (pzE c ls sum gv)):=by
 obtain⟨B,hB⟩:∃B,fT c ls=B:=⟨_,rfl⟩
 have hE0:∀x,(x=if sum< -999999999∨999999999<sum then 3 else 0)→rU c ls sum gv=aJ [B,x,if(gv.length:Int)≠c then 2 else 0]:=fun x hx=>by rw[hx,←hB];rfl
 obtain⟨E,hE⟩:∃E,rU c ls sum gv=E:=⟨_,rfl⟩
 unfold pzE
 rw[hE]at hE0⊢
 refine av (md:=1) (rf:=[]) mixed ak Jg Tryz.func22 (by rfl) (by rfl) (by rfl) ?_
 repeat'((conv=>whnf);first|(intro hq;(try simp only[vw]at hq);try first|exact absurd hq (by decide)|exfalso;omega)|apply aI|with_reducible exact vM rfl|exact⟨⟩|apply nM|apply fM)
 all_goals((try apply vM);(try simp only[vq]at*);try omega)
 all_goals first|exact h|skip
 ·rename_i h1
  have e:=hE0 (if 999999999<sum then 3 else 0) (by simp[h1])
  rw[hB]at hq⊢
  rw[←e]at hq⊢
  rw[if_pos hq];exact Sup.of rfl
 rotate_left
 ·rename_i h1
  have e:=hE0 3 (by simp[h1])
  rw[hB]at hq⊢
  rw[←e]at hq
  rw[if_pos hq,e]
  exact Sup.of (by simp[bF])
 ·rename_i h1
  exfalso
  have hq:=Classical.not_not.1 hq
  by_cases h2:fT c ls=0
  ·simp[aJ,h2]at hq
  ·simp[aJ,h2]at hq
 rename_i h1
 have e:=hE0 (if 999999999<sum then 3 else 0) (by simp[h1])
 rw[hB,←e]at hq
 rw[if_neg hq]
 conv=>whnf
 refine aM (X:=Nat) (fun i=>i≤gv.length∧∀j,j<i→gvE c gv j=0) (fun i=>[(39,.int .i64 i)]) (fun i=>[]) (fun i=>gv.length-i) 0 ⟨aK,mixed,ak,Jg,aQ⟩ (by rfl) ⟨by omega,fun j hj=>by omega⟩ ?_ ?_
 ·repeat'((conv=>whnf);first|intro _|apply aI|with_reducible exact vM rfl|exact⟨⟩|apply nM|apply fM)
  all_goals((try apply vM);(try simp only[vq]at*);try omega)
 intro i ⟨hi,hok⟩
 by_cases hlt:i<gv.length
 ·have eS:gvE c gv i=if gv.getD i 0<0∨c<gv.getD i 0 then 3 else if 0<gv.getD i 0∧gv.getD i 0∈gv.take i then 9 else 0:=rfl
  have et:List.take (i-0) (List.drop 0 gv)=gv.take i:=by rw[List.drop_zero,Nat.sub_zero]
  have fin:∀e,gvE c gv i=e→e≠0→cu (gvE c gv) gv.length=e:=fun e a1 a2=>(eH hlt (by rw[a1];exact a2) hok).trans a1
  have nxt:gvE c gv i=0→∀j,j<i+1→gvE c gv j=0:=fun a j hj=>by
   by_cases e:j=i
   ·subst e;exact a
   ·exact hok j (by omega)
  repeat'((conv=>whnf);first|(intro hq;(try simp only[vw]at hq);try first|exact absurd hq (by decide)|exfalso;omega)|apply aI|with_reducible exact vM rfl|exact⟨⟩|apply nM|apply fM)
  all_goals((try apply vM);(try simp only[vq]at*);try omega)
  all_goals first
   |(rw[et,List.length_take];omega)
   |(rw[List.length_take,List.length_drop];omega)
   |skip
  all_goals(try rw[et]at*)
  ·refine Sup.of (congrArg (PV.int .i64) (fin _ ?_ ?_).symm)
   ·clear fin nxt hok hE0
    rw[eS];simp only[aJ];(repeat' split)<;>simp_all<;>omega
   ·exact hq
  ·refine⟨i+1,[],⟨⟨by omega,nxt ?_⟩,by omega⟩,?_⟩
   ·refine Eq.trans ?_ (Classical.not_not.1 hq)
    clear fin nxt hok hE0
    rw[eS];simp only[aJ];(repeat' split)<;>simp_all<;>omega
   ·repeat'((conv=>whnf);first|intro _|apply aI|with_reducible exact vM rfl|exact⟨⟩|apply nM|apply fM)
    all_goals((try apply vM);(try simp only[vq]at*);try omega)
  ·refine Sup.of (congrArg (PV.int .i64) (fin _ ?_ ?_).symm)
   ·clear fin nxt hok hE0
    rw[eS];simp only[aJ];(repeat' split)<;>simp_all<;>omega
   ·exact hq
  ·refine⟨i+1,[],⟨⟨by omega,nxt ?_⟩,by omega⟩,?_⟩
   ·refine Eq.trans ?_ (Classical.not_not.1 hq)
    clear fin nxt hok hE0
    rw[eS];simp only[aJ];(repeat' split)<;>simp_all<;>omega
   ·repeat'((conv=>whnf);first|intro _|apply aI|with_reducible exact vM rfl|exact⟨⟩|apply nM|apply fM)
    all_goals((try apply vM);(try simp only[vq]at*);try omega)
  ·refine Sup.of (congrArg (PV.int .i64) (fin _ ?_ ?_).symm)
   ·rw[eS,if_pos (.inl (by assumption))];simp[aJ]
   ·simp[aJ]
 ·have:gv.length=i:=by omega
  rw[gD (n:=gv.length) (by rw[this];exact hok)]
  repeat'((conv=>whnf);first|intro _|apply aI|with_reducible exact vM rfl|exact⟨⟩|apply nM|apply fM)
  all_goals((try apply vM);(try simp only[vq]at*);try omega)
  exact Sup.of rfl
def mM:PSp:=fun xs K=>match xs with
 | [.agg [.int .i64 c,.isl (.rows .i64 ls) .none,.int .i64 sum,.isl (.ints .i64 gv) .none]]=>VC (bT ls∧gv.length≤5000)∧K (.int .i64 (pzE c ls sum gv))
 |_=>False
theorem lX:POK Tryz.prog 22 mM:=by
 intro xs K h
 unfold mM at h
 split at h
 ·exact⟨_,h.2,L8 _ _ _ _ h.1.get.1 h.1.get.2⟩
 ·exact h.elim
abbrev bdV (c:Int) (ls:List (List Int)) (sum:Int) (gv:List Int) (s:St):PV:=.ip (.pv [.int .i64 c,.isl (.rows .i64 ls) .none,.int .i64 sum,.isl (.ints .i64 gv) .none,.isl (.ints .u32 (ms s.cs)) .none,.isl (.bools s.ds) .none]) 0
noncomputable def acR:CPT:=aA 190 (aB uL) noC
theorem Jh:aY Tryz.prog acR:=aj (au xJ) aD
theorem Ji {l:List Int} (h:Asc l) (hl:1≤l.length):oz (mk l)=hd0 l:=by
 cases l with
 |nil=>simp at hl
 |cons x l=>exact I7 h
theorem OY (c:Int) (ls:List (List Int)) (sum:Int) (gv:List Int) (s:St) (h:bM c ls sum s) (k b:Int) (hk:0≤k∧k<ls.length):
 aG Tryz.prog 151 [bdV c ls sum gv s,.int .i64 k,.int .i64 b] (.tup [.isl (.ints .i64 (opn s (ls.getD k.toNat []) b)) .none,.int .i64 (rst s sum (ls.getD k.toNat []))]):=by
 have hln:=h.ln k.toNat (by omega)
 have hsm:=h.sm
 have hll:=hln.len
 have hlen:=dJ s.cs
 have hcl:=h.cl
 have hdl:=h.dl
 have hb:=EX h hln.rng
 refine av (md:=1) (rf:=[]) mixed ak Jh Tryz.func151 (by rfl) (by rfl) (by rfl) ?_
 repeat'((conv=>whnf);first|intro _|apply aI|with_reducible exact vM rfl|exact⟨⟩|apply nM|apply fM)
 all_goals((try apply vM);(try simp only[vq]at*);try omega)
 conv=>whnf
 refine aM (X:=Nat) (fun i=>i≤(ls.getD k.toNat []).length) (fun i=>[(27,.int .i64 i),(8,.isl (.ints .i64 (opn s ((ls.getD k.toNat []).take i) b)) (.own 3)),(9,.int .i64 (rst s sum ((ls.getD k.toNat []).take i)))]) (fun i=>[(3,.tok 1 (opn s ((ls.getD k.toNat []).take i) b).length)]) (fun i=>(ls.getD k.toNat []).length-i) 0 ⟨aK,mixed,ak,Jh,aQ⟩ (by rfl) (by omega) ?_ ?_
 ·repeat'((conv=>whnf);first|intro _|apply aI|with_reducible exact vM rfl|exact⟨⟩|apply nM|apply fM)
  all_goals((try apply vM);(try simp only[vq]at*);try omega)
  all_goals rfl
 intro i hi
 by_cases hlt:i<(ls.getD k.toNat []).length
 ·have hx:=hln.rng ((ls.getD k.toNat []).getD i 0) (bV hlt)
  have hxs:=h.at hx
  have hbi:=hb i (by omega)
  have ho:(opn s ((ls.getD k.toNat []).take i) b).length≤16:=Nat.le_trans (List.length_filter_le _ _) (by rw[List.length_take];omega)
  have hm:(ms s.cs).getD ((ls.getD k.toNat []).getD i 0).toNat 0=(mk (s.cd ((ls.getD k.toNat []).getD i 0).toNat):Nat):=eY hxs.1
  have hA:=h.asc _ hxs.1
  have hr:=oC hA.1
  have e1:=Xv s ((ls.getD k.toNat []).take i) ((ls.getD k.toNat []).getD i 0) b
  have e2:=IX s sum ((ls.getD k.toNat []).take i) ((ls.getD k.toNat []).getD i 0)
  rw[←cZ hlt]at e1 e2
  have hlo:s.dc ((ls.getD k.toNat []).getD i 0).toNat=true→oz (mk (s.cd ((ls.getD k.toNat []).getD i 0).toNat):Nat)=hd0 (s.cd ((ls.getD k.toNat []).getD i 0).toNat):=fun hd=>Ji hA.1 (by rw[h.dec _ hxs.1 hd];omega)
  repeat'((conv=>whnf);first|(intro hq;(try simp only[vw]at hq);try first|exact absurd hq (by decide)|exfalso;omega)|apply aI|with_reducible exact vM rfl|exact⟨⟩|apply nM|apply fM)
  all_goals(try rw[hm])
  all_goals((try apply vM);(try simp only[vq]at*);try omega)
  all_goals(try rw[hm])
  all_goals(try(first|omega|(have h9:=h.num hx ‹_›;rw[hlo ‹_›];omega)|(rw[List.length_append,List.length_cons,List.length_nil];omega)))
  ·have hd:s.dc ((ls.getD k.toNat []).getD i 0).toNat=true:=hq
   rw[hd]at e1 e2
   rw[if_pos rfl]at e2
   rw[if_neg (by simp),List.append_nil]at e1
   refine⟨i+1,[],⟨by omega,by omega⟩,?_⟩
   rw[e1,e2]
   repeat'((conv=>whnf);first|intro _|apply aI|with_reducible exact vM rfl|exact⟨⟩|apply nM|apply fM)
   all_goals((try apply vM);(try simp only[vq]at*);try omega)
   all_goals((try rw[hm]);rw[hlo hd])
  ·rename_i hd
   have hd:s.dc ((ls.getD k.toNat []).getD i 0).toNat=false:=hd
   rw[hd]at e1 e2
   rw[if_neg (by simp)]at e2
   rw[if_pos (by simpa using hq)]at e1
   refine⟨i+1,[],⟨by omega,by omega⟩,?_⟩
   rw[e1,e2,List.length_append]
   repeat'((conv=>whnf);first|intro _|apply aI|with_reducible exact vM rfl|exact⟨⟩|apply nM|apply fM)
   all_goals((try apply vM);(try simp only[vq]at*);try omega)
  ·rename_i hd
   have hd:s.dc ((ls.getD k.toNat []).getD i 0).toNat=false:=hd
   rw[hd]at e1 e2
   rw[if_neg (by simp)]at e2
   rw[if_neg (by simpa using hq),List.append_nil]at e1
   refine⟨i+1,[],⟨by omega,by omega⟩,?_⟩
   rw[e1,e2]
   repeat'((conv=>whnf);first|intro _|apply aI|with_reducible exact vM rfl|exact⟨⟩|apply nM|apply fM)
   all_goals((try apply vM);(try simp only[vq]at*);try omega)
 ·have:i=(ls.getD k.toNat []).length:=by omega
  subst this
  rw[List.take_length]
  repeat'((conv=>whnf);first|intro _|apply aI|with_reducible exact vM rfl|exact⟨⟩|apply nM|apply fM)
  all_goals((try apply vM);(try simp only[vq]at*);try omega)
  exact Sup.of rfl
def zx:PSp:=fun xs K=>match xs with
 | [.ip (.pv [.int .i64 c,.isl (.rows .i64 ls) .none,.int .i64 sum,.isl (.ints .i64 gv) .none,.isl (.ints .u32 M) .none,.isl (.bools D) .none]) 0,.int .i64 k,.int .i64 b]=>∃s:St,VC (M=ms s.cs∧D=s.ds∧bM c ls sum s∧0≤k∧k<ls.length)∧K (.tup [.isl (.ints .i64 (opn s (ls.getD k.toNat []) b)) .none,.int .i64 (rst s sum (ls.getD k.toNat []))])
 |_=>False
theorem Al:POK Tryz.prog 151 zx:=by
 intro xs K hk
 unfold zx at hk
 split at hk
 ·obtain⟨s,⟨rfl,rfl,h,h1⟩,hk⟩:=hk
  exact⟨_,hk,OY _ _ _ _ s h _ _ h1⟩
 ·exact hk.elim
abbrev ddV (r:ByteArray) (c x k:Int):PV:=.agg [.str r,.int .i64 c,.int .i64 x,.int .i64 k]
noncomputable def acS:CPT:=aA 151 (aB zx) (aA 156 (aB Dm) (aA 190 (aB uL) (aA 210 (aB Lm) (aA 211 (aB uM) noC))))
theorem nP:aY Tryz.prog acS:=aj (au Al) (aj (au I5) (aj (au xJ) (aj (au XB) (aj (au Hz) aD))))
theorem OZ (c:Int) (ls:List (List Int)) (sum:Int) (gv:List Int) (s:St) (h:bM c ls sum s) (r:ByteArray) (y x k:Int) (hk:0≤k∧k<ls.length):
 aG Tryz.prog 172 [bdV c ls sum gv s,ddV r y x k] (.bp (z8 s sum (ls.getD k.toNat []) y x)):=by
 unfold z8
 refine av (md:=1) (rf:=[]) mixed ak nP Tryz.func172 (by rfl) (by rfl) (by rfl) ?_
 repeat'((conv=>whnf);first|apply Exists.intro (s)|(intro hq;(try simp only[vw]at hq);try first|exact absurd hq (by decide)|exfalso;omega)|apply aI|with_reducible exact vM rfl|exact⟨⟩|apply nM|apply fM)
 all_goals((try apply vM);(try simp only[vq]at*);try omega)
 ·exact⟨h,hk⟩
 ·rw[decide_eq_true (p:=(opn s (ls.getD k.toNat []) y).length=0) (by omega),Bool.true_and];exact Sup.of rfl
 ·rw[decide_eq_false (p:=(opn s (ls.getD k.toNat []) y).length=0) (by omega),Bool.false_and];all_goals(refine Sup.via ?_;repeat'((conv=>whnf);first|intro _|apply aI|with_reducible exact vM rfl|exact⟨⟩|apply nM|apply fM);all_goals((try apply vM);(try simp only[vq]at*);try omega);all_goals(try(simp[CL.sub];done)))
theorem O1 (c:Int) (ls:List (List Int)) (sum:Int) (gv:List Int) (s:St) (h:bM c ls sum s) (r:ByteArray) (y x k:Int) (hy:0≤y∧y<c):
 aG Tryz.prog 173 [bdV c ls sum gv s,ddV r y x k] (.bp (Aa s y)):=by
 have hxs:=h.at hy
 have hm:(ms s.cs).getD y.toNat 0=(mk (s.cd y.toNat):Nat):=eY hxs.1
 have hA:=(h.asc _ hxs.1).1
 have hr:=oC hA
 have hlen:=dJ s.cs
 unfold Aa
 refine av (md:=1) (rf:=[]) mixed ak nP Tryz.func173 (by rfl) (by rfl) (by rfl) ?_
 repeat'((conv=>whnf);first|apply Exists.intro (s)|(intro hq;(try simp only[vw]at hq);try first|exact absurd hq (by decide)|exfalso;omega)|apply aI|with_reducible exact vM rfl|exact⟨⟩|apply nM|apply fM)
 all_goals((try apply vM);(try simp only[vq]at*);try omega)
 all_goals(try rw[hm])
 all_goals(try omega)
 rw[pop_mk hA]
 refine Sup.of (congrArg PV.bp ?_)
 rw[decide_eq_decide];omega
theorem Md (c:Int) (ls:List (List Int)) (sum:Int) (gv:List Int) (s:St) (h:bM c ls sum s) (r:ByteArray) (y x k:Int) (hx:1≤x∧x≤c):
 aG Tryz.prog 174 [bdV c ls sum gv s,ddV r y x k] (.bp (rO s y x)):=by
 have hlen:=dJ s.cs
 have hc:=h.c1
 have hcl:=h.cl
 refine av (md:=1) (rf:=[]) mixed ak nP Tryz.func174 (by rfl) (by rfl) (by rfl) ?_
 repeat'((conv=>whnf);first|apply Exists.intro (s)|(intro hq;(try simp only[vw]at hq);try first|exact absurd hq (by decide)|exfalso;omega)|apply aI|with_reducible exact vM rfl|exact⟨⟩|apply nM|apply fM)
 all_goals((try apply vM);(try simp only[vq]at*);try omega)
 conv=>whnf
 refine aM (X:=Nat) (fun i=>i≤s.cs.length∧∀j,j<i→(decide ((j:Int)=y)||!decide (x∈s.cd j))=true) (fun i=>[(12,.int .i64 i)]) (fun i=>[]) (fun i=>s.cs.length-i) 0 ⟨aK,mixed,ak,nP,aQ⟩ (by rfl) ⟨by omega,fun j hj=>by omega⟩ ?_ ?_
 ·repeat'((conv=>whnf);first|intro _|apply aI|with_reducible exact vM rfl|exact⟨⟩|apply nM|apply fM)
  all_goals((try apply vM);(try simp only[vq]at*);try omega)
 intro i ⟨hi,hok⟩
 have nxt:(decide ((i:Int)=y)||!decide (x∈s.cd i))=true→∀j,j<i+1→(decide ((j:Int)=y)||!decide (x∈s.cd j))=true:=fun a j hj=>by
  by_cases e:j=i
  ·subst e;exact a
  ·exact hok j (by omega)
 by_cases hlt:i<s.cs.length
 ·have hm:(ms s.cs).getD i 0=(mk (s.cd i):Nat):=eY hlt
  have hA:=(h.asc _ hlt).1
  have hr:=oC hA
  repeat'((conv=>whnf);first|apply Exists.intro (s)|(intro hq;(try simp only[vw]at hq);try first|exact absurd hq (by decide)|exfalso;omega)|apply aI|with_reducible exact vM rfl|exact⟨⟩|apply nM|apply fM)
  all_goals((try apply vM);(try simp only[vq]at*);try omega)
  all_goals(try rw[hm]at hq)
  all_goals(try rw[hm])
  all_goals(try omega)
  ·rename_i h1
   rw[I6 hA (by omega),decide_eq_true_eq]at hq
   have:rO s y x=false:=by
    unfold rO
    rw[List.all_eq_false]
    exact⟨i,List.mem_range.2 hlt,by simp[hq];exact h1⟩
   rw[this];all_goals(refine Sup.via ?_;repeat'((conv=>whnf);first|intro _|apply aI|with_reducible exact vM rfl|exact⟨⟩|apply nM|apply fM);all_goals((try apply vM);(try simp only[vq]at*);try omega);all_goals(try(simp[CL.sub];done)))
  ·rw[I6 hA (by omega),decide_eq_false_iff_not]at hq
   refine⟨i+1,[],⟨⟨by omega,nxt (by simp[hq])⟩,by omega⟩,?_⟩
   repeat'((conv=>whnf);first|intro _|apply aI|with_reducible exact vM rfl|exact⟨⟩|apply nM|apply fM)
   all_goals((try apply vM);(try simp only[vq]at*);try omega)
  ·refine⟨i+1,[],⟨⟨by omega,nxt (by simp[Classical.not_not.1 hq])⟩,by omega⟩,?_⟩
   repeat'((conv=>whnf);first|intro _|apply aI|with_reducible exact vM rfl|exact⟨⟩|apply nM|apply fM)
   all_goals((try apply vM);(try simp only[vq]at*);try omega)
 ·have:rO s y x=true:=by
   unfold rO
   rw[List.all_eq_true]
   exact fun j hj=>hok j (by have:=List.mem_range.1 hj;omega)
  rw[this]
  repeat'((conv=>whnf);first|apply Exists.intro (s)|(intro hq;(try simp only[vw]at hq);try first|exact absurd hq (by decide)|exfalso;omega)|apply aI|with_reducible exact vM rfl|exact⟨⟩|apply nM|apply fM)
  all_goals((try apply vM);(try simp only[vq]at*);try omega)
  all_goals(refine Sup.via ?_;repeat'((conv=>whnf);first|intro _|apply aI|with_reducible exact vM rfl|exact⟨⟩|apply nM|apply fM);all_goals((try apply vM);(try simp only[vq]at*);try omega);all_goals(try(simp[CL.sub];done)))
theorem Jj {s:St} {l:List Int} {b x:Int} (h:x∈opn s l b):x∈l:=(List.mem_filter.1 h).1
theorem Jk {c:Int} {ls:List (List Int)} {sum:Int} {s:St} (h:bM c ls sum s) (f:List Int→Int) (hf:∀l,f l=hd0 l∨f l=ls0 l) {o:List Int} (ho:∀y∈o,0≤y∧y<c) (hn:∀y∈o,s.cd y.toNat≠[]):
 ∀i,i≤o.length→0≤(o.take i).foldl (fun a y=>a+f (s.cd y.toNat)) 0∧(o.take i).foldl (fun a y=>a+f (s.cd y.toNat)) 0≤16*i:=by
 intro i
 induction i with
 |zero=>intro _;simp
 |succ i ih=>
  intro hi
  have ih:=ih (by omega)
  have hy:=bV (show i<o.length by omega)
  have hxs:=h.at (ho _ hy)
  have hl:1≤(s.cd (o.getD i 0).toNat).length:=by
   rcases Nat.eq_zero_or_pos (s.cd (o.getD i 0).toNat).length with h0|h0
   ·exact absurd (List.length_eq_zero_iff.1 h0) (hn _ hy)
   ·exact h0
  have hA:=(h.asc _ hxs.1).1
  have h1:=hA.rng _ (vO hl)
  have h2:=hA.rng _ (qx hl)
  rw[cZ (by omega),List.foldl_append]
  simp only[List.foldl_cons,List.foldl_nil]
  rcases hf (s.cd (o.getD i 0).toNat)with e|e<;>rw[e]<;>omega
theorem X4 {l:List Int} (h:Asc l) (hl:1≤l.length):eF (mk l)-1=ls0 l:=by
 rw[XC h (qx hl) (uJ h.pw)];omega
theorem Fj (c:Int) (ls:List (List Int)) (sum:Int) (gv:List Int) (s:St) (h:bM c ls sum s) (r:ByteArray) (y x k:Int) (hk:0≤k∧k<ls.length) (hx:1≤x∧x≤c):
 aG Tryz.prog 175 [bdV c ls sum gv s,ddV r y x k] (.bp (Ab s sum (ls.getD k.toNat []) y x)):=by
 obtain⟨o,hO⟩:∃o,opn s (ls.getD k.toNat []) y=o:=⟨_,rfl⟩
 obtain⟨R,hR⟩:∃R,rst s sum (ls.getD k.toNat [])=R:=⟨_,rfl⟩
 have hlen:=dJ s.cs
 have hc:=h.c1
 have hcl:=h.cl
 have hln:=h.ln k.toNat (by omega)
 have hll:=hln.len
 have hsm:=h.sm
 have hRb:=EX h hln.rng _ (Nat.le_refl _)
 rw[List.take_length,hR]at hRb
 have ho:∀z∈o,0≤z∧z<c:=fun z hz=>hln.rng z (by rw[←hO]at hz;exact Jj hz)
 have hol:o.length≤16:=by rw[←hO];exact Nat.le_trans (List.length_filter_le _ _) hll
 unfold Ab
 rw[hO,hR]
 refine av (md:=1) (rf:=[]) mixed ak nP Tryz.func175 (by rfl) (by rfl) (by rfl) ?_
 repeat'((conv=>whnf);first|apply Exists.intro (s)|(intro hq;(try simp only[vw]at hq);try first|exact absurd hq (by decide)|exfalso;omega)|apply aI|with_reducible exact vM rfl|exact⟨⟩|apply nM|apply fM)
 all_goals((try apply vM);(try simp only[vq]at*);try omega)
 ·exact⟨h,hk⟩
 rw[hO,hR]
 conv=>whnf
 refine aM (X:=Nat) (fun i=>i≤o.length∧∀z∈o.take i,s.cd z.toNat≠[]) (fun i=>[(25,.int .i64 i),(7,.int .i64 (pR s (o.take i))),(8,.int .i64 (pU s (o.take i)))]) (fun i=>[]) (fun i=>o.length-i) 0 ⟨aK,mixed,ak,nP,aQ⟩ (by rfl) ⟨by omega,by simp⟩ ?_ ?_
 ·repeat'((conv=>whnf);first|intro _|apply aI|with_reducible exact vM rfl|exact⟨⟩|apply nM|apply fM)
  all_goals((try apply vM);(try simp only[vq]at*);try omega)
  all_goals rfl
 intro i ⟨hi,hok⟩
 have hoi:∀z∈o.take i,0≤z∧z<c:=fun z hz=>ho z (List.mem_of_mem_take hz)
 have b1:0≤pR s (o.take i)∧pR s (o.take i)≤16*i:=by
  have:=Jk h hd0 (fun _=>.inl rfl) hoi hok (o.take i).length (Nat.le_refl _)
  rw[List.take_length,show(o.take i).length=i by rw[List.length_take];omega]at this
  exact this
 have b2:0≤pU s (o.take i)∧pU s (o.take i)≤16*i:=by
  have:=Jk h ls0 (fun _=>.inr rfl) hoi hok (o.take i).length (Nat.le_refl _)
  rw[List.take_length,show(o.take i).length=i by rw[List.length_take];omega]at this
  exact this
 by_cases hlt:i<o.length
 ·have hy:=ho _ (bV hlt)
  have hxs:=h.at hy
  have hm:(ms s.cs).getD (o.getD i 0).toNat 0=(mk (s.cd (o.getD i 0).toNat):Nat):=eY hxs.1
  have hA:=(h.asc _ hxs.1).1
  have hr:=oC hA
  have t1:=cZ hlt
  have e1:pR s (o.take (i+1))=pR s (o.take i)+hd0 (s.cd (o.getD i 0).toNat):=by rw[t1];unfold pR;rw[List.foldl_append];rfl
  have e2:pU s (o.take (i+1))=pU s (o.take i)+ls0 (s.cd (o.getD i 0).toNat):=by rw[t1];unfold pU;rw[List.foldl_append];rfl
  have hne:s.cd (o.getD i 0).toNat≠[]→1≤(s.cd (o.getD i 0).toNat).length:=fun h0=>by
   rcases Nat.eq_zero_or_pos (s.cd (o.getD i 0).toNat).length with h1|h1
   ·exact absurd (List.length_eq_zero_iff.1 h1) h0
   ·exact h1
  have hz:(mk (s.cd (o.getD i 0).toNat):Int)=0↔s.cd (o.getD i 0).toNat=[]:=by rw[←mk_zero hA.inM];omega
  repeat'((conv=>whnf);first|apply Exists.intro (s)|(intro hq;(try simp only[vw]at hq);try first|exact absurd hq (by decide)|exfalso;omega)|apply aI|with_reducible exact vM rfl|exact⟨⟩|apply nM|apply fM)
  all_goals((try apply vM);(try simp only[vq]at*);try omega)
  all_goals(try rw[hm]at hq)
  all_goals(try rw[hm])
  ·have:(o.any fun y=>decide (s.cd y.toNat=[]))=true:=List.any_eq_true.2 ⟨_,bV hlt,by rw[decide_eq_true_eq];exact hz.1 hq⟩
   rw[this,Bool.true_or];all_goals(refine Sup.via ?_;repeat'((conv=>whnf);first|intro _|apply aI|with_reducible exact vM rfl|exact⟨⟩|apply nM|apply fM);all_goals((try apply vM);(try simp only[vq]at*);try omega);all_goals(try(simp[CL.sub];done)))
  all_goals(have h1:=hne (fun h0=>hq (hz.2 h0));have q1:=Ji hA h1;have q2:=X4 hA h1;have q3:=hA.rng _ (vO h1);have q4:=hA.rng _ (qx h1))
  all_goals(try(first|omega|(rw[hm];omega)))
  refine⟨i+1,[],⟨⟨by omega,fun z hz2=>?_⟩,by omega⟩,?_⟩
  ·rw[t1]at hz2
   rcases List.mem_append.1 hz2 with h2|h2
   ·exact hok z h2
   ·rw[List.mem_singleton.1 h2];exact fun h0=>hq (hz.2 h0)
  ·rw[e1,e2]
   repeat'((conv=>whnf);first|intro _|apply aI|with_reducible exact vM rfl|exact⟨⟩|apply nM|apply fM)
   all_goals((try apply vM);(try simp only[vq]at*);try omega)
   all_goals(try rw[hm])
   all_goals(try omega)
 ·have:i=o.length:=by omega
  subst this
  rw[List.take_length]at*
  have hn:(o.any fun y=>decide (s.cd y.toNat=[]))=false:=by
   rw[List.any_eq_false]
   intro z hz h0
   exact hok z hz (of_decide_eq_true h0)
  rw[hn,Bool.false_or]
  repeat'((conv=>whnf);first|apply Exists.intro (s)|(intro hq;(try simp only[vw]at hq);try first|exact absurd hq (by decide)|exfalso;omega)|apply aI|with_reducible exact vM rfl|exact⟨⟩|apply nM|apply fM)
  all_goals((try apply vM);(try simp only[vq]at*);try omega)
  all_goals(try omega)
  ·rename_i h9
   rw[decide_eq_false hq,Bool.false_or];exact Sup.of rfl
  ·rw[decide_eq_true hq,Bool.true_or];all_goals(refine Sup.via ?_;repeat'((conv=>whnf);first|intro _|apply aI|with_reducible exact vM rfl|exact⟨⟩|apply nM|apply fM);all_goals((try apply vM);(try simp only[vq]at*);try omega);all_goals(try(simp[CL.sub];done)))
def mO (f:St→Int→List Int→Int→Int→Bool):PSp:=fun xs K=>match xs with
 | [.ip (.pv [.int .i64 c,.isl (.rows .i64 ls) .none,.int .i64 sum,.isl (.ints .i64 gv) .none,.isl (.ints .u32 M) .none,.isl (.bools D) .none]) 0,.agg [.str r,.int .i64 y,.int .i64 x,.int .i64 k]]=>∃s:St,VC (M=ms s.cs∧D=s.ds∧bM c ls sum s∧(0≤k∧k<ls.length)∧(0≤y∧y<c)∧1≤x∧x≤c)∧K (.bp (f s sum (ls.getD k.toNat []) y x))
 |_=>False
def qA (f:St→Int→Int→Bool):PSp:=fun xs K=>match xs with
 | [.ip (.pv [.int .i64 c,.isl (.rows .i64 ls) .none,.int .i64 sum,.isl (.ints .i64 gv) .none,.isl (.ints .u32 M) .none,.isl (.bools D) .none]) 0,.agg [.str r,.int .i64 y,.int .i64 x,.int .i64 k]]=>∃s:St,VC (M=ms s.cs∧D=s.ds∧bM c ls sum s∧(0≤y∧y<c)∧1≤x∧x≤c)∧K (.bp (f s y x))
 |_=>False
theorem xO {g:Nat} {f:St→Int→List Int→Int→Int→Bool} (hf:∀(c:Int) (ls:List (List Int)) (sum:Int) (gv:List Int) (s:St) (h:bM c ls sum s) (r:ByteArray) (y x k:Int) (hk:0≤k∧k<ls.length) (hy:0≤y∧y<c) (hx:1≤x∧x≤c),aG Tryz.prog g [bdV c ls sum gv s,ddV r y x k] (.bp (f s sum (ls.getD k.toNat []) y x))):POK Tryz.prog g (mO f):=by
 intro xs K hk
 unfold mO at hk
 split at hk
 ·obtain⟨s,⟨rfl,rfl,h,h1,h2,h3⟩,hk⟩:=hk
  exact⟨_,hk,hf _ _ _ _ s h _ _ _ _ h1 h2 h3⟩
 ·exact hk.elim
theorem Fp {g:Nat} {f:St→Int→Int→Bool} (hf:∀(c:Int) (ls:List (List Int)) (sum:Int) (gv:List Int) (s:St) (h:bM c ls sum s) (r:ByteArray) (y x k:Int) (hy:0≤y∧y<c) (hx:1≤x∧x≤c),aG Tryz.prog g [bdV c ls sum gv s,ddV r y x k] (.bp (f s y x))):POK Tryz.prog g (qA f):=by
 intro xs K hk
 unfold qA at hk
 split at hk
 ·obtain⟨s,⟨rfl,rfl,h,h2,h3⟩,hk⟩:=hk
  exact⟨_,hk,hf _ _ _ _ s h _ _ _ _ h2 h3⟩
 ·exact hk.elim
theorem X5:POK Tryz.prog 172 (mO z8):=xO fun c ls sum gv s h r y x k hk hy hx=>OZ c ls sum gv s h r y x k hk
theorem X6:POK Tryz.prog 173 (qA fun s y x=>Aa s y):=Fp fun c ls sum gv s h r y x k hy hx=>O1 c ls sum gv s h r y x k hy
theorem RF:POK Tryz.prog 174 (qA rO):=Fp fun c ls sum gv s h r y x k hy hx=>Md c ls sum gv s h r y x k hx
theorem Me:POK Tryz.prog 175 (mO Ab):=xO fun c ls sum gv s h r y x k hk hy hx=>Fj c ls sum gv s h r y x k hk hx
abbrev Vk:PV:=.fn (.func 212) [] [.rp 0 0,.rp 1 0,.rp 2 0]
abbrev aaQ (c:Int) (ls:List (List Int)) (sum:Int) (gv:List Int) (s:St) (o:List Int):List AO:=[.cells (.pv [.isl (.ints .i64 o) .none]) false,.cells (.pv [bdV c ls sum gv s]) false,.cells (.pv [Vk]) false]
structure Vl (c:Int) (ls:List (List Int)) (sum:Int) (s:St) (o:List Int) (a:Nat) (used:List Int) (R:Int):Prop where
 bd:bM c ls sum s
 rng:∀z∈o,0≤z∧z<c
 le:a≤o.length∧o.length≤16
 us:InM used
 bnd: -2000000000+16*((o.length:Int)-a)≤R∧R≤2000000000
def Am (c:Int) (ls:List (List Int)) (sum:Int) (gv:List Int) (s:St) (o:List Int) (a0:Nat):LSp:=fun xs objs K=>match xs,objs with
 | [.int .i64 a,.int .u32 m,.int .i64 R,.rp 0 0,.rp 1 0,.rp 2 0],[.cells (.pv [.isl (.ints .i64 o') .none]) false,.cells (.pv [p]) false,.cells (.pv [f]) false]=>
  ∃used:List Int,VC (a=(a0:Int)∧m=(mk used:Nat)∧o'=o∧p=bdV c ls sum gv s∧f=Vk∧Vl c ls sum s o a0 used R)∧K [.bp (chs s (o.drop a0) used R)] [.cells (.pv [.isl (.ints .i64 o') .none]) false,.cells (.pv [p]) false,.cells (.pv [f]) false]
 |_,_=>False
noncomputable def abW (L:LSp):CPT:=aA 149 (aB zm) (aA 212 (eT [] L) noC)
theorem O4 (c:Int) (ls:List (List Int)) (sum:Int) (gv:List Int) (s:St) (o:List Int):∀(d a:Nat) (used:List Int) (R:Int),o.length-a=d→Vl c ls sum s o a used R→
 jM Tryz.prog 212 [.int .i64 (a:Int),.int .u32 (mk used:Nat),.int .i64 R,.rp 0 0,.rp 1 0,.rp 2 0] (aaQ c ls sum gv s o) [.bp (chs s (o.drop a) used R)] (aaQ c ls sum gv s o):=by
 intro d
 induction d with
 |zero=>
  intro a used R hd h
  have hle:=h.le
  have:a=o.length:=by omega
  subst this
  rw[List.drop_length]
  refine bJ (md:=1) (rf:=[]) mixed ak aD 3 [] Tryz.func212 (by rfl) (by rfl) (by rfl) ?_
  repeat'((conv=>whnf);first|(intro hq;(try simp only[vw]at hq);try first|exact absurd hq (by decide)|exfalso;omega)|apply aI|with_reducible exact vM rfl|exact⟨⟩|apply nM|apply fM)
  all_goals((try apply vM);(try simp only[vq]at*);try omega)
 |succ d ih=>
  intro a used R hd h
  have hle:=h.le
  have hlt:a<o.length:=by omega
  have hL:LOK Tryz.prog 212 (Am c ls sum gv s o (a+1)):=by
   intro xs objs K hk
   unfold Am at hk
   split at hk
   ·obtain⟨u,⟨rfl,rfl,rfl,rfl,rfl,h1⟩,hk⟩:=hk
    exact⟨_,_,hk,ih (a+1) u _ (by omega) h1⟩
   ·exact hk.elim
  have hcp:aY Tryz.prog (abW (Am c ls sum gv s o (a+1))):=aj (au Ai) (aj (dI [] hL) aD)
  have hbd:=h.bnd
  have hy:=h.rng _ (bV hlt)
  have hxs:=h.bd.at hy
  have hm:(ms s.cs).getD (o.getD a 0).toNat 0=(mk (s.cd (o.getD a 0).toNat):Nat):=eY hxs.1
  have hA:=(h.bd.asc _ hxs.1).1
  have hlen:=dJ s.cs
  obtain⟨C,hC⟩:∃C,(s.cd (o.getD a 0).toNat).filter (fun x=>!decide (x∈used))=C:=⟨_,rfl⟩
  have hCA:Asc C:=by rw[←hC];exact hA.filter _
  have hnot:=Ot hA.inM h.us
  rw[hC]at hnot
  have hch:chs s (o.drop a) used R=C.any fun x=>chs s (o.drop (a+1)) (used++[x]) (R-x):=by rw[drop_cons hlt,chs,hC]
  rw[hch]
  refine bJ (md:=1) (rf:=[]) mixed ak hcp 3 [] Tryz.func212 (by rfl) (by rfl) (by rfl) ?_
  repeat'((conv=>whnf);first|(intro hq;(try simp only[vw]at hq);try first|exact absurd hq (by decide)|exfalso;omega)|apply aI|with_reducible exact vM rfl|exact⟨⟩|apply nM|apply fM)
  all_goals((try apply vM);(try simp only[vq]at*);try omega)
  all_goals(try omega)
  rw[hm,hnot]
  conv=>whnf
  refine iG aK mixed ak hcp (fun r=>aQ) (fs:=[]) (cs:=[.ip (.pv [.int .u32 (mk C:Nat)]) 0]) (C.map (PV.int .i64)) (fun i=>!chs s (o.drop (a+1)) (used++[C.getD i 0]) (R-C.getD i 0)) (fun i=>[]) (by rfl) (by rfl) (by rfl) (jB C hCA) (by rfl) (by rfl) (by rfl) (by rfl) ?_ ?_ ?_
  ·repeat'((conv=>whnf);first|intro _|apply aI|with_reducible exact vM rfl|exact⟨⟩|apply nM|apply fM)
   all_goals((try apply vM);(try simp only[vq]at*);try omega)
  ·intro hall
   repeat'((conv=>whnf);first|intro _|apply aI|with_reducible exact vM rfl|exact⟨⟩|apply nM|apply fM)
   all_goals((try apply vM);(try simp only[vq]at*);try omega)
   rw[eq_comm,List.any_eq_false]
   intro x hx h1
   obtain⟨i,hi,rfl⟩:=(dP C x).1 hx
   have:=hall i (by rw[List.length_map];exact hi)
   rw[h1]at this
   cases this
  ·intro i x hx hall lp
   obtain⟨hi,rfl⟩:=nN hx
   have hxC:=bV hi
   have hxr:=hCA.rng _ hxC
   have hor:=Li h.us (show 0≤C.getD i 0∧C.getD i 0≤31 by omega)
   have hus:InM (used++[C.getD i 0]):=fun z hz=>by
    rcases List.mem_append.1 hz with h1|h1
    ·exact h.us z h1
    ·rw[List.mem_singleton.1 h1];omega
   have hsb:=kr (C.getD i 0).toNat (by omega)
   repeat'((conv=>whnf);first|apply Exists.intro (used++[C.getD i 0])|(intro hq;(try simp only[vw]at hq);try first|exact absurd hq (by decide)|exfalso;omega)|apply aI|with_reducible exact vM rfl|exact⟨⟩|apply nM|apply fM)
   all_goals((try apply vM);(try simp only[vq]at*);try omega)
   all_goals(try omega)
   ·exact⟨by omega,hor,h.bd,h.rng,by omega,hus,by omega⟩
   ·rw[hq];rfl
   ·symm
    rw[List.any_eq_true]
    exact⟨_,hxC,hq⟩
   ·refine⟨[],?_⟩
    repeat'((conv=>whnf);first|intro _|apply aI|with_reducible exact vM rfl|exact⟨⟩|apply nM|apply fM)
    all_goals((try apply vM);(try simp only[vq]at*);try omega)
    all_goals(try(rw[hq];rfl))
theorem aaR (c:Int) (ls:List (List Int)) (sum:Int) (gv:List Int) (s:St) (o:List Int) (a:Nat):LOK Tryz.prog 212 (Am c ls sum gv s o a):=by
 intro xs objs K hk
 unfold Am at hk
 split at hk
 ·obtain⟨u,⟨rfl,rfl,rfl,rfl,rfl,h1⟩,hk⟩:=hk
  exact⟨_,_,hk,O4 _ _ _ _ _ _ _ _ u _ rfl h1⟩
 ·exact hk.elim
theorem zy (c:Int) (ls:List (List Int)) (sum:Int) (gv:List Int) (s:St) (h:bM c ls sum s) (r:ByteArray) (y x k:Int) (hk:0≤k∧k<ls.length) (hx:1≤x∧x≤c):
 aG Tryz.prog 176 [bdV c ls sum gv s,ddV r y x k] (.bp (Ac s sum (ls.getD k.toNat []) y x)):=by
 have hln:=h.ln k.toNat (by omega)
 have hll:=hln.len
 have hsm:=h.sm
 have hc:=h.c1
 have hRb:=EX h hln.rng _ (Nat.le_refl _)
 rw[List.take_length]at hRb
 have ho:∀z∈(opn s (ls.getD k.toNat []) y),0≤z∧z<c:=fun z hz=>hln.rng z (Jj hz)
 have hol:(opn s (ls.getD k.toNat []) y).length≤16:=Nat.le_trans (List.length_filter_le _ _) hll
 have hone:(1:Int)*2 ^ x.toNat=((mk [x]:Nat):Int):=by rw[mk_one,Int.one_mul];norm_cast
 have hsb:=kr x.toNat (by omega)
 have hcp:aY Tryz.prog (aA 151 (aB zx) (aA 212 (eT [] (Am c ls sum gv s (opn s (ls.getD k.toNat []) y) 0)) noC)):=aj (au Al) (aj (dI [] (aaR c ls sum gv s (opn s (ls.getD k.toNat []) y) 0)) aD)
 unfold Ac
 refine av (md:=1) (rf:=[20]) mixed ak hcp Tryz.func176 (by rfl) (by rfl) (by rfl) ?_
 repeat'((conv=>whnf);first|apply Exists.intro (s)|(intro hq;(try simp only[vw]at hq);try first|exact absurd hq (by decide)|exfalso;omega)|apply aI|with_reducible exact vM rfl|exact⟨⟩|apply nM|apply fM)
 all_goals((try apply vM);(try simp only[vq]at*);try omega)
 ·exact⟨h,hk⟩
 ·rw[decide_eq_false (p:=(opn s (ls.getD k.toNat []) y).length<4) (by omega),Bool.false_and];all_goals(refine Sup.via ?_;repeat'((conv=>whnf);first|intro _|apply aI|with_reducible exact vM rfl|exact⟨⟩|apply nM|apply fM);all_goals((try apply vM);(try simp only[vq]at*);try omega);all_goals(try(simp[CL.sub];done)))
 all_goals(try omega)
 repeat'((conv=>whnf);first|apply Exists.intro ([x])|(intro hq;(try simp only[vw]at hq);try first|exact absurd hq (by decide)|exfalso;omega)|apply aI|with_reducible exact vM rfl|exact⟨⟩|apply nM|apply fM)
 all_goals((try apply vM);(try simp only[vq]at*);try omega)
 ·refine⟨rfl,hone,h,ho,by omega,fun z hz=>?_,by omega⟩
  rw[List.mem_singleton.1 hz];omega
 ·rw[decide_eq_true (p:=(opn s (ls.getD k.toNat []) y).length<4) (by omega),Bool.true_and];exact Sup.of rfl
theorem CO:POK Tryz.prog 176 (mO Ac):=xO fun c ls sum gv s h r y x k hk hy hx=>zy c ls sum gv s h r y x k hk hx
theorem gJ (b:Bool):Sup (bF [PV.bool b]) (PV.bp b):=⟨fun h=>by cases h;exact .bp _ _⟩
noncomputable def acT:CPT:=aA 150 (aB LB) (aA 151 (aB zx) noC)
theorem Ao:aY Tryz.prog acT:=aj (au XK) (aj (au Al) aD)
theorem O5 (cs:List (List Int)) (i:Nat) (hi:i<cs.length):(cs.take (i+1)).flatten=(cs.take i).flatten++cs.getD i []:=by
 have e:cs.take (i+1)=cs.take i++[cs.getD i []]:=by rw[List.take_add_one,List.getD_eq_getElem?_getD,List.getElem?_eq_getElem hi];rfl
 rw[e,List.flatten_append];simp
theorem xP {c:Int} (hc:1≤c∧c≤16):(1:Int)*2 ^ (c+1).toNat-2=(mk ((List.range c.toNat).map fun i:Nat=>(i:Int)+1):Nat):=by
 obtain rfl|rfl|rfl|rfl|rfl|rfl|rfl|rfl|rfl|rfl|rfl|rfl|rfl|rfl|rfl|rfl:c=1∨c=2∨c=3∨c=4∨c=5∨c=6∨c=7∨c=8∨c=9∨c=10∨c=11∨c=12∨c=13∨c=14∨c=15∨c=16:=by omega
 all_goals decide
theorem X7 {c:Int} {ls:List (List Int)} {sum:Int} {s:St} (h:bM c ls sum s):((List.range c.toNat).all fun i=>s.cs.any fun l=>decide (((i:Int)+1)∈l))=decide ((mk s.cs.flatten:Int)=1*2 ^ (c+1).toNat-2):=by
 have hc:=h.c1
 have hfl:∀x∈s.cs.flatten,1≤x∧x≤c:=fun x hx=>by
  obtain⟨l,hl,hx⟩:=List.mem_flatten.1 hx
  obtain⟨j,hj,rfl⟩:=List.getElem_of_mem hl
  have h1:=h.asc j hj
  have e:s.cd j=s.cs[j]:=by unfold St.cd;rw[List.getD_eq_getElem?_getD,List.getElem?_eq_getElem hj];rfl
  rw[e]at h1
  exact⟨(h1.1.rng x hx).1,h1.2 x hx⟩
 have hR:∀x,x∈(List.range c.toNat).map (fun i:Nat=>(i:Int)+1)↔1≤x∧x≤c:=fun x=>by
  rw[List.mem_map]
  constructor
  ·rintro⟨i,hi,rfl⟩;have:=List.mem_range.1 hi;omega
  ·intro hx;exact⟨(x-1).toNat,List.mem_range.2 (by omega),by omega⟩
 rw[xP hc,Bool.eq_iff_iff,List.all_eq_true,decide_eq_true_eq,Int.natCast_inj]
 constructor
 ·intro hA
  refine aaF (fun x hx=>by have:=hfl x hx;omega) (fun x hx=>by have:=(hR x).1 hx;omega) fun x=>?_
  rw[hR]
  refine⟨hfl x,fun hx=>?_⟩
  have:=hA (x-1).toNat (List.mem_range.2 (by omega))
  obtain⟨l,hl,hm⟩:=List.any_eq_true.1 this
  rw[decide_eq_true_eq,show(((x-1).toNat:Nat):Int)+1=x by omega]at hm
  exact List.mem_flatten.2 ⟨l,hl,hm⟩
 ·intro hE i hi
  have hi:=List.mem_range.1 hi
  have:=(mk_inj (fun x hx=>by have:=hfl x hx;omega) (fun x hx=>by have:=(hR x).1 hx;omega) hE ((i:Int)+1)).2 ((hR _).2 (by omega))
  obtain⟨l,hl,hm⟩:=List.mem_flatten.1 this
  exact List.any_eq_true.2 ⟨l,hl,decide_eq_true hm⟩
theorem X8 {c:Int} {ls:List (List Int)} {sum:Int} {s:St} (h:bM c ls sum s):((ms s.cs).any fun y=>decide (0=y))=s.cs.any fun l=>decide (l=[]):=by
 unfold ms
 rw[List.any_map,Bool.eq_iff_iff,List.any_eq_true,List.any_eq_true]
 have hA:∀l∈s.cs,Asc l:=fun l hl=>by
  obtain⟨j,hj,rfl⟩:=List.getElem_of_mem hl
  have h1:=(h.asc j hj).1
  unfold St.cd at h1;rw[List.getD_eq_getElem?_getD,List.getElem?_eq_getElem hj]at h1;exact h1
 constructor
 ·rintro⟨l,hl,h1⟩
  simp only[Function.comp,decide_eq_true_eq]at h1
  exact⟨l,hl,decide_eq_true ((mk_zero (hA l hl).inM).1 (by omega))⟩
 ·rintro⟨l,hl,h1⟩
  refine⟨l,hl,?_⟩
  simp only[Function.comp,decide_eq_true_eq]at h1⊢
  have:=(mk_zero (hA l hl).inM).2 h1
  omega
def lbk (sum:Int) (s:St) (l:List Int):Bool:=decide ((opn s l (-1)).length=0)&&decide (rst s sum l≠0)
theorem H8 (c:Int) (ls:List (List Int)) (sum:Int) (gv:List Int) (s:St) (h:bM c ls sum s):aG Tryz.prog 90 [bdV c ls sum gv s] (.bp (brk c ls sum s)):=by
 have hc:=h.c1
 have hcl:=h.cl
 have hlen:=dJ s.cs
 have hll:=h.ll
 have hsb:=kr (c+1).toNat (by omega)
 have ham:=xP hc
 have hin:∀i,i≤s.cs.length→InM (s.cs.take i).flatten:=fun i hi x hx=>by
  obtain⟨l,hl,hx⟩:=List.mem_flatten.1 hx
  obtain⟨j,hj,rfl⟩:=List.getElem_of_mem (List.mem_of_mem_take hl)
  have:=(h.asc j hj).1.rng x (by unfold St.cd;rw[List.getD_eq_getElem?_getD,List.getElem?_eq_getElem hj];exact hx)
  omega
 refine av (md:=1) (rf:=[]) mixed ak Ao Tryz.func90 (by rfl) (by rfl) (by rfl) ?_
 repeat'((conv=>whnf);first|apply Exists.intro (s)|(intro hq;(try simp only[vw]at hq);try first|exact absurd hq (by decide)|exfalso;omega)|apply aI|with_reducible exact vM rfl|exact⟨⟩|apply nM|apply fM)
 all_goals((try apply vM);(try simp only[vq]at*);try omega)
 conv=>whnf
 refine aM (X:=Nat) (fun i=>i≤s.cs.length) (fun i=>[(14,.int .i64 i),(3,.int .u32 (mk (s.cs.take i).flatten:Nat))]) (fun i=>[]) (fun i=>s.cs.length-i) 0 ⟨aK,mixed,ak,Ao,aQ⟩ (by rfl) (by omega) ?_ ?_
 ·repeat'((conv=>whnf);first|intro _|apply aI|with_reducible exact vM rfl|exact⟨⟩|apply nM|apply fM)
  all_goals((try apply vM);(try simp only[vq]at*);try omega)
  all_goals rfl
 intro i hi
 by_cases hlt:i<s.cs.length
 ·have hm:(ms s.cs).getD i 0=(mk (s.cd i):Nat):=eY hlt
  have hA:=(h.asc _ hlt).1
  have hor:=aaH (hin i hi) hA.inM
  have e1:=O5 s.cs i hlt
  repeat'((conv=>whnf);first|apply Exists.intro (s)|(intro hq;(try simp only[vw]at hq);try first|exact absurd hq (by decide)|exfalso;omega)|apply aI|with_reducible exact vM rfl|exact⟨⟩|apply nM|apply fM)
  all_goals((try apply vM);(try simp only[vq]at*);try omega)
  refine⟨i+1,[],⟨by omega,by omega⟩,?_⟩
  rw[e1]
  repeat'((conv=>whnf);first|intro _|apply aI|with_reducible exact vM rfl|exact⟨⟩|apply nM|apply fM)
  all_goals((try apply vM);(try simp only[vq]at*);try omega)
  all_goals(rw[hm];exact hor)
 ·have:i=s.cs.length:=by omega
  subst this
  rw[List.take_length]
  have a1:=X7 h
  have a2:=X8 h
  repeat'((conv=>whnf);first|apply Exists.intro (s)|(intro hq;(try simp only[vw]at hq);try first|exact absurd hq (by decide)|exfalso;omega)|apply aI|with_reducible exact vM rfl|exact⟨⟩|apply nM|apply fM)
  all_goals((try apply vM);(try simp only[vq]at*);try omega)
  all_goals(try omega)
  ·rename_i h1
   rw[decide_eq_true (Classical.not_not.1 h1)]at a1
   rw[hq]at a2
   have hb:brk c ls sum s=true:=by unfold brk;rw[a1,←a2];rfl
   rw[hb];exact gJ _
  ·rename_i h1
   rw[decide_eq_true (Classical.not_not.1 h1)]at a1
   rw[hq]at a2
   have hb:brk c ls sum s=ls.any (lbk sum s):=by
    unfold brk
    rw[a1,←a2]
    rfl
   rw[hb]
   conv=>whnf
   refine aM (X:=Nat) (fun i=>i≤ls.length∧∀j,j<i→lbk sum s (ls.getD j [])=false) (fun i=>[(47,.int .i64 i)]) (fun i=>[]) (fun i=>ls.length-i) 0 ⟨aK,mixed,ak,Ao,aQ⟩ (by rfl) ⟨by omega,fun j hj=>by omega⟩ ?_ ?_
   ·repeat'((conv=>whnf);first|intro _|apply aI|with_reducible exact vM rfl|exact⟨⟩|apply nM|apply fM)
    all_goals((try apply vM);(try simp only[vq]at*);try omega)
   intro i ⟨hi,hok⟩
   have nxt:lbk sum s (ls.getD i [])=false→∀j,j<i+1→lbk sum s (ls.getD j [])=false:=fun a j hj=>by
    by_cases e:j=i
    ·subst e;exact a
    ·exact hok j (by omega)
   by_cases hlt:i<ls.length
   ·repeat'((conv=>whnf);first|apply Exists.intro (s)|(intro hq;(try simp only[vw]at hq);try first|exact absurd hq (by decide)|exfalso;omega)|apply aI|with_reducible exact vM rfl|exact⟨⟩|apply nM|apply fM)
    all_goals((try apply vM);(try simp only[vq]at*);try omega)
    ·exact⟨h,by omega,by omega⟩
    ·rename_i h2
     have:ls.any (lbk sum s)=true:=List.any_eq_true.2 ⟨_,kM hlt,by unfold lbk;rw[decide_eq_true (p:=(opn s (ls.getD i []) (-1)).length=0) (by omega),decide_eq_true hq];rfl⟩
     rw[this];exact gJ _
    ·refine⟨i+1,[],⟨⟨by omega,nxt (by unfold lbk;rw[decide_eq_false hq,Bool.and_false])⟩,by omega⟩,?_⟩
     repeat'((conv=>whnf);first|intro _|apply aI|with_reducible exact vM rfl|exact⟨⟩|apply nM|apply fM)
     all_goals((try apply vM);(try simp only[vq]at*);try omega)
    ·refine⟨i+1,[],⟨⟨by omega,nxt (by unfold lbk;rw[decide_eq_false (p:=(opn s (ls.getD i []) (-1)).length=0) (by omega),Bool.false_and])⟩,by omega⟩,?_⟩
     repeat'((conv=>whnf);first|intro _|apply aI|with_reducible exact vM rfl|exact⟨⟩|apply nM|apply fM)
     all_goals((try apply vM);(try simp only[vq]at*);try omega)
   ·have:i=ls.length:=by omega
    subst this
    have:ls.any (lbk sum s)=false:=by
     rw[List.any_eq_false]
     intro l hl
     obtain⟨j,hj,rfl⟩:=List.getElem_of_mem hl
     have:=hok j hj
     rw[List.getD_eq_getElem?_getD,List.getElem?_eq_getElem hj]at this
     rw[show lbk sum s ls[j]=false from this];simp
    rw[this]
    repeat'((conv=>whnf);first|apply Exists.intro (s)|(intro hq;(try simp only[vw]at hq);try first|exact absurd hq (by decide)|exfalso;omega)|apply aI|with_reducible exact vM rfl|exact⟨⟩|apply nM|apply fM)
    all_goals((try apply vM);(try simp only[vq]at*);try omega)
    exact gJ _
  ·rw[decide_eq_false hq]at a1
   have hb:brk c ls sum s=true:=by unfold brk;rw[a1];rfl
   rw[hb];exact gJ _
def pE (f:Int→List (List Int)→Int→St→Bool):PSp:=fun xs K=>match xs with
 | [.ip (.pv [.int .i64 c,.isl (.rows .i64 ls) .none,.int .i64 sum,.isl (.ints .i64 gv) .none,.isl (.ints .u32 M) .none,.isl (.bools D) .none]) 0]=>∃s:St,VC (M=ms s.cs∧D=s.ds∧bM c ls sum s)∧K (.bp (f c ls sum s))
 |_=>False
theorem Jl {g:Nat} {f:Int→List (List Int)→Int→St→Bool} (hf:∀(c:Int) (ls:List (List Int)) (sum:Int) (gv:List Int) (s:St) (h:bM c ls sum s),aG Tryz.prog g [bdV c ls sum gv s] (.bp (f c ls sum s))):POK Tryz.prog g (pE f):=by
 intro xs K hk
 unfold pE at hk
 split at hk
 ·obtain⟨s,⟨rfl,rfl,h⟩,hk⟩:=hk
  exact⟨_,hk,hf _ _ _ _ s h⟩
 ·exact hk.elim
theorem BZ:POK Tryz.prog 90 (pE brk):=Jl fun c ls sum gv s h=>H8 c ls sum gv s h
noncomputable def acU:CPT:=aA 152 (aB Lu) noC
theorem X9:aY Tryz.prog acU:=aj (au XF) aD
theorem O6 (c:Int) (ls:List (List Int)) (sum:Int) (gv:List Int) (s:St) (h:bM c ls sum s):aG Tryz.prog 91 [bdV c ls sum gv s] (.bp (don s)):=by
 have hc:=h.c1
 have hdl:=h.dl
 unfold don
 refine av (md:=1) (rf:=[]) mixed ak X9 Tryz.func91 (by rfl) (by rfl) (by rfl) ?_
 repeat'((conv=>whnf);first|apply Exists.intro (s)|(intro hq;(try simp only[vw]at hq);try first|exact absurd hq (by decide)|exfalso;omega)|apply aI|with_reducible exact vM rfl|exact⟨⟩|apply nM|apply fM)
 all_goals((try apply vM);(try simp only[vq]at*);try omega)
 exact Sup.of (congrArg (fun f=>PV.bp (!s.ds.any f)) (funext fun b=>by cases b<;>rfl))
theorem Jm:POK Tryz.prog 91 (pE fun _ _ _ s=>don s):=Jl fun c ls sum gv s h=>O6 c ls sum gv s h
theorem O7 (l:List Bool) (hl:1≤l.length∧l.length≤1000000):aG Tryz.prog 147 [.isl (.bools l) .none] (.isl (.bools l) .none):=by
 refine av (md:=1) (rf:=[]) mixed ak aD Tryz.func147 (by rfl) (by rfl) (by rfl) ?_
 repeat'((conv=>whnf);first|intro _|apply aI|with_reducible exact vM rfl|exact⟨⟩|apply nM|apply fM)
 all_goals((try apply vM);(try simp only[vq]at*);try omega)
 all_goals first|(simp;omega)|exact Sup.of rfl
def Mf:PSp:=fun xs K=>match xs with
 | [.isl (.bools l) .none]=>VC (1≤l.length∧l.length≤1000000)∧K (.isl (.bools l) .none)
 |_=>False
theorem Ya:POK Tryz.prog 147 Mf:=by
 intro xs K h
 unfold Mf at h
 split at h
 ·exact⟨_,h.2,O7 _ h.1.get⟩
 ·exact h.elim
noncomputable def acV:CPT:=aA 147 (aB Mf) (aA 148 (aB Lx) (aA 149 (aB zm) noC))
theorem Jo:aY Tryz.prog acV:=aj (au Ya) (aj (au XH) (aj (au Ai) aD))
abbrev stV (s:St):PV:=.agg [.isl (.rows .i64 s.cs) .none,.isl (.bools s.ds) .none]
theorem Mg (c:Int) (ls:List (List Int)) (sum:Int) (gv:List Int) (s:St) (h:bM c ls sum s):aG Tryz.prog 87 [bdV c ls sum gv s] (stV s):=by
 have hc:=h.c1
 have hcl:=h.cl
 have hdl:=h.dl
 have hlen:=dJ s.cs
 refine av (md:=1) (rf:=[]) mixed ak Jo Tryz.func87 (by rfl) (by rfl) (by rfl) ?_
 repeat'((conv=>whnf);first|intro _|apply aI|with_reducible exact vM rfl|exact⟨⟩|apply nM|apply fM)
 all_goals((try apply vM);(try simp only[vq]at*);try omega)
 conv=>whnf
 refine aM (X:=Nat) (fun i=>i≤s.cs.length) (fun i=>[(17,.int .i64 i)]) (fun i=>[(5,.cells (.pv [.isl (.rows .i64 (s.cs.take i)) (.own 9),.isl (.bools s.ds) .none]) false),(9,.tok 1 i)]) (fun i=>s.cs.length-i) 0 ⟨aK,mixed,ak,Jo,aQ⟩ (by rfl) (by omega) ?_ ?_
 ·repeat'((conv=>whnf);first|intro _|apply aI|with_reducible exact vM rfl|exact⟨⟩|apply nM|apply fM)
  all_goals((try apply vM);(try simp only[vq]at*);try omega)
 intro i hi
 by_cases hlt:i<s.cs.length
 ·have hm:(ms s.cs).getD i 0=(mk (s.cd i):Nat):=eY hlt
  have hA:=(h.asc _ hlt).1
  have e1:(s.cs.take i).length=i:=by rw[List.length_take];omega
  have e2:s.cs.take i++[s.cd i]=s.cs.take (i+1):=by
   unfold St.cd
   rw[List.take_add_one,List.getD_eq_getElem?_getD,List.getElem?_eq_getElem hlt];rfl
  repeat'((conv=>whnf);first|apply Exists.intro (s.cd i)|(intro hq;(try simp only[vw]at hq);try first|exact absurd hq (by decide)|exfalso;omega)|apply aI|with_reducible exact vM rfl|exact⟨⟩|apply nM|apply fM)
  all_goals((try apply vM);(try simp only[vq]at*);try omega)
  all_goals(try(simp only[List.length_append,List.length_take,List.length_cons,List.length_nil];omega))
  ·exact⟨hm,hA⟩
  refine⟨i+1,[],⟨by omega,by omega⟩,?_⟩
  repeat'((conv=>whnf);first|intro _|apply aI|with_reducible exact vM rfl|exact⟨⟩|apply nM|apply fM)
  all_goals((try apply vM);(try simp only[vq]at*);try omega)
  all_goals(try(rw[e2]))
 ·have:i=s.cs.length:=by omega
  subst this
  rw[List.take_length]
  repeat'((conv=>whnf);first|intro _|apply aI|with_reducible exact vM rfl|exact⟨⟩|apply nM|apply fM)
  all_goals((try apply vM);(try simp only[vq]at*);try omega)
  exact Sup.of rfl
def Fq:PSp:=fun xs K=>match xs with
 | [.ip (.pv [.int .i64 c,.isl (.rows .i64 ls) .none,.int .i64 sum,.isl (.ints .i64 gv) .none,.isl (.ints .u32 M) .none,.isl (.bools D) .none]) 0]=>∃s:St,VC (M=ms s.cs∧D=s.ds∧bM c ls sum s)∧K (stV s)
 |_=>False
theorem RG:POK Tryz.prog 87 Fq:=by
 intro xs K hk
 unfold Fq at hk
 split at hk
 ·obtain⟨s,⟨rfl,rfl,h⟩,hk⟩:=hk
  exact⟨_,hk,Mg _ _ _ _ s h⟩
 ·exact hk.elim
abbrev rV:ByteArray:=⟨#[]⟩
abbrev bH:ByteArray:=⟨#[108,97,115,116]⟩
abbrev bQ:ByteArray:=⟨#[111,110,108,121]⟩
abbrev bR:ByteArray:=⟨#[112,108,97,99,101]⟩
abbrev bN:ByteArray:=⟨#[114,97,110,103,101]⟩
abbrev bO:ByteArray:=⟨#[99,104,111,105,99,101]⟩
abbrev kF (k:Nat):PV:=.fn (.func k) [] []
abbrev RH:PV:=.agg [.str rV,.bool false,.bool false,.nilf,.str bH,.bool true,.bool true,kF 172,.str bQ,.bool true,.bool false,kF 173,.str bR,.bool true,.bool false,kF 174,.str bN,.bool false,.bool true,kF 175,.str bO,.bool false,.bool true,kF 176]
theorem Mh:aG Tryz.prog 130 [] RH:=by
 refine av (md:=1) (rf:=[]) mixed ak aD Tryz.func130 (by rfl) (by rfl) (by rfl) ?_
 repeat'((conv=>whnf);first|intro _|apply aI|with_reducible exact vM rfl|exact⟨⟩|apply nM|apply fM)
 all_goals((try apply vM);(try simp only[vq]at*);try omega)
 all_goals exact Sup.of (show(RH:PV)=_ from rfl)
def oG:PSp:=fun xs K=>match xs with
 | []=>VC (True)∧K (RH)
 |_=>False
theorem oH:POK Tryz.prog 130 oG:=by
 intro xs K h
 unfold oG at h
 split at h
 ·exact⟨_,h.2,Mh⟩
 ·exact h.elim
def bE (r:ByteArray):Int:=if r=bH then 1 else if r=bQ then 2 else if r=bR then 3 else if r=bN then 4 else if r=bO then 5 else 0
noncomputable def acW:CPT:=aA 130 (aB oG) noC
theorem Jp:aY Tryz.prog acW:=aj (au oH) aD
def nmG:Nat→ByteArray
 |1=>bH
 |2=>bQ
 |3=>bR
 |4=>bN
 |5=>bO
 |_=>rV
theorem pF:bE (nmG 1)=1∧bE (nmG 2)=2∧bE (nmG 3)=3∧bE (nmG 4)=4∧bE (nmG 5)=5:=by decide
theorem Yb {r:ByteArray} (h:∀j,0<j→j<6→nmG j≠r):bE r=0:=by
 unfold bE
 rw[if_neg (fun e=>h 1 (by omega) (by omega) e.symm),if_neg (fun e=>h 2 (by omega) (by omega) e.symm),if_neg (fun e=>h 3 (by omega) (by omega) e.symm),if_neg (fun e=>h 4 (by omega) (by omega) e.symm),if_neg (fun e=>h 5 (by omega) (by omega) e.symm)]
theorem rX (r:ByteArray):(r=bH∧bE r=1)∨(r=bQ∧bE r=2)∨(r=bR∧bE r=3)∨(r=bN∧bE r=4)∨(r=bO∧bE r=5)∨bE r=0:=by
 by_cases h1:r=bH
 ·subst h1;exact .inl ⟨rfl,pF.1⟩
 by_cases h2:r=bQ
 ·subst h2;exact .inr (.inl ⟨rfl,pF.2.1⟩)
 by_cases h3:r=bR
 ·subst h3;exact .inr (.inr (.inl ⟨rfl,pF.2.2.1⟩))
 by_cases h4:r=bN
 ·subst h4;exact .inr (.inr (.inr (.inl ⟨rfl,pF.2.2.2.1⟩)))
 by_cases h5:r=bO
 ·subst h5;exact .inr (.inr (.inr (.inr (.inl ⟨rfl,pF.2.2.2.2⟩))))
 refine .inr (.inr (.inr (.inr (.inr ?_))))
 unfold bE
 rw[if_neg h1,if_neg h2,if_neg h3,if_neg h4,if_neg h5]
theorem Mj (r:ByteArray):aG Tryz.prog 101 [.str r] (.int .i64 (bE r)):=by
 have hs:Di.size=4:=rfl
 have hn:=pF
 refine av (md:=1) (rf:=[]) mixed ak Jp Tryz.func101 (by rfl) (by rfl) (by rfl) ?_
 repeat'((conv=>whnf);first|intro _|apply aI|with_reducible exact vM rfl|exact⟨⟩|apply nM|apply fM)
 all_goals((try apply vM);(try simp only[vq]at*);try omega)
 conv=>whnf
 refine aM (X:=Nat) (fun i=>i≤6∧∀j,0<j→j<i→nmG j≠r) (fun i=>[(6,.int .i64 i)]) (fun i=>[]) (fun i=>6-i) 0 ⟨aK,mixed,ak,Jp,aQ⟩ (by rfl) ⟨by omega,fun j h0 hj=>by omega⟩ ?_ ?_
 ·repeat'((conv=>whnf);first|intro _|apply aI|with_reducible exact vM rfl|exact⟨⟩|apply nM|apply fM)
  all_goals((try apply vM);(try simp only[vq]at*);try omega)
 intro i ⟨hi,hok⟩
 obtain rfl|rfl|rfl|rfl|rfl|rfl|rfl:i=0∨i=1∨i=2∨i=3∨i=4∨i=5∨i=6:=by omega
 ·repeat'((conv=>whnf);first|(intro hq;(try simp only[vw]at hq);try first|exact absurd hq (by decide)|exfalso;omega)|apply aI|with_reducible exact vM rfl|exact⟨⟩|apply nM|apply fM)
  all_goals((try apply vM);(try simp only[vq]at*);try omega)
  all_goals(try omega)
  refine⟨0+1,[],⟨⟨by omega,fun j h0 hj=>by omega⟩,by omega⟩,?_⟩
  repeat'((conv=>whnf);first|intro _|apply aI|with_reducible exact vM rfl|exact⟨⟩|apply nM|apply fM)
  all_goals((try apply vM);(try simp only[vq]at*);try omega)
 ·repeat'((conv=>whnf);first|(intro hq;(try simp only[vw]at hq);try first|exact absurd hq (by decide)|exfalso;omega)|apply aI|with_reducible exact vM rfl|exact⟨⟩|apply nM|apply fM)
  all_goals((try apply vM);(try simp only[vq]at*);try omega)
  all_goals(try omega)
  ·subst hq
   refine Sup.of (congrArg (PV.int .i64) ?_)
   exact(hn.1:bE (nmG 1)=1).symm
  refine⟨1+1,[],⟨⟨by omega,fun j h0 hj=>?_⟩,by omega⟩,?_⟩
  ·by_cases e:j=1
   ·subst e;exact hq
   ·exact hok j h0 (by omega)
  repeat'((conv=>whnf);first|intro _|apply aI|with_reducible exact vM rfl|exact⟨⟩|apply nM|apply fM)
  all_goals((try apply vM);(try simp only[vq]at*);try omega)
 ·repeat'((conv=>whnf);first|(intro hq;(try simp only[vw]at hq);try first|exact absurd hq (by decide)|exfalso;omega)|apply aI|with_reducible exact vM rfl|exact⟨⟩|apply nM|apply fM)
  all_goals((try apply vM);(try simp only[vq]at*);try omega)
  all_goals(try omega)
  ·subst hq
   refine Sup.of (congrArg (PV.int .i64) ?_)
   exact(hn.2.1:bE (nmG 2)=2).symm
  refine⟨2+1,[],⟨⟨by omega,fun j h0 hj=>?_⟩,by omega⟩,?_⟩
  ·by_cases e:j=2
   ·subst e;exact hq
   ·exact hok j h0 (by omega)
  repeat'((conv=>whnf);first|intro _|apply aI|with_reducible exact vM rfl|exact⟨⟩|apply nM|apply fM)
  all_goals((try apply vM);(try simp only[vq]at*);try omega)
 ·repeat'((conv=>whnf);first|(intro hq;(try simp only[vw]at hq);try first|exact absurd hq (by decide)|exfalso;omega)|apply aI|with_reducible exact vM rfl|exact⟨⟩|apply nM|apply fM)
  all_goals((try apply vM);(try simp only[vq]at*);try omega)
  all_goals(try omega)
  ·subst hq
   refine Sup.of (congrArg (PV.int .i64) ?_)
   exact(hn.2.2.1:bE (nmG 3)=3).symm
  refine⟨3+1,[],⟨⟨by omega,fun j h0 hj=>?_⟩,by omega⟩,?_⟩
  ·by_cases e:j=3
   ·subst e;exact hq
   ·exact hok j h0 (by omega)
  repeat'((conv=>whnf);first|intro _|apply aI|with_reducible exact vM rfl|exact⟨⟩|apply nM|apply fM)
  all_goals((try apply vM);(try simp only[vq]at*);try omega)
 ·repeat'((conv=>whnf);first|(intro hq;(try simp only[vw]at hq);try first|exact absurd hq (by decide)|exfalso;omega)|apply aI|with_reducible exact vM rfl|exact⟨⟩|apply nM|apply fM)
  all_goals((try apply vM);(try simp only[vq]at*);try omega)
  all_goals(try omega)
  ·subst hq
   refine Sup.of (congrArg (PV.int .i64) ?_)
   exact(hn.2.2.2.1:bE (nmG 4)=4).symm
  refine⟨4+1,[],⟨⟨by omega,fun j h0 hj=>?_⟩,by omega⟩,?_⟩
  ·by_cases e:j=4
   ·subst e;exact hq
   ·exact hok j h0 (by omega)
  repeat'((conv=>whnf);first|intro _|apply aI|with_reducible exact vM rfl|exact⟨⟩|apply nM|apply fM)
  all_goals((try apply vM);(try simp only[vq]at*);try omega)
 ·repeat'((conv=>whnf);first|(intro hq;(try simp only[vw]at hq);try first|exact absurd hq (by decide)|exfalso;omega)|apply aI|with_reducible exact vM rfl|exact⟨⟩|apply nM|apply fM)
  all_goals((try apply vM);(try simp only[vq]at*);try omega)
  all_goals(try omega)
  ·subst hq
   refine Sup.of (congrArg (PV.int .i64) ?_)
   exact(hn.2.2.2.2:bE (nmG 5)=5).symm
  refine⟨5+1,[],⟨⟨by omega,fun j h0 hj=>?_⟩,by omega⟩,?_⟩
  ·by_cases e:j=5
   ·subst e;exact hq
   ·exact hok j h0 (by omega)
  repeat'((conv=>whnf);first|intro _|apply aI|with_reducible exact vM rfl|exact⟨⟩|apply nM|apply fM)
  all_goals((try apply vM);(try simp only[vq]at*);try omega)
 ·rw[Yb hok]
  repeat'((conv=>whnf);first|(intro hq;(try simp only[vw]at hq);try first|exact absurd hq (by decide)|exfalso;omega)|apply aI|with_reducible exact vM rfl|exact⟨⟩|apply nM|apply fM)
  all_goals((try apply vM);(try simp only[vq]at*);try omega)
  exact Sup.of rfl
end Go.Eng.YtcechbdgokjmgaaGreatDoor
