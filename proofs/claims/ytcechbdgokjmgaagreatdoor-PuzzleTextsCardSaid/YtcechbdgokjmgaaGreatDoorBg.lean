/- The base of the claims of this seat: an engine that walks through functions with symbolic values, its soundness, and contracts of the functions that every law calls. Conditions stand in the contracts. -/
import Derived.ProofKit
import Derived.OpenShut
import Derived.Deep.Grids
import Derived.LaidMore
import Derived.Stop.Joined
import Derived.Stop.LaidErr
import Derived.Lib.LaidTab
import Derived.MakeChecks
import Derived.Lay
import Derived.Test.YtcechbdgokjmgaaGreatDoorCards
import Derived.Test.YtcechbdgokjmgaaGreatDoorTie
import Derived.Test.YtcechbdgokjmgaaGreatDoorBf
open List renaming getD_eq_getElem?_getD→aeo,mem_of_mem_take→agG,length_take→ae0,getElem?_take_of_lt→ahm,getElem?_eq_getElem→aev,flatten_cons→ahn,append_nil→agN
namespace Go.Eng
open Go.RowKit Go.ChangeShapes Go.WideShapes
set_option linter.unusedSimpArgs false
set_option linter.unusedVariables false
def jr (W:World):Imm:=fun b j=>(rd W b j).isSome
inductive Lf where
 |int (k:IntKind)
 |str
 |ints (k:IntKind)
 |rows (k:IntKind)
 |bool
 |bools
instance:Inhabited Lf:=⟨.str⟩
def TK:Lf→PV→Prop
 |.int k,p=>∃n,p=.int k n∧(Lit.int k n).wf=true
 |.str,p=>∃s,p=.str s∧s.size≤maxLen
 |.ints k,p=>∃xs,p=.isl (.ints k xs) .none∧(∀n∈xs,(Lit.int k n).wf=true)∧xs.length≤maxLen
 |.rows k,p=>∃xss:List (List Int),p=.isl (.rows k xss) .none∧(∀x∈xss,(∀n∈x,(Lit.int k n).wf=true)∧x.length≤maxLen)∧xss.length≤maxLen
 |.bool,p=>∃b:Bool,p=.bp b∧True
 |.bools,p=>∃xs:List Bool,p=.isl (.bools xs) .none∧xs.length≤maxLen
def qJ (v:Value):Prop:=∀a n c,v=.slice (some a) n c→a.spot=none
theorem vH {P:Program} {w:World} {r:Reach} {base:Nat} {t:TypeId} {v:Value} (h:Cell.okWide P w r base t v):qJ v:=by
 rintro a n c rfl
 unfold Cell.okWide at h;split at h<;>try(rename_i e1 e2;cases e2)
 unfold Cell.ok at h;split at h<;>try(rename_i e1 e2;cases e2)
 ·exact h.2.2.2.1
 ·exact h.elim
theorem Iz {P:Program} {w:World} {r:Reach} {base:Nat} {t:TypeId} {cs:Array Value} (h:Row.okWide P w r base t cs):∀i,qJ (cs.toList.getD i undef):=by
 obtain⟨ts,_,_,h⟩:=h;intro i;rw[aeo];cases hv:cs.toList[i]? with
 |none=>rintro a n c he;cases he
 |some v=>
  obtain⟨u,_,hu⟩:=h i v (by simpa using hv)
  simpa using vH hu
section
variable {H:Type} (enc:TypeId × Value→H) (P:Program) (W:World)
def fq (t:TypeId) (ls:List Lf):Prop:=∀(fuel:Nat) (cs:List Value) (x:DataW H × List MemPlace),DataW.trod enc P W 0 (fun _=>true) true fuel t cs=some x→(∀i,qJ (cs.getD i undef))→
 cs.length=ls.length∧∀i,i<ls.length→∃p,TK (ls.getD i default) p∧Rep (jr W) W noI p (cs.getD i undef)
def BK:List Field→Nat→List (List Lf)→Prop
 | [],_,[]=>True
 |f::fs,o,l::ls=>(f.offset=o∧P.cellsOf f.type=l.length∧fq enc P W f.type l)∧BK fs (o+l.length) ls
 |_,_,_=>False
end
section
variable {H:Type} {enc:TypeId × Value→H} {P:Program} {W:World}
theorem Qy {t:TypeId} {k:IntKind} (ht:P.underlying t=some (.int k)):fq enc P W t [.int k]:=by
 intro fuel cs x h hs;obtain⟨n,rfl,_,hw⟩:=DataW.trod_int ht h;refine⟨rfl,fun i hi=>?_⟩;have:i=0:=by simp at hi;omega
 subst this;exact⟨.int k n,⟨n,rfl,hw⟩,.int _ _ _⟩
theorem Qz {t:TypeId} (ht:P.underlying t=some .string):fq enc P W t [.str]:=by
 intro fuel cs x h hs;obtain⟨s,rfl,_,hw⟩:=DataW.trod_string ht h;refine⟨rfl,fun i hi=>?_⟩;have:i=0:=by simp at hi;omega
 subst this;exact⟨.str s,⟨s,rfl,hw⟩,.str _ _⟩
theorem Nv {t e:TypeId} {k:IntKind} (ht:P.underlying t=some (.slice e)) (he:P.underlying e=some (.int k)) (hc:P.cellsOf e=1):fq enc P W t [.ints k]:=by
 intro fuel cs x h hs;rcases open_ints ht he hc h with⟨rfl,_⟩|⟨a,len,cap,zs,rfl,_,hl,hm,hz,_,hcell,hwf⟩
 ·refine⟨rfl,fun i hi=>?_⟩
  have:i=0:=by simp at hi;omega
  subst this;exact⟨.isl (.ints k []) .none,⟨[],rfl,by simp,by simp⟩,.islnil _ _ _ rfl⟩
 ·refine⟨rfl,fun i hi=>?_⟩
  have:i=0:=by simp at hi;omega
  subst this;have hsp:a.spot=none:=hs 0 a len cap rfl;obtain⟨b,off,spot⟩:=a;simp only at hsp;subst hsp;simp only[ite_true]at hz;have hcell':∀i,i<cap→rd W b (off+i)=some (.int k (zs.getD i 0)):=fun i hi=>by
   have:=hcell i (by omega)
   rw[dN,fD]at this;exact this
  refine⟨.isl (.ints k (zs.take len)) .none,⟨_,rfl,fun n hn=>hwf n (agG hn),by simp;omega⟩,?_⟩
  have hlen:(CL.ints k (zs.take len)).cnt=len:=by simp[CL.cnt];omega
  have hrep:=Rep.isl (S:=jr W) (w:=W) noI (.ints k (zs.take len)) .none b off cap (by rw[hlen];exact hl)
   (fun j hj=>by
    have hj':j<len:=by simp only[CL.ncell,ae0]at hj;omega
    show(rd W b (off+j)).isSome;rw[hcell' j (by omega)];rfl)
   (fun j hj=>by
    have hj':j<len:=by simp only[CL.ncell,ae0]at hj;omega
    have e1:rdv W b (off+j)=.int k (zs.getD j 0):=by unfold rdv;rw[hcell' j (by omega)];rfl
    have e2:(zs.take len).getD j 0=zs.getD j 0:=by simp only[aeo,ahm hj']
    rw[e1];show Rep (jr W) W noI (.int k ((zs.take len).getD j 0)) _;rw[e2];exact .int _ _ _)
   (fun e=>by cases e) (fun k e=>by cases e)
  rw[hlen]at hrep;simpa using hrep
theorem Nw {t:TypeId} (ht:P.underlying t=some .bool):fq enc P W t [.bool]:=by
 intro fuel cs x h hs;obtain⟨n,rfl,_⟩:=DataW.trod_bool ht h;refine⟨rfl,fun i hi=>?_⟩;have:i=0:=by simp at hi;omega
 subst this;exact⟨.bp n,⟨n,rfl,trivial⟩,.bp _ _⟩
theorem IB {t e:TypeId} (ht:P.underlying t=some (.slice e)) (he:P.underlying e=some .bool) (hc:P.cellsOf e=1):fq enc P W t [.bools]:=by
 intro fuel cs x h hs;rcases Go.Deep.open_bools ht he hc h with⟨rfl,_⟩|⟨a,len,cap,B,rfl,_,hl,hm,_,hcell⟩
 ·refine⟨rfl,fun i hi=>?_⟩
  have:i=0:=by simp at hi;omega
  subst this;exact⟨.isl (.bools []) .none,⟨[],rfl,by simp⟩,.islnil _ _ _ rfl⟩
 ·refine⟨rfl,fun i hi=>?_⟩
  have:i=0:=by simp at hi;omega
  subst this;have hsp:a.spot=none:=hs 0 a len cap rfl;obtain⟨b,off,spot⟩:=a;simp only at hsp;subst hsp;have hcell':∀i,i<cap→rd W b (off+i)=some (.bool (B i)):=fun i hi=>by
   have:=hcell i (by omega)
   rw[dN,fD]at this;exact this
  obtain⟨L,hL⟩:∃L,(List.range len).map B=L:=⟨_,rfl⟩;have hLl:L.length=len:=by rw[←hL];simp
  have hLg:∀j,j<len→L.getD j false=B j:=fun j hj=>by rw[←hL];simp[aeo,hj]
  refine⟨.isl (.bools L) .none,⟨L,rfl,by omega⟩,?_⟩
  have hrep:=Rep.isl (S:=jr W) (w:=W) noI (.bools L) .none b off cap (by show L.length≤cap;omega)
   (fun j hj=>by
    have hj':j<len:=by simp only[CL.ncell]at hj;omega
    show(rd W b (off+j)).isSome;rw[hcell' j (by omega)];rfl)
   (fun j hj=>by
    have hj':j<len:=by simp only[CL.ncell]at hj;omega
    have e1:rdv W b (off+j)=.bool (B j):=by unfold rdv;rw[hcell' j (by omega)];rfl
    rw[e1];show Rep (jr W) W noI (.bp (L.getD j false)) _;rw[hLg j hj'];exact .bp _ _)
   (fun e=>by cases e) (fun k e=>by cases e)
  rw[show(CL.bools L).cnt=len from hLl]at hrep;simpa using hrep
theorem TL {t e:TypeId} {k:IntKind} (ht:P.underlying t=some (.slice e)) (he:P.underlying e=some (.int k)) (hc:P.cellsOf e=1) {fuel:Nat} {v:Value} {x:DataW H × List MemPlace}
 (h:DataW.trod enc P W 0 (fun _=>true) true fuel t [v]=some x):∃xs:List Int,Rep (jr W) W noI (.isl (.ints k xs) .none) v∧(∀n∈xs,(Lit.int k n).wf=true)∧xs.length≤maxLen:=by
 rcases open_ints ht he hc h with⟨hv,_⟩|⟨a,len,cap,zs,hv,_,hl,hm,hz,_,hcell,hwf⟩
 ·cases hv;exact⟨[],.islnil _ _ _ rfl,by simp,by simp⟩
 ·cases hv
  simp only[ite_true]at hz;rcases Nat.eq_zero_or_pos cap with h0|h0
  ·have hl0:len=0:=by omega
   subst h0;subst hl0;exact⟨[],.islnil _ _ _ rfl,by simp,by simp⟩
  ·have hsp:a.spot=none:=by
    have h1:=hcell 0 (by omega)
    simpa [Addr.add]using World.cell?_spot h1
   obtain⟨b,off,spot⟩:=a;simp only at hsp;subst hsp;have hcell':∀i,i<cap→rd W b (off+i)=some (.int k (zs.getD i 0)):=fun i hi=>by
    have:=hcell i (by omega)
    rw[dN,fD]at this;exact this
   refine⟨zs.take len,?_,fun n hn=>hwf n (agG hn),by simp;omega⟩
   have hlen:(CL.ints k (zs.take len)).cnt=len:=by simp[CL.cnt];omega
   have hrep:=Rep.isl (S:=jr W) (w:=W) noI (.ints k (zs.take len)) .none b off cap (by rw[hlen];exact hl)
    (fun j hj=>by
     have hj':j<len:=by simp only[CL.ncell,ae0]at hj;omega
     show(rd W b (off+j)).isSome;rw[hcell' j (by omega)];rfl)
    (fun j hj=>by
     have hj':j<len:=by simp only[CL.ncell,ae0]at hj;omega
     have e1:rdv W b (off+j)=.int k (zs.getD j 0):=by unfold rdv;rw[hcell' j (by omega)];rfl
     have e2:(zs.take len).getD j 0=zs.getD j 0:=by simp only[aeo,ahm hj']
     rw[e1];show Rep (jr W) W noI (.int k ((zs.take len).getD j 0)) _;rw[e2];exact .int _ _ _)
    (fun e=>by cases e) (fun k e=>by cases e)
   rw[hlen]at hrep;exact hrep
theorem TM:∀(n:Nat) (Q:Nat→List Int→Prop),(∀i,i<n→∃p,Q i p)→∃ps:List (List Int),ps.length=n∧∀i,i<n→Q i (ps.getD i []):=by
 intro n;induction n with
 |zero=>intro Q _;exact⟨[],rfl,fun i hi=>by omega⟩
 |succ n ih=>
  intro Q h;obtain⟨p,hp⟩:=h 0 (by omega)
  obtain⟨ps,h1,h2⟩:=ih (fun i=>Q (i+1)) (fun i hi=>h (i+1) (by omega))
  refine⟨p::ps,by simp[h1],fun i hi=>?_⟩
  cases i with
  |zero=>exact hp
  |succ i=>exact h2 i (by omega)
theorem TN {a:Addr} {c1:List Value} (h:W.cells? 0 a 1=some c1):∃c,c1=[c]∧W.cell? a=some c:=by
 have e0:a.add 0=a:=by simp[Addr.add]
 unfold World.cells? at h;split at h
 ·simp only[List.range_succ,List.range_zero,List.nil_append,List.mapM_cons,List.mapM_nil,e0]at h
  cases hcc:W.cell? a with
  |none=>simp[hcc]at h
  |some c=>simp[hcc]at h;exact⟨c,h.symm,rfl⟩
 ·cases h
theorem Ny {t u e:TypeId} {k:IntKind} (ht:P.underlying t=some (.slice u)) (hu:P.underlying u=some (.slice e)) (he:P.underlying e=some (.int k)) (hcu:P.cellsOf u=1) (hc:P.cellsOf e=1):fq enc P W t [.rows k]:=by
 intro fuel cs x h hs;rcases DataW.trod_slice ht h with⟨rfl,_⟩|⟨a,len,cap,elems,rest,n,_,rfl,_,_,hl,hm,hlen,hel,hsp1,_⟩
 ·refine⟨rfl,fun i hi=>?_⟩
  have:i=0:=by simp at hi;omega
  subst this;exact⟨.isl (.rows k []) .none,⟨[],rfl,by simp,by simp⟩,.islnil _ _ _ rfl⟩
 refine⟨rfl,fun i hi=>?_⟩;have:i=0:=by simp at hi;omega
 subst this;have hspot:a.spot=none:=hs 0 a len cap rfl;obtain⟨b,off,spot⟩:=a;simp only at hspot;subst hspot;have key:∀j,j<len→∃xs:List Int,(rd W b (off+j)).isSome=true∧Rep (jr W) W noI (.isl (.ints k xs) .none) (rdv W b (off+j))∧(∀n∈xs,(Lit.int k n).wf=true)∧xs.length≤maxLen:=by
  intro j hj;have hE:=hel j hj;rw[hcu,Nat.mul_one]at hE;have hy:∃y,elems[j]? =some y:=⟨_,aev (by omega)⟩
  obtain⟨y,hy⟩:=hy;rw[hy]at hE;simp only[Option.bind_eq_some_iff]at hE;obtain⟨c1,hc1,hy1⟩:=hE;obtain⟨c,rfl,hcell⟩:=TN hc1;rw[dN,fD]at hcell;obtain⟨xs,h1,h2,h3⟩:=TL hu he hc hy1;refine⟨xs,by rw[hcell];rfl,?_,h2,h3⟩
  unfold rdv;rw[hcell];exact h1
 obtain⟨xss,hxl,hxx⟩:=TM len _ key;refine⟨.isl (.rows k xss) .none,⟨xss,rfl,fun x hx=>?_,by omega⟩,?_⟩
 ·obtain⟨j,hj,rfl⟩:=List.mem_iff_getElem.1 hx
  have:=hxx j (by omega)
  rw[aeo,aev hj]at this;exact⟨this.2.2.1,this.2.2.2⟩
 have hcnt:(CL.rows k xss).cnt=len:=by simp[CL.cnt];omega
 have hrep:=Rep.isl (S:=jr W) (w:=W) noI (.rows k xss) .none b off cap (by rw[hcnt];exact hl)
  (fun j hj=>by
   have hj':j<len:=by simp only[CL.ncell]at hj;omega
   exact(hxx j hj').1)
  (fun j hj=>by
   have hj':j<len:=by simp only[CL.ncell]at hj;omega
   exact(hxx j hj').2.1)
  (fun e=>by cases e) (fun k e=>by cases e)
 rw[hcnt]at hrep;simpa using hrep
theorem Nz {l:List Lf} {ls:List (List Lf)} {i:Nat} (h:i<l.length):(l++ls.flatten).getD i default=l.getD i default:=by
 simp only[aeo,List.getElem?_append_left h]
theorem IC:∀{fs:List Field} {o:Nat} {lss:List (List Lf)},BK enc P W fs o lss→∀i,i<lss.flatten.length→
 ∃(k:Nat) (f:Field) (l:List Lf) (j:Nat),fs[k]? =some f∧f.offset+j=o+i∧P.cellsOf f.type=l.length∧fq enc P W f.type l∧j<l.length∧l.getD j default=lss.flatten.getD i default:=by
 intro fs;induction fs with
 |nil=>
  intro o lss h i hi;cases lss with
  |nil=>simp at hi
  |cons l ls=>exact h.elim
 |cons f fs ih=>
  intro o lss h i hi;cases lss with
  |nil=>exact h.elim
  |cons l ls=>
   obtain⟨⟨h1,h2,h3⟩,h4⟩:=h;rw[ahn,List.length_append]at hi;by_cases hl:i<l.length
   ·exact⟨0,f,l,i,rfl,by omega,h2,h3,hl,by rw[ahn,Nz hl]⟩
   ·obtain⟨k,f',l',j,a1,a2,a3,a4,a5,a6⟩:=ih h4 (i-l.length) (by omega)
    refine⟨k+1,f',l',j,a1,by omega,a3,a4,a5,?_⟩
    rw[a6,ahn];simp only[aeo,List.getElem?_append_right (by omega:l.length≤i)]
theorem Cm {cs:List Value} {o n j:Nat} (h:j<n):((cs.drop o).take n).getD j undef=cs.getD (o+j) undef:=by
 simp only[aeo,ahm h,List.getElem?_drop]
theorem QA {cs:List Value} (hs:∀i,qJ (cs.getD i undef)) (o n:Nat):∀i,qJ (((cs.drop o).take n).getD i undef):=by
 intro i;by_cases h:i<n
 ·rw[Cm h];exact hs _
 ·have:((cs.drop o).take n).getD i undef=undef:=by
   rw[aeo,List.getElem?_eq_none (by simp;omega)];rfl
  rw[this];rintro a n c he;cases he
theorem lF {t:TypeId} {fs:Array Field} {lss:List (List Lf)} (ht:P.underlying t=some (.struct fs)) (hF:BK enc P W fs.toList 0 lss) (hc:P.cellsOf t=lss.flatten.length):fq enc P W t lss.flatten:=by
 intro fuel cs x h hs;obtain⟨xs,n,_,_,hl,hlen,hf⟩:=DataW.trod_struct ht h;refine⟨by rw[hl,hc],fun i hi=>?_⟩
 obtain⟨k,f,l,j,a1,a2,a3,a4,a5,a6⟩:=IC hF i hi;have hfk:fs[k]? =some f:=by simpa using a1
 have hk:k<xs.length:=by rw[hlen];exact(Array.getElem?_eq_some_iff.1 hfk).1
 have h1:=hf k f hfk;rw[aev hk]at h1;obtain⟨_,h2⟩:=a4 _ _ _ h1 (QA hs _ _);obtain⟨p,hp,hr⟩:=h2 j a5;rw[Cm (by omega)]at hr
 rw[a6]at hp;have:f.offset+j=i:=by omega
 rw[this]at hr;exact⟨p,hp,hr⟩
theorem YR {Q:Nat→PV→Prop}:∀(n:Nat) (Q:Nat→PV→Prop),(∀i,i<n→∃p,Q i p)→∃ps:List PV,ps.length=n∧∀i,i<n→Q i (aC ps i):=by
 intro n;induction n with
 |zero=>intro Q _;exact⟨[],rfl,fun i hi=>by omega⟩
 |succ n ih=>
  intro Q h;obtain⟨p,hp⟩:=h 0 (by omega)
  obtain⟨ps,h1,h2⟩:=ih (fun i=>Q (i+1)) (fun i hi=>h (i+1) (by omega))
  refine⟨p::ps,by simp[h1],fun i hi=>?_⟩
  cases i with
  |zero=>exact hp
  |succ i=>exact h2 i (by omega)
theorem adL {t:TypeId} {ls:List Lf} {v:Value} {d:DataW H} {qs:List MemPlace} {r:Reach} {base:Nat} (ht:(∃fs,P.underlying t=some (.struct fs))∨∃n e,P.underlying t=some (.array n e)) (hO:fq enc P W t ls) (hval:Value.okWide P W r base t v) (hd:DataW.Trod enc P W 0 (fun _=>true) true t v d qs):
 ∃ps:List PV,ps.length=ls.length∧(∀i,i<ls.length→TK (ls.getD i default) (aC ps i))∧Rep (jr W) W noI (.agg ps) v:=by
 have hv:∃cs,v=.agg cs∧Row.okWide P W r base t cs:=by
  unfold Value.okWide at hval;rcases ht with⟨fs,ht⟩|⟨n,e,ht⟩<;>rw[ht]at hval<;>exact⟨hval.choose,hval.choose_spec.1,hval.choose_spec.2.2⟩
 obtain⟨cs,rfl,hrow⟩:=hv;obtain⟨fuel,hf⟩:=hd;have hcells:(Value.agg cs).cells.toList=cs.toList:=rfl;rw[hcells]at hf;obtain⟨h1,h2⟩:=hO _ _ _ hf (Iz hrow);obtain⟨ps,p1,p2⟩:=YR (Q:=fun _ _=>True) ls.length _ h2;refine⟨ps,p1,fun i hi=>(p2 i hi).1,.agg _ _ _ (by rw[p1,←h1];simp) fun i hi=>?_⟩
 have:=(p2 i (by omega)).2
 simpa [Array.getD_eq_getD_getElem?,aeo]using this
theorem acs {t:TypeId} {l:Lf} {v:Value} {d:DataW H} {qs:List MemPlace} {r:Reach} {base:Nat} (ht:(∃k,P.underlying t=some (.int k))∨P.underlying t=some .string∨∃e,P.underlying t=some (.slice e)) (hO:fq enc P W t [l]) (hval:Value.okWide P W r base t v) (hd:DataW.Trod enc P W 0 (fun _=>true) true t v d qs):
 ∃p:PV,TK l p∧Rep (jr W) W noI p v:=by
 have hv:v.cells.toList=[v]∧qJ v:=by
  rcases ht with⟨k,ht⟩|ht|⟨e,ht⟩
  ·obtain⟨n,rfl⟩:=okWide_int ht hval;exact⟨rfl,fun a n c h=>by cases h⟩
  ·obtain⟨n,rfl⟩:=okWide_string ht hval;exact⟨rfl,fun a n c h=>by cases h⟩
  ·have hc:Cell.okWide P W r base t v:=by unfold Value.okWide at hval;rw[ht]at hval;exact hval
   obtain⟨a,n,c,rfl⟩:=okWide_slice ht hval;exact⟨rfl,vH hc⟩
 obtain⟨fuel,hf⟩:=hd;rw[hv.1]at hf;obtain⟨h1,h2⟩:=hO _ _ _ hf (fun i=>by
  cases i with
  |zero=>exact hv.2
  |succ i=>rintro a n c he;simp at he;cases he)
 obtain⟨p,hp,hr⟩:=h2 0 (by simp)
 exact⟨p,hp,hr⟩
end
theorem adM {P:Program} {g:FuncId} {args:List PV} {vs:Array Value} {W:World} (h:aF P g args (.bp true)) (hr:bC (jr W) W noI args vs) (hg:gB (jr W) W):
 Calls P g vs W fun e w'=>e=.returned (.bool true)∧Below W.heap.size W w':=by
 have:=(h.2 (jr W) W vs hg (fun _ _ h=>h) hr);refine callsIn_wide.1 (CallsIn.mono (F:=Fw none) this ?_)
 rintro e w' ⟨val,S',rfl,o⟩
 have hv:=o.rep;exact⟨by cases hv;rfl,⟨o.below.os,o.below.tape,o.below.output,o.below.size,o.same⟩⟩
section
variable {H:Type} {enc:TypeId × Value→H} {P:Program}
theorem CY (hl:laidOutB P=true) {W W':World} {sp:Nat→Bool} (hB:Below W.heap.size W W'):∀{ts:List TypeId} {vs:List Value} {ds:List (DataW H)} {ps:List MemPlace},ts.all (fun t=>P.readableRec t&&decide (t<P.types.size))=true→
 DataW.TrodAll enc P W 0 (fun _=>true) true ts vs ds ps→(∀x∈ps,x.block<W.heap.size)→(∀x∈ps,sp x.block=true)→DataW.TrodAll enc P W' 0 sp true ts vs ds ps:=by
 intro ts;induction ts with
 |nil=>
  intro vs ds ps _ h _ _;cases vs<;>cases ds<;>first|exact h|exact h.elim
 |cons t ts ih=>
  intro vs ds ps ha h hlt hs;cases vs with
  |nil=>exact h.elim
  |cons v vs=>
   cases ds with
   |nil=>exact h.elim
   |cons d ds=>
    obtain⟨p,q,h1,h2,rfl⟩:=h;simp only[List.all_cons,Bool.and_eq_true,decide_eq_true_eq]at ha;refine⟨p,q,WideElems.Trod_stays hl ha.1.1 ha.1.2 h1 (fun x hx=>hB.same (hlt x (by simp[hx]))) (fun x hx=>hs x (by simp[hx])),ih ha.2 h2 (fun x hx=>hlt x (by simp[hx])) (fun x hx=>hs x (by simp[hx])),rfl⟩
theorem adN {f:Func} {s:ChangeSpec} {W W':World} {args:Array Value} {ds gs:List (DataW H)} {before:List MemPlace} {tb:TypeId} (hl:laidOutB P=true) (hres:f.resultTypes= #[tb]) (htb:P.underlying tb=some .bool)
 (hread:f.params.toList.all (fun t=>P.readableRec t&&decide (t<P.types.size))=true) (hv:s.vars=[]) (hfn:s.fn H ds={results:=[.lit (.bool true)],args:=ds})
 (hW:DataW.Whole enc P f.params.toList s.vars false W args.toList ds gs before) (hB:Below W.heap.size W W'):s.post enc P f false true false false W args (.bool true) W':=by
 have hW':=hW;obtain⟨p,q,hA,hV,rfl,hfz,hnd⟩:=hW;rw[hv]at hV;obtain⟨rfl,rfl⟩:=trodVars_none hV;have hlt:∀x∈p,x.block<W.heap.size:=fun x hx=>by simpa using hW'.lt x (by simp[hx])
 refine⟨ds,[],p++[],[],p,[],hW',?_,?_,?_,hB.frame _,fun h=>by cases h⟩
 ·rw[agN,hfn,hres]
  exact trodAll_mk1 (shut_bool htb true)
 ·rw[agN,hfn]
  exact CY hl hB hread hA hlt (fun x hx=>by simpa using hlt x hx)
 ·rw[agN,hfn,hv]
  exact rfl
end
end Go.Eng
namespace Go.Eng.YtcechbdgokjmgaaGreatDoor
open Go.Proofs Go.Proofs.YtcechbdgokjmgaaGreatDoor Go.RowKit Go.ChangeShapes Go.WideShapes
set_option linter.unusedVariables false
theorem own:ownKnob Tryz.prog.godebug=none:=by kernel_rfl
theorem laidOut:laidOutB Tryz.prog=true:=by kernel_rfl
abbrev NA:List (String × DataW Unit):=[("math/bits.deBruijn32tab",Rows.laid_math_bits_deBruijn32tab),("math/bits.deBruijn64tab",Rows.laid_math_bits_deBruijn64tab),("internal/strconv.uint64pow10",Rows.laid_internal_strconv_uint64pow10),("unicode/utf8.acceptRanges",Rows.laid_unicode_utf8_acceptRanges),("strconv.ErrRange",Rows.laid_strconv_ErrRange),("strconv.ErrSyntax",Rows.laid_strconv_ErrSyntax),("unicode/utf8.first",Rows.laid_unicode_utf8_first)]
theorem adO (os:Os) (args:Array Value):laidMetH Tryz.prog NA ((World.laidAll Tryz.prog os NA).forCall (fun _ _=>0) ⟨#[],args,[]⟩).memory:=by
 rw[Go.MakeChecks.laidMetH_plain _ _ _ (by kernel_rfl)]
 exact laidMet_laidAll _ (by kernel_rfl) (by kernel_rfl)
theorem GJ {W:World} {name:String} {k:IntKind} {zs:List Int} {g:Nat} (hg:Tryz.prog.globalNamed name=some g) (h:Lib.TabIs Tryz.prog W name k zs):
 bsz W g=some (CL.ints k zs).ncell∧∀j,j<(CL.ints k zs).ncell→jr W g j∧Rep (jr W) W noI ((CL.ints k zs).get j) (rdv W g j):=by
 unfold Lib.TabIs World.var? at h;rw[hg,Option.bind_some]at h;split at h
 ·rename_i cs e f hb
  have h:=Option.some.inj h;subst h;refine⟨by simp[bsz,hb,CL.ncell],fun j hj=>?_⟩
  simp only[CL.ncell]at hj;have hr:rd W g j=some (.int k (zs.getD j 0)):=by simp[rd,hb,hj]
  refine⟨by show(rd W g j).isSome=true;rw[hr];rfl,?_⟩
  have:rdv W g j=.int k (zs.getD j 0):=by unfold rdv;rw[hr];rfl
  rw[this];exact .int _ _ _
 ·cases h
theorem adR {W:World} (h:laidMetH Tryz.prog NA W):gB (jr W) W:=by
 rw[Go.MakeChecks.laidMetH_plain _ _ _ (by kernel_rfl)]at h
 have t2:Lib.TabIs Tryz.prog W "math/bits.deBruijn32tab" .u8 qp:=Lib.tabIs_of_head (k:=.u8) (zs:=qp) (g:=0) (t:=285) (e:=5) (n:=32) (by kernel_rfl) (by kernel_rfl) (by kernel_rfl) (by kernel_rfl) (by kernel_rfl) (by kernel_rfl) h
 have t3:Lib.TabIs Tryz.prog W "math/bits.deBruijn64tab" .u8 DU:=Lib.tabIs_of_head (k:=.u8) (zs:=DU) (g:=7) (t:=323) (e:=5) (n:=64) (by kernel_rfl) (by kernel_rfl) (by kernel_rfl) (by kernel_rfl) (by kernel_rfl) (by kernel_rfl) h.tail
 have t0:Lib.TabIs Tryz.prog W "internal/strconv.uint64pow10" .u64 mQ:=Lib.tabIs_of_head (k:=.u64) (zs:=mQ) (g:=2) (t:=289) (e:=275) (n:=20) (by kernel_rfl) (by kernel_rfl) (by kernel_rfl) (by kernel_rfl) (by kernel_rfl) (by kernel_rfl) h.tail.tail
 intro g c hc;unfold vI at hc;split at hc
 ·cases hc;exact GJ (by kernel_rfl) t2
 ·cases hc;exact GJ (by kernel_rfl) t0
 ·cases hc;exact GJ (by kernel_rfl) t3
 ·cases hc
section
variable {H:Type} {enc:TypeId × Value→H} {W:World}
theorem o3:fq enc Tryz.prog W 3 [.int .i64]:=Qy Tryz.underlying3
theorem o9:fq enc Tryz.prog W 9 [.str]:=Qz Tryz.underlying9
theorem o25:fq enc Tryz.prog W 25 [.ints .i64]:=Nv Tryz.underlying25 Tryz.underlying3 (by kernel_rfl)
theorem o22:fq enc Tryz.prog W 22 [.rows .i64]:=Ny Tryz.underlying22 Tryz.underlying25 Tryz.underlying3 (by kernel_rfl) (by kernel_rfl)
theorem o24:fq enc Tryz.prog W 24 [.int .i64,.rows .i64]:=
 lF (lss:=[[.int .i64],[.rows .i64]]) Tryz.underlying24 ⟨⟨rfl,by kernel_rfl,o3⟩,⟨rfl,by kernel_rfl,o22⟩,trivial⟩ (by kernel_rfl)
theorem o27:fq enc Tryz.prog W 27 [.int .i64,.rows .i64,.int .i64,.ints .i64]:=
 lF (lss:=[[.int .i64,.rows .i64],[.int .i64],[.ints .i64]]) Tryz.underlying27 ⟨⟨rfl,by kernel_rfl,o24⟩,⟨rfl,by kernel_rfl,o3⟩,⟨rfl,by kernel_rfl,o25⟩,trivial⟩ (by kernel_rfl)
theorem o4:fq enc Tryz.prog W 4 [.bool]:=Nw Tryz.underlying4
theorem o33:fq enc Tryz.prog W 33 [.bools]:=IB Tryz.underlying33 Tryz.underlying4 (by kernel_rfl)
theorem o35:fq enc Tryz.prog W 35 [.rows .i64,.bools]:=
 lF (lss:=[[.rows .i64],[.bools]]) Tryz.underlying35 ⟨⟨rfl,by kernel_rfl,o22⟩,⟨rfl,by kernel_rfl,o33⟩,trivial⟩ (by kernel_rfl)
theorem adX:fq enc Tryz.prog W 108 [.str,.int .i64]:=
 lF (lss:=[[.str],[.int .i64]]) Tryz.underlying108 ⟨⟨rfl,by kernel_rfl,o9⟩,⟨rfl,by kernel_rfl,o3⟩,trivial⟩ (by kernel_rfl)
end
end Go.Eng.YtcechbdgokjmgaaGreatDoor
