/- Contracts of functions of the program: what each returns. Their conditions stand in them. -/
import Derived.ProofKit
import Derived.OpenShut
import Derived.Deep.Grids
import Derived.LaidMore
import Derived.Stop.Joined
import Derived.Stop.LaidErr
import Derived.Lib.LaidTab
import Derived.MakeChecks
import Derived.Lay
import Derived.Shelf.Small.Wraps
import Derived.Shelf.Strconv.Atoi
import Derived.Shelf.Strings.Search3
import Derived.Shelf.Strings.Count
import Derived.Shelf.Strings.Prefix
import Derived.Shelf.Strings.Split
import Derived.Shelf.Strings.OnBuilder
import Derived.Shelf.LaysM
import Derived.Shelf.Strconv.Itoa3
import Derived.Shelf.Sort.Plain
import Derived.Lib.AppendIntMem
import Derived.Lib.ItoaLen
import Derived.Lib.TrailingZeros
import Derived.Lib.BitFns
import Derived.Test.YtcechbdgokjmgaaGreatDoorCards
import Derived.Test.YtcechbdgokjmgaaGreatDoorTie
import Derived.Test.YtcechbdgokjmgaaGreatDoorProg
import Derived.Test.YtcechbdgokjmgaaGreatDoorEe
open Array renaming getD_eq_getD_getElem?→agq,getElem?_eq_none→agj,ext→ahv,length_toList→agS
open BitVec renaming ofInt→agC,testBit_toNat→ait,getLsbD_and→aiu
open Bool renaming eq_iff_iff→aio,and_false→aix,false_and→aiD,false_or→aiU,true_or→aiV,true_and→ai2
open Classical renaming not_not→aha
open Int renaming toNat_natCast→ahl,one_mul→ais,toNat→aiI,natCast_add→aiJ,lt_of_lt_of_le→aiK
open List renaming getD_eq_getElem?_getD→agt,mem_of_mem_take→ah6,length_take→ag6,getElem?_take_of_lt→ah7,getElem?_eq_getElem→agy,mem_iff_getElem→ah8,flatten_cons→ah9,length_append→ahx,getElem?_eq_none→aia,append_nil→aib,getElem?_eq_some_iff→ahZ,mem_cons_of_mem→ahX,mem_cons_self→aic,map_cons→aie,length_cons→agb,length_map→aif,take_add_one→aij,map_append→aik,length_nil→af7,take_length→ail,getElem_of_mem→agx,mem_append→agu,mem_filter→aiw,pairwise_cons→ahH,mem_cons→ahG,foldl_append→aiF,getElem_mem→aiG,range→agr,find?_eq_none→aiO,mem_range→ah5,range_eq_range'→ahS,range'_append_1→aiP,find?_some→aiQ,any_eq_true→aiR,any_eq_false→aiS,getElem?_map→ahe,drop_length→aiT,take→aiW,drop→aiX,drop_zero→aiY,mem_singleton→ai0,length_filter_le→ai1,all_eq_true→ahP,length_eq_zero_iff→ahw,mem_flatten→ai3
open Nat renaming eq_zero_or_pos→ag2,mul_one→agP,le_refl→agh,zero_le→ag3,zero_add→agG,succ_mul→agf,mul_add→aii,le_trans→ah2,testBit_two_pow→ain,lt_pow_two_of_testBit→aip,eq_of_testBit_eq→aiq,pow_le_pow_right→air,testBit_lt_two_pow→aiv,testBit_two_pow_mul_add→aiy,pow_succ→aiz,two_pow_pos→aiA,testBit_div_two_pow→aiB,testBit_two_pow_mul→aiC,testBit_two_pow_sub_one→aiE,div_div_eq_div_mul→aiH,mul_comm→agH,mul_assoc→aiL,mul_mod_right→aiM,mul_div_cancel_left→aiN,sub_zero→aiZ
open Option renaming bind_some→ahF
namespace Go.Eng
open Go.RowKit Go.ChangeShapes Go.WideShapes
set_option linter.unusedSimpArgs false
set_option linter.unusedVariables false
def lu (W:World):Imm:=fun b j=>(rd W b j).isSome
inductive Lf where
 |int (k:IntKind)
 |str
 |ints (k:IntKind)
 |rows (k:IntKind)
 |bool
 |bools
instance:Inhabited Lf:=⟨.str⟩
def ac9:Lf→PV→Prop
 |.int k,p=>∃n,p=.int k n∧(Lit.int k n).wf=true
 |.str,p=>∃s,p=.str s∧s.size≤maxLen
 |.ints k,p=>∃xs,p=.isl (.ints k xs) .none∧(∀n∈xs,(Lit.int k n).wf=true)∧xs.length≤maxLen
 |.rows k,p=>∃xss:List (List Int),p=.isl (.rows k xss) .none∧(∀x∈xss,(∀n∈x,(Lit.int k n).wf=true)∧x.length≤maxLen)∧xss.length≤maxLen
 |.bool,p=>∃b:Bool,p=.bp b∧True
 |.bools,p=>∃xs:List Bool,p=.isl (.bools xs) .none∧xs.length≤maxLen
def vO (v:Value):Prop:=∀a n c,v=.slice (some a) n c→a.spot=none
theorem Gn {P:Program} {w:World} {r:Reach} {base:Nat} {t:TypeId} {v:Value} (h:Cell.okWide P w r base t v):vO v:=by
 rintro a n c rfl
 unfold Cell.okWide at h;split at h<;>try(rename_i e1 e2;cases e2)
 unfold Cell.ok at h;split at h<;>try(rename_i e1 e2;cases e2)
 ·exact h.2.2.2.1
 ·exact h.elim
theorem JL {P:Program} {w:World} {r:Reach} {base:Nat} {t:TypeId} {cs:Array Value} (h:Row.okWide P w r base t cs):∀i,vO (cs.toList.getD i undef):=by
 obtain⟨ts,_,_,h⟩:=h;intro i;rw[agt];cases hv:cs.toList[i]? with
 |none=>rintro a n c he;cases he
 |some v=>
  obtain⟨u,_,hu⟩:=h i v (by simpa using hv)
  simpa using Gn hu
section
variable {H:Type} (enc:TypeId × Value→H) (P:Program) (W:World)
def jN (t:TypeId) (ls:List Lf):Prop:=∀(fuel:Nat) (cs:List Value) (x:DataW H × List MemPlace),DataW.trod enc P W 0 (fun _=>true) true fuel t cs=some x→(∀i,vO (cs.getD i undef))→
 cs.length=ls.length∧∀i,i<ls.length→∃p,ac9 (ls.getD i default) p∧Rep (lu W) W noI p (cs.getD i undef)
def Bt:List Field→Nat→List (List Lf)→Prop
 | [],_,[]=>True
 |f::fs,o,l::ls=>(f.offset=o∧P.cellsOf f.type=l.length∧jN enc P W f.type l)∧Bt fs (o+l.length) ls
 |_,_,_=>False
end
section
variable {H:Type} {enc:TypeId × Value→H} {P:Program} {W:World}
theorem QM {t:TypeId} {k:IntKind} (ht:P.underlying t=some (.int k)):jN enc P W t [.int k]:=by
 intro fuel cs x h hs;obtain⟨n,rfl,_,hw⟩:=DataW.trod_int ht h;refine⟨rfl,fun i hi=>?_⟩;have:i=0:=by simp at hi;omega
 subst this;exact⟨.int k n,⟨n,rfl,hw⟩,.int _ _ _⟩
theorem NG {t e:TypeId} {k:IntKind} (ht:P.underlying t=some (.slice e)) (he:P.underlying e=some (.int k)) (hc:P.cellsOf e=1):jN enc P W t [.ints k]:=by
 intro fuel cs x h hs;rcases open_ints ht he hc h with⟨rfl,_⟩|⟨a,len,cap,zs,rfl,_,hl,hm,hz,_,hcell,hwf⟩
 ·refine⟨rfl,fun i hi=>?_⟩
  have:i=0:=by simp at hi;omega
  subst this;exact⟨.isl (.ints k []) .none,⟨[],rfl,by simp,by simp⟩,.islnil _ _ _ rfl⟩
 ·refine⟨rfl,fun i hi=>?_⟩
  have:i=0:=by simp at hi;omega
  subst this;have hsp:a.spot=none:=hs 0 a len cap rfl;obtain⟨b,off,spot⟩:=a;simp only at hsp;subst hsp;simp only[ite_true]at hz;have hcell':∀i,i<cap→rd W b (off+i)=some (.int k (zs.getD i 0)):=fun i hi=>by
   have:=hcell i (by omega)
   rw[dW,fF]at this;exact this
  refine⟨.isl (.ints k (zs.take len)) .none,⟨_,rfl,fun n hn=>hwf n (ah6 hn),by simp;omega⟩,?_⟩
  have hlen:(CL.ints k (zs.take len)).cnt=len:=by simp[CL.cnt];omega
  have hrep:=Rep.isl (S:=lu W) (w:=W) noI (.ints k (zs.take len)) .none b off cap (by rw[hlen];exact hl)
   (fun j hj=>by
    have hj':j<len:=by simp only[CL.ncell,ag6]at hj;omega
    show(rd W b (off+j)).isSome;rw[hcell' j (by omega)];rfl)
   (fun j hj=>by
    have hj':j<len:=by simp only[CL.ncell,ag6]at hj;omega
    have e1:rdv W b (off+j)=.int k (zs.getD j 0):=by unfold rdv;rw[hcell' j (by omega)];rfl
    have e2:(zs.take len).getD j 0=zs.getD j 0:=by simp only[agt,ah7 hj']
    rw[e1];show Rep (lu W) W noI (.int k ((zs.take len).getD j 0)) _;rw[e2];exact .int _ _ _)
   (fun e=>by cases e) (fun k e=>by cases e)
  rw[hlen]at hrep;simpa using hrep
theorem NH {t:TypeId} (ht:P.underlying t=some .bool):jN enc P W t [.bool]:=by
 intro fuel cs x h hs;obtain⟨n,rfl,_⟩:=DataW.trod_bool ht h;refine⟨rfl,fun i hi=>?_⟩;have:i=0:=by simp at hi;omega
 subst this;exact⟨.bp n,⟨n,rfl,trivial⟩,.bp _ _⟩
theorem Ud {t e:TypeId} {k:IntKind} (ht:P.underlying t=some (.slice e)) (he:P.underlying e=some (.int k)) (hc:P.cellsOf e=1) {fuel:Nat} {v:Value} {x:DataW H × List MemPlace}
 (h:DataW.trod enc P W 0 (fun _=>true) true fuel t [v]=some x):∃xs:List Int,Rep (lu W) W noI (.isl (.ints k xs) .none) v∧(∀n∈xs,(Lit.int k n).wf=true)∧xs.length≤maxLen:=by
 rcases open_ints ht he hc h with⟨hv,_⟩|⟨a,len,cap,zs,hv,_,hl,hm,hz,_,hcell,hwf⟩
 ·cases hv;exact⟨[],.islnil _ _ _ rfl,by simp,by simp⟩
 ·cases hv
  simp only[ite_true]at hz;rcases ag2 cap with h0|h0
  ·have hl0:len=0:=by omega
   subst h0;subst hl0;exact⟨[],.islnil _ _ _ rfl,by simp,by simp⟩
  ·have hsp:a.spot=none:=by
    have h1:=hcell 0 (by omega)
    simpa [Addr.add]using World.cell?_spot h1
   obtain⟨b,off,spot⟩:=a;simp only at hsp;subst hsp;have hcell':∀i,i<cap→rd W b (off+i)=some (.int k (zs.getD i 0)):=fun i hi=>by
    have:=hcell i (by omega)
    rw[dW,fF]at this;exact this
   refine⟨zs.take len,?_,fun n hn=>hwf n (ah6 hn),by simp;omega⟩
   have hlen:(CL.ints k (zs.take len)).cnt=len:=by simp[CL.cnt];omega
   have hrep:=Rep.isl (S:=lu W) (w:=W) noI (.ints k (zs.take len)) .none b off cap (by rw[hlen];exact hl)
    (fun j hj=>by
     have hj':j<len:=by simp only[CL.ncell,ag6]at hj;omega
     show(rd W b (off+j)).isSome;rw[hcell' j (by omega)];rfl)
    (fun j hj=>by
     have hj':j<len:=by simp only[CL.ncell,ag6]at hj;omega
     have e1:rdv W b (off+j)=.int k (zs.getD j 0):=by unfold rdv;rw[hcell' j (by omega)];rfl
     have e2:(zs.take len).getD j 0=zs.getD j 0:=by simp only[agt,ah7 hj']
     rw[e1];show Rep (lu W) W noI (.int k ((zs.take len).getD j 0)) _;rw[e2];exact .int _ _ _)
    (fun e=>by cases e) (fun k e=>by cases e)
   rw[hlen]at hrep;exact hrep
theorem Ue:∀(n:Nat) (Q:Nat→List Int→Prop),(∀i,i<n→∃p,Q i p)→∃ps:List (List Int),ps.length=n∧∀i,i<n→Q i (ps.getD i []):=by
 intro n;induction n with
 |zero=>intro Q _;exact⟨[],rfl,fun i hi=>by omega⟩
 |succ n ih=>
  intro Q h;obtain⟨p,hp⟩:=h 0 (by omega)
  obtain⟨ps,h1,h2⟩:=ih (fun i=>Q (i+1)) (fun i hi=>h (i+1) (by omega))
  refine⟨p::ps,by simp[h1],fun i hi=>?_⟩
  cases i with
  |zero=>exact hp
  |succ i=>exact h2 i (by omega)
theorem Uf {a:Addr} {c1:List Value} (h:W.cells? 0 a 1=some c1):∃c,c1=[c]∧W.cell? a=some c:=by
 have e0:a.add 0=a:=by simp[Addr.add]
 unfold World.cells? at h;split at h
 ·simp only[List.range_succ,List.range_zero,List.nil_append,List.mapM_cons,List.mapM_nil,e0]at h
  cases hcc:W.cell? a with
  |none=>simp[hcc]at h
  |some c=>simp[hcc]at h;exact⟨c,h.symm,rfl⟩
 ·cases h
theorem NI {t u e:TypeId} {k:IntKind} (ht:P.underlying t=some (.slice u)) (hu:P.underlying u=some (.slice e)) (he:P.underlying e=some (.int k)) (hcu:P.cellsOf u=1) (hc:P.cellsOf e=1):jN enc P W t [.rows k]:=by
 intro fuel cs x h hs;rcases DataW.trod_slice ht h with⟨rfl,_⟩|⟨a,len,cap,elems,rest,n,_,rfl,_,_,hl,hm,hlen,hel,hsp1,_⟩
 ·refine⟨rfl,fun i hi=>?_⟩
  have:i=0:=by simp at hi;omega
  subst this;exact⟨.isl (.rows k []) .none,⟨[],rfl,by simp,by simp⟩,.islnil _ _ _ rfl⟩
 refine⟨rfl,fun i hi=>?_⟩;have:i=0:=by simp at hi;omega
 subst this;have hspot:a.spot=none:=hs 0 a len cap rfl;obtain⟨b,off,spot⟩:=a;simp only at hspot;subst hspot;have key:∀j,j<len→∃xs:List Int,(rd W b (off+j)).isSome=true∧Rep (lu W) W noI (.isl (.ints k xs) .none) (rdv W b (off+j))∧(∀n∈xs,(Lit.int k n).wf=true)∧xs.length≤maxLen:=by
  intro j hj;have hE:=hel j hj;rw[hcu,agP]at hE;have hy:∃y,elems[j]? =some y:=⟨_,agy (by omega)⟩
  obtain⟨y,hy⟩:=hy;rw[hy]at hE;simp only[Option.bind_eq_some_iff]at hE;obtain⟨c1,hc1,hy1⟩:=hE;obtain⟨c,rfl,hcell⟩:=Uf hc1;rw[dW,fF]at hcell;obtain⟨xs,h1,h2,h3⟩:=Ud hu he hc hy1;refine⟨xs,by rw[hcell];rfl,?_,h2,h3⟩
  unfold rdv;rw[hcell];exact h1
 obtain⟨xss,hxl,hxx⟩:=Ue len _ key;refine⟨.isl (.rows k xss) .none,⟨xss,rfl,fun x hx=>?_,by omega⟩,?_⟩
 ·obtain⟨j,hj,rfl⟩:=ah8.1 hx
  have:=hxx j (by omega)
  rw[agt,agy hj]at this;exact⟨this.2.2.1,this.2.2.2⟩
 have hcnt:(CL.rows k xss).cnt=len:=by simp[CL.cnt];omega
 have hrep:=Rep.isl (S:=lu W) (w:=W) noI (.rows k xss) .none b off cap (by rw[hcnt];exact hl)
  (fun j hj=>by
   have hj':j<len:=by simp only[CL.ncell]at hj;omega
   exact(hxx j hj').1)
  (fun j hj=>by
   have hj':j<len:=by simp only[CL.ncell]at hj;omega
   exact(hxx j hj').2.1)
  (fun e=>by cases e) (fun k e=>by cases e)
 rw[hcnt]at hrep;simpa using hrep
theorem NJ {l:List Lf} {ls:List (List Lf)} {i:Nat} (h:i<l.length):(l++ls.flatten).getD i default=l.getD i default:=by
 simp only[agt,List.getElem?_append_left h]
theorem JM:∀{fs:List Field} {o:Nat} {lss:List (List Lf)},Bt enc P W fs o lss→∀i,i<lss.flatten.length→
 ∃(k:Nat) (f:Field) (l:List Lf) (j:Nat),fs[k]? =some f∧f.offset+j=o+i∧P.cellsOf f.type=l.length∧jN enc P W f.type l∧j<l.length∧l.getD j default=lss.flatten.getD i default:=by
 intro fs;induction fs with
 |nil=>
  intro o lss h i hi;cases lss with
  |nil=>simp at hi
  |cons l ls=>exact h.elim
 |cons f fs ih=>
  intro o lss h i hi;cases lss with
  |nil=>exact h.elim
  |cons l ls=>
   obtain⟨⟨h1,h2,h3⟩,h4⟩:=h;rw[ah9,ahx]at hi;by_cases hl:i<l.length
   ·exact⟨0,f,l,i,rfl,by omega,h2,h3,hl,by rw[ah9,NJ hl]⟩
   ·obtain⟨k,f',l',j,a1,a2,a3,a4,a5,a6⟩:=ih h4 (i-l.length) (by omega)
    refine⟨k+1,f',l',j,a1,by omega,a3,a4,a5,?_⟩
    rw[a6,ah9];simp only[agt,List.getElem?_append_right (by omega:l.length≤i)]
theorem Di {cs:List Value} {o n j:Nat} (h:j<n):((cs.drop o).take n).getD j undef=cs.getD (o+j) undef:=by
 simp only[agt,ah7 h,List.getElem?_drop]
theorem QN {cs:List Value} (hs:∀i,vO (cs.getD i undef)) (o n:Nat):∀i,vO (((cs.drop o).take n).getD i undef):=by
 intro i;by_cases h:i<n
 ·rw[Di h];exact hs _
 ·have:((cs.drop o).take n).getD i undef=undef:=by
   rw[agt,aia (by simp;omega)];rfl
  rw[this];rintro a n c he;cases he
theorem vP {t:TypeId} {fs:Array Field} {lss:List (List Lf)} (ht:P.underlying t=some (.struct fs)) (hF:Bt enc P W fs.toList 0 lss) (hc:P.cellsOf t=lss.flatten.length):jN enc P W t lss.flatten:=by
 intro fuel cs x h hs;obtain⟨xs,n,_,_,hl,hlen,hf⟩:=DataW.trod_struct ht h;refine⟨by rw[hl,hc],fun i hi=>?_⟩
 obtain⟨k,f,l,j,a1,a2,a3,a4,a5,a6⟩:=JM hF i hi;have hfk:fs[k]? =some f:=by simpa using a1
 have hk:k<xs.length:=by rw[hlen];exact(Array.getElem?_eq_some_iff.1 hfk).1
 have h1:=hf k f hfk;rw[agy hk]at h1;obtain⟨_,h2⟩:=a4 _ _ _ h1 (QN hs _ _);obtain⟨p,hp,hr⟩:=h2 j a5;rw[Di (by omega)]at hr
 rw[a6]at hp;have:f.offset+j=i:=by omega
 rw[this]at hr;exact⟨p,hp,hr⟩
theorem ZF {Q:Nat→PV→Prop}:∀(n:Nat) (Q:Nat→PV→Prop),(∀i,i<n→∃p,Q i p)→∃ps:List PV,ps.length=n∧∀i,i<n→Q i (aD ps i):=by
 intro n;induction n with
 |zero=>intro Q _;exact⟨[],rfl,fun i hi=>by omega⟩
 |succ n ih=>
  intro Q h;obtain⟨p,hp⟩:=h 0 (by omega)
  obtain⟨ps,h1,h2⟩:=ih (fun i=>Q (i+1)) (fun i hi=>h (i+1) (by omega))
  refine⟨p::ps,by simp[h1],fun i hi=>?_⟩
  cases i with
  |zero=>exact hp
  |succ i=>exact h2 i (by omega)
theorem Gp {t:TypeId} {ls:List Lf} {v:Value} {d:DataW H} {qs:List MemPlace} {r:Reach} {base:Nat} (ht:(∃fs,P.underlying t=some (.struct fs))∨∃n e,P.underlying t=some (.array n e)) (hO:jN enc P W t ls) (hval:Value.okWide P W r base t v) (hd:DataW.Trod enc P W 0 (fun _=>true) true t v d qs):
 ∃ps:List PV,ps.length=ls.length∧(∀i,i<ls.length→ac9 (ls.getD i default) (aD ps i))∧Rep (lu W) W noI (.agg ps) v:=by
 have hv:∃cs,v=.agg cs∧Row.okWide P W r base t cs:=by
  unfold Value.okWide at hval;rcases ht with⟨fs,ht⟩|⟨n,e,ht⟩<;>rw[ht]at hval<;>exact⟨hval.choose,hval.choose_spec.1,hval.choose_spec.2.2⟩
 obtain⟨cs,rfl,hrow⟩:=hv;obtain⟨fuel,hf⟩:=hd;have hcells:(Value.agg cs).cells.toList=cs.toList:=rfl;rw[hcells]at hf;obtain⟨h1,h2⟩:=hO _ _ _ hf (JL hrow);obtain⟨ps,p1,p2⟩:=ZF (Q:=fun _ _=>True) ls.length _ h2;refine⟨ps,p1,fun i hi=>(p2 i hi).1,.agg _ _ _ (by rw[p1,←h1];simp) fun i hi=>?_⟩
 have:=(p2 i (by omega)).2
 simpa [agq,agt]using this
end
theorem Ug {P:Program} {g:FuncId} {args:List PV} {vs:Array Value} {W:World} (h:aF P g args (.bp true)) (hr:bC (lu W) W noI args vs) (hg:gB (lu W) W):
 Calls P g vs W fun e w'=>e=.returned (.bool true)∧Below W.heap.size W w':=by
 have:=(h.2 (lu W) W vs hg (fun _ _ h=>h) hr);refine callsIn_wide.1 (CallsIn.mono (F:=Fw none) this ?_)
 rintro e w' ⟨val,S',rfl,o⟩
 have hv:=o.rep;exact⟨by cases hv;rfl,⟨o.below.os,o.below.tape,o.below.output,o.below.size,o.same⟩⟩
section
variable {H:Type} {enc:TypeId × Value→H} {P:Program}
theorem D7 (hl:laidOutB P=true) {W W':World} {sp:Nat→Bool} (hB:Below W.heap.size W W'):∀{ts:List TypeId} {vs:List Value} {ds:List (DataW H)} {ps:List MemPlace},ts.all (fun t=>P.readableRec t&&decide (t<P.types.size))=true→
 DataW.TrodAll enc P W 0 (fun _=>true) true ts vs ds ps→(∀x∈ps,x.block<W.heap.size)→(∀x∈ps,sp x.block=true)→DataW.TrodAll enc P W' 0 sp true ts vs ds ps:=by
 intro ts;induction ts with
 |nil=>
  intro vs ds ps _ h _ _;cases vs<;>cases ds<;>first|exact h|exact h.elim
 |cons t ts ih=>
  intro vs ds ps ha h hlt hs;cases vs with
  |nil=>exact h.elim
  |cons v vs=>
   cases ds with
   |nil=>exact h.elim
   |cons d ds=>
    obtain⟨p,q,h1,h2,rfl⟩:=h;simp only[List.all_cons,Bool.and_eq_true,decide_eq_true_eq]at ha;refine⟨p,q,WideElems.Trod_stays hl ha.1.1 ha.1.2 h1 (fun x hx=>hB.same (hlt x (by simp[hx]))) (fun x hx=>hs x (by simp[hx])),ih ha.2 h2 (fun x hx=>hlt x (by simp[hx])) (fun x hx=>hs x (by simp[hx])),rfl⟩
theorem Uh {f:Func} {s:ChangeSpec} {W W':World} {args:Array Value} {ds gs:List (DataW H)} {before:List MemPlace} {tb:TypeId} (hl:laidOutB P=true) (hres:f.resultTypes= #[tb]) (htb:P.underlying tb=some .bool)
 (hread:f.params.toList.all (fun t=>P.readableRec t&&decide (t<P.types.size))=true) (hv:s.vars=[]) (hfn:s.fn H ds={results:=[.lit (.bool true)],args:=ds})
 (hW:DataW.Whole enc P f.params.toList s.vars false W args.toList ds gs before) (hB:Below W.heap.size W W'):s.post enc P f false true false false W args (.bool true) W':=by
 have hW':=hW;obtain⟨p,q,hA,hV,rfl,hfz,hnd⟩:=hW;rw[hv]at hV;obtain⟨rfl,rfl⟩:=trodVars_none hV;have hlt:∀x∈p,x.block<W.heap.size:=fun x hx=>by simpa using hW'.lt x (by simp[hx])
 refine⟨ds,[],p++[],[],p,[],hW',?_,?_,?_,hB.frame _,fun h=>by cases h⟩
 ·rw[aib,hfn,hres]
  exact trodAll_mk1 (shut_bool htb true)
 ·rw[aib,hfn]
  exact D7 hl hB hread hA hlt (fun x hx=>by simpa using hlt x hx)
 ·rw[aib,hfn,hv]
  exact rfl
end
end Go.Eng
namespace Go.Eng.YtcechbdgokjmgaaGreatDoor
open Go.Proofs Go.Proofs.YtcechbdgokjmgaaGreatDoor Go.RowKit Go.ChangeShapes Go.WideShapes
set_option linter.unusedVariables false
theorem own:ownKnob Tryz.prog.godebug=none:=by kernel_rfl
theorem laidOut:laidOutB Tryz.prog=true:=by kernel_rfl
abbrev tQ:List (String × DataW Unit):=[("math/bits.deBruijn32tab",Rows.laid_math_bits_deBruijn32tab),("math/bits.deBruijn64tab",Rows.laid_math_bits_deBruijn64tab),("internal/strconv.uint64pow10",Rows.laid_internal_strconv_uint64pow10),("unicode/utf8.acceptRanges",Rows.laid_unicode_utf8_acceptRanges),("strconv.ErrRange",Rows.laid_strconv_ErrRange),("strconv.ErrSyntax",Rows.laid_strconv_ErrSyntax),("unicode/utf8.first",Rows.laid_unicode_utf8_first)]
theorem Ui (os:Os) (args:Array Value):laidMetH Tryz.prog tQ ((World.laidAll Tryz.prog os tQ).forCall (fun _ _=>0) ⟨#[],args,[]⟩).memory:=by
 rw[Go.MakeChecks.laidMetH_plain _ _ _ (by kernel_rfl)]
 exact laidMet_laidAll _ (by kernel_rfl) (by kernel_rfl)
theorem Gq {W:World} {name:String} {k:IntKind} {zs:List Int} {g:Nat} (hg:Tryz.prog.globalNamed name=some g) (h:Lib.TabIs Tryz.prog W name k zs):
 bsz W g=some (CL.ints k zs).ncell∧∀j,j<(CL.ints k zs).ncell→lu W g j∧Rep (lu W) W noI ((CL.ints k zs).get j) (rdv W g j):=by
 unfold Lib.TabIs World.var? at h;rw[hg,ahF]at h;split at h
 ·rename_i cs e f hb
  have h:=Option.some.inj h;subst h;refine⟨by simp[bsz,hb,CL.ncell],fun j hj=>?_⟩
  simp only[CL.ncell]at hj;have hr:rd W g j=some (.int k (zs.getD j 0)):=by simp[rd,hb,hj]
  refine⟨by show(rd W g j).isSome=true;rw[hr];rfl,?_⟩
  have:rdv W g j=.int k (zs.getD j 0):=by unfold rdv;rw[hr];rfl
  rw[this];exact .int _ _ _
 ·cases h
theorem ZG {W:World} (h:laidMetH Tryz.prog tQ W):gB (lu W) W:=by
 rw[Go.MakeChecks.laidMetH_plain _ _ _ (by kernel_rfl)]at h
 have t2:Lib.TabIs Tryz.prog W "math/bits.deBruijn32tab" .u8 rz:=Lib.tabIs_of_head (k:=.u8) (zs:=rz) (g:=0) (t:=285) (e:=5) (n:=32) (by kernel_rfl) (by kernel_rfl) (by kernel_rfl) (by kernel_rfl) (by kernel_rfl) (by kernel_rfl) h
 have t3:Lib.TabIs Tryz.prog W "math/bits.deBruijn64tab" .u8 EZ:=Lib.tabIs_of_head (k:=.u8) (zs:=EZ) (g:=7) (t:=323) (e:=5) (n:=64) (by kernel_rfl) (by kernel_rfl) (by kernel_rfl) (by kernel_rfl) (by kernel_rfl) (by kernel_rfl) h.tail
 have t0:Lib.TabIs Tryz.prog W "internal/strconv.uint64pow10" .u64 nP:=Lib.tabIs_of_head (k:=.u64) (zs:=nP) (g:=2) (t:=289) (e:=275) (n:=20) (by kernel_rfl) (by kernel_rfl) (by kernel_rfl) (by kernel_rfl) (by kernel_rfl) (by kernel_rfl) h.tail.tail
 intro g c hc;unfold wK at hc;split at hc
 ·cases hc;exact Gq (by kernel_rfl) t2
 ·cases hc;exact Gq (by kernel_rfl) t0
 ·cases hc;exact Gq (by kernel_rfl) t3
 ·cases hc
section
variable {H:Type} {enc:TypeId × Value→H} {W:World}
theorem o3:jN enc Tryz.prog W 3 [.int .i64]:=QM Tryz.underlying3
theorem o25:jN enc Tryz.prog W 25 [.ints .i64]:=NG Tryz.underlying25 Tryz.underlying3 (by kernel_rfl)
theorem o22:jN enc Tryz.prog W 22 [.rows .i64]:=NI Tryz.underlying22 Tryz.underlying25 Tryz.underlying3 (by kernel_rfl) (by kernel_rfl)
theorem o24:jN enc Tryz.prog W 24 [.int .i64,.rows .i64]:=
 vP (lss:=[[.int .i64],[.rows .i64]]) Tryz.underlying24 ⟨⟨rfl,by kernel_rfl,o3⟩,⟨rfl,by kernel_rfl,o22⟩,trivial⟩ (by kernel_rfl)
theorem o4:jN enc Tryz.prog W 4 [.bool]:=NH Tryz.underlying4
theorem o85:jN enc Tryz.prog W 85 [.ints .i64,.ints .i64,.int .i64]:=
 vP (lss:=[[.ints .i64],[.ints .i64],[.int .i64]]) Tryz.underlying85 ⟨⟨rfl,by kernel_rfl,o25⟩,⟨rfl,by kernel_rfl,o25⟩,⟨rfl,by kernel_rfl,o3⟩,trivial⟩ (by kernel_rfl)
end
end Go.Eng.YtcechbdgokjmgaaGreatDoor
namespace Go.Proofs
open Go.Shelf
def Tryz.lays103_ren:Go.Shelf.Ren:=⟨fun|103=>229|210=>249|206=>270|n=>n,fun|9=>9|4=>4|24=>272|3=>3|n=>n,fun|n=>n⟩
theorem Tryz.lays103:Go.Proofs.Lays.n103 Tryz.prog Tryz.lays103_ren:={
 mixed:=by kernel_rfl
 f103:=Tryz.func229.trans (congrArg some (by kernel_rfl))
 f206:=Tryz.func270.trans (congrArg some (by kernel_rfl))
 f210:=Tryz.func249.trans (congrArg some (by kernel_rfl))
 t3:=Tryz.underlying3
 a3:=Tryz.isAgg3
 z3:=Tryz.sizeOf3
 v3:=Tryz.zeroValue3
 t4:=Tryz.underlying4
 a4:=Tryz.isAgg4
 z4:=Tryz.sizeOf4
 v4:=Tryz.zeroValue4
 t9:=Tryz.underlying9
 a9:=Tryz.isAgg9
 z9:=Tryz.sizeOf9
 v9:=Tryz.zeroValue9
 t24:=Tryz.underlying272
 a24:=Tryz.isAgg272
 z24:=Tryz.sizeOf272
 v24:=Tryz.zeroValue272}
open Go.RowKit in
theorem Tryz.strings_CutPrefix (s p:ByteArray) (w:World):
 Calls Tryz.prog 229 #[.string s,.string p] w fun e w'=>e=.returned (.tuple #[.string ⟨(Lib.trimPrefix s.data.toList p.data.toList).toArray⟩,.bool (Lib.hasPrefix s.data.toList p.data.toList)])∧w'=w:=Any.strings_CutPrefix Tryz.lays103 s p w
def Tryz.lays172_ren:Go.Shelf.Ren:=⟨fun|172=>230|244=>250|245=>251|247=>271|279=>272|280=>273|281=>274|282=>275|287=>283|316=>284|171=>129|205=>285|321=>287|322=>288|243=>171|246=>209|283=>233|284=>234|285=>235|286=>236|129=>253|317=>252|318=>254|319=>255|320=>256|337=>220|338=>276|n=>n,fun|9=>9|3=>3|75=>165|76=>166|4=>4|5=>5|167=>305|37=>161|0=>0|85=>306|2=>2|168=>308|53=>275|175=>317|46=>284|210=>321|127=>229|145=>329|143=>327|21=>21|171=>274|173=>278|212=>289|51=>154|20=>20|213=>290|232=>285|233=>323|80=>173|n=>n,fun|15=>5|16=>6|17=>2|18=>0|19=>7|n=>n⟩
theorem Tryz.lays172:Go.Proofs.Lays.n172 Tryz.prog Tryz.lays172_ren:={
 mixed:=by kernel_rfl
 f129:=Tryz.func253.trans (congrArg some (by kernel_rfl))
 f171:=Tryz.func129.trans (congrArg some (by kernel_rfl))
 f172:=Tryz.func230.trans (congrArg some (by kernel_rfl))
 f205:=Tryz.func285.trans (congrArg some (by kernel_rfl))
 f243:=Tryz.func171.trans (congrArg some (by kernel_rfl))
 f244:=Tryz.func250.trans (congrArg some (by kernel_rfl))
 f245:=Tryz.func251.trans (congrArg some (by kernel_rfl))
 f246:=Tryz.func209.trans (congrArg some (by kernel_rfl))
 f247:=Tryz.func271.trans (congrArg some (by kernel_rfl))
 f279:=Tryz.func272.trans (congrArg some (by kernel_rfl))
 f280:=Tryz.func273.trans (congrArg some (by kernel_rfl))
 f281:=Tryz.func274.trans (congrArg some (by kernel_rfl))
 f282:=Tryz.func275.trans (congrArg some (by kernel_rfl))
 f283:=Tryz.func233.trans (congrArg some (by kernel_rfl))
 f284:=Tryz.func234.trans (congrArg some (by kernel_rfl))
 f285:=Tryz.func235.trans (congrArg some (by kernel_rfl))
 f286:=Tryz.func236.trans (congrArg some (by kernel_rfl))
 f287:=Tryz.func283.trans (congrArg some (by kernel_rfl))
 f316:=Tryz.func284.trans (congrArg some (by kernel_rfl))
 f317:=Tryz.func252.trans (congrArg some (by kernel_rfl))
 f318:=Tryz.func254.trans (congrArg some (by kernel_rfl))
 f319:=Tryz.func255.trans (congrArg some (by kernel_rfl))
 f320:=Tryz.func256.trans (congrArg some (by kernel_rfl))
 f321:=Tryz.func287.trans (congrArg some (by kernel_rfl))
 f322:=Tryz.func288.trans (congrArg some (by kernel_rfl))
 f337:=Tryz.func220.trans (congrArg some (by kernel_rfl))
 f338:=Tryz.func276.trans (congrArg some (by kernel_rfl))
 t0:=Tryz.underlying0
 a0:=Tryz.isAgg0
 z0:=Tryz.sizeOf0
 v0:=Tryz.zeroValue0
 t2:=Tryz.underlying2
 a2:=Tryz.isAgg2
 z2:=Tryz.sizeOf2
 v2:=Tryz.zeroValue2
 t3:=Tryz.underlying3
 a3:=Tryz.isAgg3
 z3:=Tryz.sizeOf3
 v3:=Tryz.zeroValue3
 t4:=Tryz.underlying4
 a4:=Tryz.isAgg4
 z4:=Tryz.sizeOf4
 v4:=Tryz.zeroValue4
 t5:=Tryz.underlying5
 a5:=Tryz.isAgg5
 z5:=Tryz.sizeOf5
 v5:=Tryz.zeroValue5
 t9:=Tryz.underlying9
 a9:=Tryz.isAgg9
 z9:=Tryz.sizeOf9
 v9:=Tryz.zeroValue9
 t20:=Tryz.underlying20
 a20:=Tryz.isAgg20
 z20:=Tryz.sizeOf20
 v20:=Tryz.zeroValue20
 t21:=Tryz.underlying21
 a21:=Tryz.isAgg21
 z21:=Tryz.sizeOf21
 v21:=Tryz.zeroValue21
 t37:=Tryz.underlying161
 a37:=Tryz.isAgg161
 z37:=Tryz.sizeOf161
 v37:=Tryz.zeroValue161
 t46:=Tryz.underlying284
 a46:=Tryz.isAgg284
 z46:=Tryz.sizeOf284
 v46:=Tryz.zeroValue284
 t51:=Tryz.underlying154
 a51:=Tryz.isAgg154
 z51:=Tryz.sizeOf154
 v51:=Tryz.zeroValue154
 t53:=Tryz.underlying275
 a53:=Tryz.isAgg275
 z53:=Tryz.sizeOf275
 v53:=Tryz.zeroValue275
 t75:=Tryz.underlying165
 a75:=Tryz.isAgg165
 z75:=Tryz.sizeOf165
 v75:=Tryz.zeroValue165
 t76:=Tryz.underlying166
 a76:=Tryz.isAgg166
 z76:=Tryz.sizeOf166
 v76:=Tryz.zeroValue166
 t85:=Tryz.underlying306
 a85:=Tryz.isAgg306
 z85:=Tryz.sizeOf306
 v85:=Tryz.zeroValue306
 t127:=Tryz.underlying229
 a127:=Tryz.isAgg229
 z127:=Tryz.sizeOf229
 v127:=Tryz.zeroValue229
 t143:=Tryz.underlying327
 a143:=Tryz.isAgg327
 z143:=Tryz.sizeOf327
 v143:=Tryz.zeroValue327
 t145:=Tryz.underlying329
 a145:=Tryz.isAgg329
 z145:=Tryz.sizeOf329
 v145:=Tryz.zeroValue329
 t167:=Tryz.underlying305
 a167:=Tryz.isAgg305
 z167:=Tryz.sizeOf305
 v167:=Tryz.zeroValue305
 t168:=Tryz.underlying308
 a168:=Tryz.isAgg308
 z168:=Tryz.sizeOf308
 v168:=Tryz.zeroValue308
 t171:=Tryz.underlying274
 a171:=Tryz.isAgg274
 z171:=Tryz.sizeOf274
 v171:=Tryz.zeroValue274
 t173:=Tryz.underlying278
 a173:=Tryz.isAgg278
 z173:=Tryz.sizeOf278
 v173:=Tryz.zeroValue278
 t175:=Tryz.underlying317
 a175:=Tryz.isAgg317
 z175:=Tryz.sizeOf317
 v175:=Tryz.zeroValue317
 t210:=Tryz.underlying321
 a210:=Tryz.isAgg321
 z210:=Tryz.sizeOf321
 v210:=Tryz.zeroValue321
 t212:=Tryz.underlying289
 a212:=Tryz.isAgg289
 z212:=Tryz.sizeOf289
 v212:=Tryz.zeroValue289
 t213:=Tryz.underlying290
 a213:=Tryz.isAgg290
 z213:=Tryz.sizeOf290
 t232:=Tryz.underlying285
 a232:=Tryz.isAgg285
 z232:=Tryz.sizeOf285
 v232:=Tryz.zeroValue285
 t233:=Tryz.underlying323
 a233:=Tryz.isAgg323
 z233:=Tryz.sizeOf323
 v233:=Tryz.zeroValue323
 g15:=by kernel_rfl
 g16:=by kernel_rfl
 g17:=by kernel_rfl
 g18:=by kernel_rfl
 g19:=by kernel_rfl}
open Go.RowKit in
theorem Tryz.strconv_Atoi (s:ByteArray) (n:Int) (hl:s.size≤18) (h:Lib.atoi s.data.toList=some n) (w:World):
 Calls Tryz.prog 230 #[.string s] w fun e w'=>e=.returned (.tuple #[.int .i64 n,.nilIface])∧∃t,w'=Lib.bytesWorld w 5 t:=Any.strconv_Atoi Tryz.lays172 s n hl h w
def Tryz.lays143_ren:Go.Shelf.Ren:=⟨fun|143=>201|219=>228|217=>245|225=>246|224=>247|267=>248|266=>268|314=>269|n=>n,fun|9=>9|3=>3|4=>4|5=>5|46=>284|146=>303|51=>154|n=>n,fun|1=>1|n=>n⟩
theorem Tryz.lays143:Go.Proofs.Lays.n143 Tryz.prog Tryz.lays143_ren:={
 mixed:=by kernel_rfl
 f143:=Tryz.func201.trans (congrArg some (by kernel_rfl))
 f217:=Tryz.func245.trans (congrArg some (by kernel_rfl))
 f219:=Tryz.func228.trans (congrArg some (by kernel_rfl))
 f224:=Tryz.func247.trans (congrArg some (by kernel_rfl))
 f225:=Tryz.func246.trans (congrArg some (by kernel_rfl))
 f266:=Tryz.func268.trans (congrArg some (by kernel_rfl))
 f267:=Tryz.func248.trans (congrArg some (by kernel_rfl))
 f314:=Tryz.func269.trans (congrArg some (by kernel_rfl))
 t3:=Tryz.underlying3
 a3:=Tryz.isAgg3
 z3:=Tryz.sizeOf3
 v3:=Tryz.zeroValue3
 t4:=Tryz.underlying4
 a4:=Tryz.isAgg4
 z4:=Tryz.sizeOf4
 v4:=Tryz.zeroValue4
 t5:=Tryz.underlying5
 a5:=Tryz.isAgg5
 z5:=Tryz.sizeOf5
 v5:=Tryz.zeroValue5
 t9:=Tryz.underlying9
 a9:=Tryz.isAgg9
 z9:=Tryz.sizeOf9
 v9:=Tryz.zeroValue9
 t46:=Tryz.underlying284
 a46:=Tryz.isAgg284
 z46:=Tryz.sizeOf284
 v46:=Tryz.zeroValue284
 t51:=Tryz.underlying154
 a51:=Tryz.isAgg154
 z51:=Tryz.sizeOf154
 v51:=Tryz.zeroValue154
 t146:=Tryz.underlying303
 a146:=Tryz.isAgg303
 z146:=Tryz.sizeOf303
 v146:=Tryz.zeroValue303
 g1:=by kernel_rfl}
open Go.RowKit Go.Lib in
theorem Tryz.strings_Index_one (s:ByteArray) (c:UInt8) (w:World):
 Calls Tryz.prog 201 #[.string s,.string ⟨#[c]⟩] w fun e w'=>e=.returned (.int .i64 (Lib.indexByte s.data.toList c))∧w'=w:=Any.strings_Index_one Tryz.lays143 s c w
def Tryz.lays138_ren:Go.Shelf.Ren:=⟨fun|138=>200|195=>225|218=>227|143=>201|219=>228|217=>245|225=>246|224=>247|267=>248|266=>268|314=>269|n=>n,fun|9=>9|3=>3|4=>4|5=>5|0=>0|46=>284|146=>303|51=>154|n=>n,fun|1=>1|n=>n⟩
theorem Tryz.lays138:Go.Proofs.Lays.n138 Tryz.prog Tryz.lays138_ren:={
 mixed:=by kernel_rfl
 f138:=Tryz.func200.trans (congrArg some (by kernel_rfl))
 f143:=Tryz.func201.trans (congrArg some (by kernel_rfl))
 f195:=Tryz.func225.trans (congrArg some (by kernel_rfl))
 f217:=Tryz.func245.trans (congrArg some (by kernel_rfl))
 f218:=Tryz.func227.trans (congrArg some (by kernel_rfl))
 f219:=Tryz.func228.trans (congrArg some (by kernel_rfl))
 f224:=Tryz.func247.trans (congrArg some (by kernel_rfl))
 f225:=Tryz.func246.trans (congrArg some (by kernel_rfl))
 f266:=Tryz.func268.trans (congrArg some (by kernel_rfl))
 f267:=Tryz.func248.trans (congrArg some (by kernel_rfl))
 f314:=Tryz.func269.trans (congrArg some (by kernel_rfl))
 t0:=Tryz.underlying0
 a0:=Tryz.isAgg0
 z0:=Tryz.sizeOf0
 v0:=Tryz.zeroValue0
 t3:=Tryz.underlying3
 a3:=Tryz.isAgg3
 z3:=Tryz.sizeOf3
 v3:=Tryz.zeroValue3
 t4:=Tryz.underlying4
 a4:=Tryz.isAgg4
 z4:=Tryz.sizeOf4
 v4:=Tryz.zeroValue4
 t5:=Tryz.underlying5
 a5:=Tryz.isAgg5
 z5:=Tryz.sizeOf5
 v5:=Tryz.zeroValue5
 t9:=Tryz.underlying9
 a9:=Tryz.isAgg9
 z9:=Tryz.sizeOf9
 v9:=Tryz.zeroValue9
 t46:=Tryz.underlying284
 a46:=Tryz.isAgg284
 z46:=Tryz.sizeOf284
 v46:=Tryz.zeroValue284
 t51:=Tryz.underlying154
 a51:=Tryz.isAgg154
 z51:=Tryz.sizeOf154
 v51:=Tryz.zeroValue154
 t146:=Tryz.underlying303
 a146:=Tryz.isAgg303
 z146:=Tryz.sizeOf303
 v146:=Tryz.zeroValue303
 g1:=by kernel_rfl}
open Go.RowKit Go.Lib in
theorem Tryz.strings_Count_one (s:ByteArray) (c:UInt8) (w:World):
 Calls Tryz.prog 200 #[.string s,.string ⟨#[c]⟩] w fun e w'=>e=.returned (.int .i64 (Lib.countByte s.data.toList c))∧w'=w:=Any.strings_Count_one Tryz.lays138 s c w
def Tryz.lays100_ren:Go.Shelf.Ren:=⟨fun|100=>112|207=>159|n=>n,fun|9=>9|4=>4|3=>3|n=>n,fun|n=>n⟩
theorem Tryz.lays100:Go.Proofs.Lays.n100 Tryz.prog Tryz.lays100_ren:={
 mixed:=by kernel_rfl
 f100:=Tryz.func112.trans (congrArg some (by kernel_rfl))
 f207:=Tryz.func159.trans (congrArg some (by kernel_rfl))
 t3:=Tryz.underlying3
 a3:=Tryz.isAgg3
 z3:=Tryz.sizeOf3
 v3:=Tryz.zeroValue3
 t4:=Tryz.underlying4
 a4:=Tryz.isAgg4
 z4:=Tryz.sizeOf4
 v4:=Tryz.zeroValue4
 t9:=Tryz.underlying9
 a9:=Tryz.isAgg9
 z9:=Tryz.sizeOf9
 v9:=Tryz.zeroValue9}
open Go.RowKit Go.Lib in
theorem Tryz.strings_HasSuffix (s p:ByteArray) (w:World) (hs:s.size≤9223372036854775807):
 Calls Tryz.prog 112 #[.string s,.string p] w fun e w'=>e=.returned (.bool (Lib.hasSuffix s.data.toList p.data.toList))∧w'=w:=Any.strings_HasSuffix Tryz.lays100 s p w hs
def Tryz.lays102_ren:Go.Shelf.Ren:=⟨fun|102=>114|209=>161|207=>159|n=>n,fun|9=>9|4=>4|3=>3|n=>n,fun|n=>n⟩
theorem Tryz.lays102:Go.Proofs.Lays.n102 Tryz.prog Tryz.lays102_ren:={
 mixed:=by kernel_rfl
 f102:=Tryz.func114.trans (congrArg some (by kernel_rfl))
 f207:=Tryz.func159.trans (congrArg some (by kernel_rfl))
 f209:=Tryz.func161.trans (congrArg some (by kernel_rfl))
 t3:=Tryz.underlying3
 a3:=Tryz.isAgg3
 z3:=Tryz.sizeOf3
 v3:=Tryz.zeroValue3
 t4:=Tryz.underlying4
 a4:=Tryz.isAgg4
 z4:=Tryz.sizeOf4
 v4:=Tryz.zeroValue4
 t9:=Tryz.underlying9
 a9:=Tryz.isAgg9
 z9:=Tryz.sizeOf9
 v9:=Tryz.zeroValue9}
open Go.RowKit Go.Lib in
theorem Tryz.strings_TrimSuffix (s p:ByteArray) (w:World) (hs:s.size≤9223372036854775807):
 Calls Tryz.prog 114 #[.string s,.string p] w fun e w'=>e=.returned (.string ⟨(Lib.trimSuffix s.data.toList p.data.toList).toArray⟩)∧w'=w:=Any.strings_TrimSuffix Tryz.lays102 s p w hs
def Tryz.lays221_ren:Go.Shelf.Ren:=⟨fun|221=>160|268=>199|138=>200|143=>201|195=>225|197=>226|218=>227|219=>228|260=>244|217=>245|225=>246|224=>247|267=>248|266=>268|314=>269|n=>n,fun|9=>9|3=>3|31=>169|4=>4|0=>0|105=>269|21=>21|5=>5|46=>284|119=>299|139=>302|138=>301|146=>303|51=>154|n=>n,fun|1=>1|3=>3|4=>4|n=>n⟩
theorem Tryz.lays221:Go.Proofs.Lays.n221 Tryz.prog Tryz.lays221_ren:={
 mixed:=by kernel_rfl
 f138:=Tryz.func200.trans (congrArg some (by kernel_rfl))
 f143:=Tryz.func201.trans (congrArg some (by kernel_rfl))
 f195:=Tryz.func225.trans (congrArg some (by kernel_rfl))
 f197:=Tryz.func226.trans (congrArg some (by kernel_rfl))
 f217:=Tryz.func245.trans (congrArg some (by kernel_rfl))
 f218:=Tryz.func227.trans (congrArg some (by kernel_rfl))
 f219:=Tryz.func228.trans (congrArg some (by kernel_rfl))
 f221:=Tryz.func160.trans (congrArg some (by kernel_rfl))
 f224:=Tryz.func247.trans (congrArg some (by kernel_rfl))
 f225:=Tryz.func246.trans (congrArg some (by kernel_rfl))
 f260:=Tryz.func244.trans (congrArg some (by kernel_rfl))
 f266:=Tryz.func268.trans (congrArg some (by kernel_rfl))
 f267:=Tryz.func248.trans (congrArg some (by kernel_rfl))
 f268:=Tryz.func199.trans (congrArg some (by kernel_rfl))
 f314:=Tryz.func269.trans (congrArg some (by kernel_rfl))
 t0:=Tryz.underlying0
 a0:=Tryz.isAgg0
 z0:=Tryz.sizeOf0
 v0:=Tryz.zeroValue0
 t3:=Tryz.underlying3
 a3:=Tryz.isAgg3
 z3:=Tryz.sizeOf3
 v3:=Tryz.zeroValue3
 t4:=Tryz.underlying4
 a4:=Tryz.isAgg4
 z4:=Tryz.sizeOf4
 v4:=Tryz.zeroValue4
 t5:=Tryz.underlying5
 a5:=Tryz.isAgg5
 z5:=Tryz.sizeOf5
 v5:=Tryz.zeroValue5
 t9:=Tryz.underlying9
 a9:=Tryz.isAgg9
 z9:=Tryz.sizeOf9
 v9:=Tryz.zeroValue9
 t21:=Tryz.underlying21
 a21:=Tryz.isAgg21
 z21:=Tryz.sizeOf21
 v21:=Tryz.zeroValue21
 t31:=Tryz.underlying169
 a31:=Tryz.isAgg169
 z31:=Tryz.sizeOf169
 v31:=Tryz.zeroValue169
 t46:=Tryz.underlying284
 a46:=Tryz.isAgg284
 z46:=Tryz.sizeOf284
 v46:=Tryz.zeroValue284
 t51:=Tryz.underlying154
 a51:=Tryz.isAgg154
 z51:=Tryz.sizeOf154
 v51:=Tryz.zeroValue154
 t105:=Tryz.underlying269
 a105:=Tryz.isAgg269
 z105:=Tryz.sizeOf269
 v105:=Tryz.zeroValue269
 t119:=Tryz.underlying299
 a119:=Tryz.isAgg299
 z119:=Tryz.sizeOf299
 t138:=Tryz.underlying301
 a138:=Tryz.isAgg301
 z138:=Tryz.sizeOf301
 v138:=Tryz.zeroValue301
 t139:=Tryz.underlying302
 a139:=Tryz.isAgg302
 z139:=Tryz.sizeOf302
 v139:=Tryz.zeroValue302
 t146:=Tryz.underlying303
 a146:=Tryz.isAgg303
 z146:=Tryz.sizeOf303
 v146:=Tryz.zeroValue303
 g1:=by kernel_rfl
 g3:=by kernel_rfl
 g4:=by kernel_rfl}
open Go.RowKit Go.Lib in
theorem Tryz.genSplit_one (s:ByteArray) (c:UInt8) (w:World) (hs:s.size<4294967281):
 Calls Tryz.prog 160 #[.string s,.string ⟨#[c]⟩,.int .i64 (0:Nat),.int .i64 (-1)] w fun e w'=>
  e=.returned (.slice (some ⟨w.heap.size,0,none⟩) (Lib.splitB ⟨#[c]⟩ 0 (Lib.countB s ⟨#[c]⟩) s).length (Lib.countB s ⟨#[c]⟩+1))∧w'=w.alloc (.cells (Lib.cellsOf (Lib.splitB ⟨#[c]⟩ 0 (Lib.countB s ⟨#[c]⟩) s) (Lib.countB s ⟨#[c]⟩+1)) 9):=by
 have hcl:=Lib.countB_le ⟨#[c]⟩ (agh 1) s.size s (agh _);refine Any.strings_genSplit_core Tryz.lays221 (by kernel_rfl) s ⟨#[c]⟩ 0 (-1) (Lib.countB s ⟨#[c]⟩+1) w hs (agh 1) (ag3 _) (fun x d hx=>?_) ?_ (by decide) (by decide) (by rw[if_pos (by decide)];omega)
 ·refine(Tryz.strings_Index_one x c _).mono fun e w' ⟨he,hw⟩=>⟨?_,hw⟩
  rw[he];show _=Ending.returned (Value.int .i64 (Lib.index x.data.toList [c]));rw[Lib.index_one]
 ·refine(Tryz.strings_Count_one s c w).mono fun e w' ⟨he,hw⟩=>⟨?_,hw⟩
  rw[he];show _=Ending.returned (Value.int .i64 ((Lib.count s.data.toList [c]:Nat):Int));rw[Lib.count_one];rfl
def Tryz.lays156_ren:Go.Shelf.Ren:=⟨fun|156=>158|165=>198|166=>106|169=>110|240=>157|241=>224|276=>197|277=>243|n=>n,fun|31=>169|9=>9|3=>3|4=>4|0=>0|20=>20|72=>163|76=>166|70=>160|37=>161|75=>165|127=>229|164=>252|5=>5|80=>173|n=>n,fun|n=>n⟩
theorem Tryz.lays156:Go.Proofs.Lays.n156 Tryz.prog Tryz.lays156_ren:={
 mixed:=by kernel_rfl
 f156:=Tryz.func158.trans (congrArg some (by kernel_rfl))
 f165:=Tryz.func198.trans (congrArg some (by kernel_rfl))
 f166:=Tryz.func106.trans (congrArg some (by kernel_rfl))
 f169:=Tryz.func110.trans (congrArg some (by kernel_rfl))
 f240:=Tryz.func157.trans (congrArg some (by kernel_rfl))
 f241:=Tryz.func224.trans (congrArg some (by kernel_rfl))
 f276:=Tryz.func197.trans (congrArg some (by kernel_rfl))
 f277:=Tryz.func243.trans (congrArg some (by kernel_rfl))
 t0:=Tryz.underlying0
 a0:=Tryz.isAgg0
 z0:=Tryz.sizeOf0
 v0:=Tryz.zeroValue0
 t3:=Tryz.underlying3
 a3:=Tryz.isAgg3
 z3:=Tryz.sizeOf3
 v3:=Tryz.zeroValue3
 t4:=Tryz.underlying4
 a4:=Tryz.isAgg4
 z4:=Tryz.sizeOf4
 v4:=Tryz.zeroValue4
 t9:=Tryz.underlying9
 a9:=Tryz.isAgg9
 z9:=Tryz.sizeOf9
 v9:=Tryz.zeroValue9
 t20:=Tryz.underlying20
 a20:=Tryz.isAgg20
 z20:=Tryz.sizeOf20
 v20:=Tryz.zeroValue20
 t31:=Tryz.underlying169
 a31:=Tryz.isAgg169
 z31:=Tryz.sizeOf169
 v31:=Tryz.zeroValue169
 t37:=Tryz.underlying161
 a37:=Tryz.isAgg161
 z37:=Tryz.sizeOf161
 v37:=Tryz.zeroValue161
 t70:=Tryz.underlying160
 a70:=Tryz.isAgg160
 z70:=Tryz.sizeOf160
 v70:=Tryz.zeroValue160
 t72:=Tryz.underlying163
 a72:=Tryz.isAgg163
 z72:=Tryz.sizeOf163
 v72:=Tryz.zeroValue163
 t75:=Tryz.underlying165
 a75:=Tryz.isAgg165
 z75:=Tryz.sizeOf165
 v75:=Tryz.zeroValue165
 t76:=Tryz.underlying166
 a76:=Tryz.isAgg166
 z76:=Tryz.sizeOf166
 v76:=Tryz.zeroValue166
 t127:=Tryz.underlying229
 a127:=Tryz.isAgg229
 z127:=Tryz.sizeOf229
 v127:=Tryz.zeroValue229
 t164:=Tryz.underlying252
 a164:=Tryz.isAgg252
 z164:=Tryz.sizeOf252
 v164:=Tryz.zeroValue252}
theorem Tryz.Builder_Extra_156:Builder.Extra Tryz.prog Tryz.lays156_ren:={
 sizeBuilder:=by kernel_rfl
 liesBuilder:=by kernel_rfl
 t5:=Tryz.underlying5
 a5:=Tryz.isAgg5
 z5:=Tryz.sizeOf5
 v5:=Tryz.zeroValue5
 infoByte:=by kernel_rfl
 cellsByte:=by kernel_rfl
 sizeByte:=by kernel_rfl
 neB5:=by decide}
open Go.RowKit in
theorem Tryz.strings_Join_none (a:Option Addr) (c:Nat) (sep:ByteArray) (w:World):
 Calls Tryz.prog 158 #[.slice a 0 c,.string sep] w fun e w'=>e=.returned (.string ⟨#[]⟩)∧w'=w:=Any.strings_Join_none Tryz.lays156 Tryz.Builder_Extra_156 a c sep w
open Go.RowKit in
theorem Tryz.strings_Join (bk o c:Nat) (xs:List ByteArray) (sep:ByteArray) (w:World) (hcells:∀(j:Nat) x,xs[j]? =some x→w.cell? ⟨bk,o+j,none⟩=some (.string x)) (hbk:bk<w.heap.size) (hN:xs.length≤140737488355328) (hcap:xs.length≤c) (hlen:(Lib.join (xs.map (·.data.toList)) sep.data.toList).length≤140737488355328):
 Calls Tryz.prog 158 #[.slice (some ⟨bk,o,none⟩) xs.length c,.string sep] w fun e w'=>e=.returned (.string ⟨(Lib.join (xs.map (·.data.toList)) sep.data.toList).toArray⟩)∧Below w.heap.size w w':=Any.strings_Join Tryz.lays156 Tryz.Builder_Extra_156 bk o c xs sep w hcells hbk hN hcap hlen
def Tryz.laysM171_ren:Go.Shelf.Ren:=⟨fun|171=>129|243=>171|246=>209|283=>233|284=>234|285=>235|286=>236|129=>253|317=>252|318=>254|319=>255|320=>256|337=>220|338=>276|n=>n,fun|3=>3|9=>9|2=>2|4=>4|171=>274|0=>0|53=>275|37=>161|5=>5|173=>278|212=>289|51=>154|20=>20|213=>290|46=>284|232=>285|233=>323|n=>n,fun|17=>2|18=>0|19=>7|n=>n⟩
theorem Tryz.laysM171:Go.Proofs.LaysM.n171 Tryz.prog Tryz.laysM171_ren:={
 mixed:=by kernel_rfl
 f129:=Tryz.func253.trans (congrArg some (by kernel_rfl))
 f171:=Tryz.func129.trans (congrArg some (by kernel_rfl))
 f243:=Tryz.func171.trans (congrArg some (by kernel_rfl))
 f246:=Tryz.func209.trans (congrArg some (by kernel_rfl))
 f283:=Tryz.func233.trans (congrArg some (by kernel_rfl))
 f284:=Tryz.func234.trans (congrArg some (by kernel_rfl))
 f285:=Tryz.func235.trans (congrArg some (by kernel_rfl))
 f286:=Tryz.func236.trans (congrArg some (by kernel_rfl))
 f317:=Tryz.func252.trans (congrArg some (by kernel_rfl))
 f318:=Tryz.func254.trans (congrArg some (by kernel_rfl))
 f319:=Tryz.func255.trans (congrArg some (by kernel_rfl))
 f320:=Tryz.func256.trans (congrArg some (by kernel_rfl))
 f337:=Tryz.func220.trans (congrArg some (by kernel_rfl))
 f338:=Tryz.func276.trans (congrArg some (by kernel_rfl))
 t0:=Tryz.underlying0
 a0:=Tryz.isAgg0
 z0:=Tryz.sizeOf0
 v0:=Tryz.zeroValue0
 t2:=Tryz.underlying2
 a2:=Tryz.isAgg2
 z2:=Tryz.sizeOf2
 v2:=Tryz.zeroValue2
 t3:=Tryz.underlying3
 a3:=Tryz.isAgg3
 z3:=Tryz.sizeOf3
 v3:=Tryz.zeroValue3
 t4:=Tryz.underlying4
 a4:=Tryz.isAgg4
 z4:=Tryz.sizeOf4
 v4:=Tryz.zeroValue4
 t5:=Tryz.underlying5
 a5:=Tryz.isAgg5
 z5:=Tryz.sizeOf5
 v5:=Tryz.zeroValue5
 t9:=Tryz.underlying9
 a9:=Tryz.isAgg9
 z9:=Tryz.sizeOf9
 v9:=Tryz.zeroValue9
 t20:=Tryz.underlying20
 a20:=Tryz.isAgg20
 z20:=Tryz.sizeOf20
 v20:=Tryz.zeroValue20
 t37:=Tryz.underlying161
 a37:=Tryz.isAgg161
 z37:=Tryz.sizeOf161
 v37:=Tryz.zeroValue161
 t46:=Tryz.underlying284
 a46:=Tryz.isAgg284
 z46:=Tryz.sizeOf284
 v46:=Tryz.zeroValue284
 t51:=Tryz.underlying154
 a51:=Tryz.isAgg154
 z51:=Tryz.sizeOf154
 v51:=Tryz.zeroValue154
 t53:=Tryz.underlying275
 a53:=Tryz.isAgg275
 z53:=Tryz.sizeOf275
 v53:=Tryz.zeroValue275
 t171:=Tryz.underlying274
 a171:=Tryz.isAgg274
 z171:=Tryz.sizeOf274
 v171:=Tryz.zeroValue274
 t173:=Tryz.underlying278
 a173:=Tryz.isAgg278
 z173:=Tryz.sizeOf278
 v173:=Tryz.zeroValue278
 t212:=Tryz.underlying289
 a212:=Tryz.isAgg289
 z212:=Tryz.sizeOf289
 v212:=Tryz.zeroValue289
 t213:=Tryz.underlying290
 a213:=Tryz.isAgg290
 z213:=Tryz.sizeOf290
 t232:=Tryz.underlying285
 a232:=Tryz.isAgg285
 z232:=Tryz.sizeOf285
 v232:=Tryz.zeroValue285
 t233:=Tryz.underlying323
 a233:=Tryz.isAgg323
 z233:=Tryz.sizeOf323
 v233:=Tryz.zeroValue323
 g17:=by kernel_rfl
 g18:=by kernel_rfl
 g19:=by kernel_rfl
 i0:=by kernel_rfl
 i2:=by kernel_rfl
 i3:=by kernel_rfl
 i4:=by kernel_rfl
 i5:=by kernel_rfl
 i9:=by kernel_rfl
 i20:=by kernel_rfl
 i37:=by kernel_rfl
 i46:=by kernel_rfl
 i51:=by kernel_rfl
 i53:=by kernel_rfl
 i171:=by kernel_rfl
 i173:=by kernel_rfl
 i212:=by kernel_rfl
 i232:=by kernel_rfl
 i233:=by kernel_rfl
 m17:=by kernel_rfl
 m18:=by kernel_rfl
 m19:=by kernel_rfl}
open Go.RowKit Go.Sort Go.Lib in
theorem Tryz.strconv_Itoa (n:Int) (h0: -9223372036854775808≤n) (h1:n≤9223372036854775807) (w:World) (htab:Lib.TabIs Tryz.prog w "internal/strconv.uint64pow10" .u64 Lib.pow10Tab):
 Calls Tryz.prog 129 #[.int .i64 n] w fun e w'=>e=.returned (.string ⟨(Lib.itoa n).toArray⟩)∧∃k os,w'=grow (w.drewN k) os:=Any.strconv_Itoa Tryz.laysM171 n h0 h1 w htab
open Go.RowKit Go.Sort Go.Lib in
def Tryz.lays189_ren:Go.Shelf.Ren:=⟨fun|189=>219|125=>242|257=>241|128=>257|129=>253|294=>259|295=>260|296=>261|297=>262|298=>263|299=>264|216=>265|300=>266|301=>267|328=>277|329=>278|330=>279|331=>280|332=>281|215=>282|343=>286|n=>n,fun|28=>25|3=>3|46=>284|0=>0|51=>154|53=>275|4=>4|183=>293|182=>292|131=>234|5=>5|9=>9|218=>311|222=>315|228=>324|229=>63|n=>n,fun|n=>n⟩
theorem Tryz.lays189:Go.Proofs.Lays.n189 Tryz.prog Tryz.lays189_ren:={
 mixed:=by kernel_rfl
 f125:=Tryz.func242.trans (congrArg some (by kernel_rfl))
 f128:=Tryz.func257.trans (congrArg some (by kernel_rfl))
 f129:=Tryz.func253.trans (congrArg some (by kernel_rfl))
 f189:=Tryz.func219.trans (congrArg some (by kernel_rfl))
 f215:=Tryz.func282.trans (congrArg some (by kernel_rfl))
 f216:=Tryz.func265.trans (congrArg some (by kernel_rfl))
 f257:=Tryz.func241.trans (congrArg some (by kernel_rfl))
 f294:=Tryz.func259.trans (congrArg some (by kernel_rfl))
 f295:=Tryz.func260.trans (congrArg some (by kernel_rfl))
 f296:=Tryz.func261.trans (congrArg some (by kernel_rfl))
 f297:=Tryz.func262.trans (congrArg some (by kernel_rfl))
 f298:=Tryz.func263.trans (congrArg some (by kernel_rfl))
 f299:=Tryz.func264.trans (congrArg some (by kernel_rfl))
 f300:=Tryz.func266.trans (congrArg some (by kernel_rfl))
 f301:=Tryz.func267.trans (congrArg some (by kernel_rfl))
 f328:=Tryz.func277.trans (congrArg some (by kernel_rfl))
 f329:=Tryz.func278.trans (congrArg some (by kernel_rfl))
 f330:=Tryz.func279.trans (congrArg some (by kernel_rfl))
 f331:=Tryz.func280.trans (congrArg some (by kernel_rfl))
 f332:=Tryz.func281.trans (congrArg some (by kernel_rfl))
 f343:=Tryz.func286.trans (congrArg some (by kernel_rfl))
 t0:=Tryz.underlying0
 a0:=Tryz.isAgg0
 z0:=Tryz.sizeOf0
 v0:=Tryz.zeroValue0
 t3:=Tryz.underlying3
 a3:=Tryz.isAgg3
 z3:=Tryz.sizeOf3
 v3:=Tryz.zeroValue3
 t4:=Tryz.underlying4
 a4:=Tryz.isAgg4
 z4:=Tryz.sizeOf4
 v4:=Tryz.zeroValue4
 t5:=Tryz.underlying5
 a5:=Tryz.isAgg5
 z5:=Tryz.sizeOf5
 v5:=Tryz.zeroValue5
 t9:=Tryz.underlying9
 a9:=Tryz.isAgg9
 z9:=Tryz.sizeOf9
 v9:=Tryz.zeroValue9
 t28:=Tryz.underlying25
 a28:=Tryz.isAgg25
 z28:=Tryz.sizeOf25
 v28:=Tryz.zeroValue25
 t46:=Tryz.underlying284
 a46:=Tryz.isAgg284
 z46:=Tryz.sizeOf284
 v46:=Tryz.zeroValue284
 t51:=Tryz.underlying154
 a51:=Tryz.isAgg154
 z51:=Tryz.sizeOf154
 v51:=Tryz.zeroValue154
 t53:=Tryz.underlying275
 a53:=Tryz.isAgg275
 z53:=Tryz.sizeOf275
 v53:=Tryz.zeroValue275
 t131:=Tryz.underlying234
 a131:=Tryz.isAgg234
 z131:=Tryz.sizeOf234
 v131:=Tryz.zeroValue234
 t182:=Tryz.underlying292
 a182:=Tryz.isAgg292
 z182:=Tryz.sizeOf292
 v182:=Tryz.zeroValue292
 t183:=Tryz.underlying293
 a183:=Tryz.isAgg293
 z183:=Tryz.sizeOf293
 v183:=Tryz.zeroValue293
 t218:=Tryz.underlying311
 a218:=Tryz.isAgg311
 z218:=Tryz.sizeOf311
 v218:=Tryz.zeroValue311
 t222:=Tryz.underlying315
 a222:=Tryz.isAgg315
 z222:=Tryz.sizeOf315
 v222:=Tryz.zeroValue315
 t228:=Tryz.underlying324
 a228:=Tryz.isAgg324
 z228:=Tryz.sizeOf324
 v228:=Tryz.zeroValue324
 t229:=Tryz.underlying63
 a229:=Tryz.isAgg63
 z229:=Tryz.sizeOf63
 v229:=Tryz.zeroValue63}
open Go.Sort Go.RowKit in
theorem Tryz.slices_Sort_int (blk off cap:Nat) (zs:List Int) (w:World) (hH:Holds (Value.int .i64) w blk off zs.toArray) (hblk:blk<w.heap.size) (hsz:zs.length<4611686018427387904):
 Calls Tryz.prog 219 #[.slice (some ⟨blk,off,none⟩) zs.length cap] w fun e w'=>
  e=.returned (.tuple #[])∧∃n os,w'=grow (putRow (Value.int .i64) (Sort.ahead w n) blk off (zs.mergeSort fun x y=>decide (x≤y)).toArray) os:=Any.slices_Sort_int Tryz.lays189 blk off cap zs w hH hblk hsz
end Go.Proofs
namespace Go.Eng.YtcechbdgokjmgaaGreatDoor
open Go.Proofs
set_option linter.unusedSimpArgs false
set_option linter.unusedVariables false
set_option maxHeartbeats 0
set_option maxRecDepth 100000
theorem aeY:te3.bytes=8:=by rfl
theorem aeZ:te4.bytes=1:=by rfl
theorem ae0:te3.size=1:=by rfl
theorem ae1:te4.size=1:=by rfl
theorem ada:z8.size=1:=by rfl
theorem Aa:EG.size=4:=by rfl
theorem vn:(∀(cs:List PV),CL.cnt (.pv cs)=cs.length)∧(∀(cs:List PV),CL.ncell (.pv cs)=cs.length)∧(∀(k:IntKind) (xs:List Int),CL.cnt (.ints k xs)=xs.length)∧(∀(k:IntKind) (xs:List Int),CL.ncell (.ints k xs)=xs.length)∧(∀(xs:List Bool),CL.cnt (.bools xs)=xs.length)∧(∀(xs:List Bool),CL.ncell (.bools xs)=xs.length)∧(∀(xs:List ByteArray),CL.cnt (.strs xs)=xs.length)∧(∀(xs:List ByteArray),CL.ncell (.strs xs)=xs.length)∧(∀(k:IntKind) (xss:List (List Int)),CL.cnt (.rows k xss)=xss.length)∧(∀(k:IntKind) (xss:List (List Int)),CL.ncell (.rows k xss)=xss.length)∧(∀(m:Nat) (rs:List (List PV)),CL.cnt (.recs m rs)=rs.length)∧(∀(m:Nat) (rs:List (List PV)),CL.ncell (.recs m rs)=rs.length*m)∧(∀(n:Nat) (f:Nat→PV),CL.cnt (.gen n f)=n)∧(∀(n:Nat) (f:Nat→PV),CL.ncell (.gen n f)=n)∧(∀(m n:Nat) (f:Nat→List PV),CL.cnt (.genr m n f)=n)∧(∀(m n:Nat) (f:Nat→List PV),CL.ncell (.genr m n f)=n*m):=
 ⟨fun _=>rfl,fun _=>rfl,fun _ _=>rfl,fun _ _=>rfl,fun _=>rfl,fun _=>rfl,fun _=>rfl,fun _=>rfl,fun _ _=>rfl,fun _ _=>rfl,fun _ _=>rfl,fun _ _=>rfl,fun _ _=>rfl,fun _ _=>rfl,fun _ _ _=>rfl,fun _ _ _=>rfl⟩
theorem vp:((∀(cs:List PV),CL.cnt (.pv cs)=cs.length)∧(∀(cs:List PV),CL.ncell (.pv cs)=cs.length)∧(∀(k:IntKind) (xs:List Int),CL.cnt (.ints k xs)=xs.length)∧(∀(k:IntKind) (xs:List Int),CL.ncell (.ints k xs)=xs.length)∧(∀(xs:List Bool),CL.cnt (.bools xs)=xs.length)∧(∀(xs:List Bool),CL.ncell (.bools xs)=xs.length)∧(∀(xs:List ByteArray),CL.cnt (.strs xs)=xs.length)∧(∀(xs:List ByteArray),CL.ncell (.strs xs)=xs.length)∧(∀(k:IntKind) (xss:List (List Int)),CL.cnt (.rows k xss)=xss.length)∧(∀(k:IntKind) (xss:List (List Int)),CL.ncell (.rows k xss)=xss.length)∧(∀(m:Nat) (rs:List (List PV)),CL.cnt (.recs m rs)=rs.length)∧(∀(m:Nat) (rs:List (List PV)),CL.ncell (.recs m rs)=rs.length*m)∧(∀(n:Nat) (f:Nat→PV),CL.cnt (.gen n f)=n)∧(∀(n:Nat) (f:Nat→PV),CL.ncell (.gen n f)=n)∧(∀(m n:Nat) (f:Nat→List PV),CL.cnt (.genr m n f)=n)∧(∀(m n:Nat) (f:Nat→List PV),CL.ncell (.genr m n f)=n*m))∧z8.size=1∧(∀n:Nat,((n:Int)).toNat=n)∧te3.bytes=8∧te4.bytes=1∧te3.size=1∧te4.size=1∧(∀n:Nat,n*1=n)∧(∀n:Nat,0+n=n)∧((false=true)=False)∧((true=false)=False):=
 ⟨vn,ada,ahl,aeY,aeZ,ae0,ae1,agP,agG,by simp,by simp⟩
theorem vq:(∀(p:Prop) [Decidable p],(decide p=true)=p)∧(∀(p:Prop) [Decidable p],(decide p=false)=¬p)∧(∀b:Bool,(¬b=true)=(b=false))∧((!false)=true)∧((!true)=false)∧(∀p:Prop,(p∧p)=p)∧(∀p:Prop,(p∧True)=p)∧(∀p:Prop,(True∧p)=p)∧(∀(α:Type) (a:α) (l:List α),(a::l).length=l.length+1)∧(∀α:Type,([]:List α).length=0)∧((∀(cs:List PV),CL.cnt (.pv cs)=cs.length)∧(∀(cs:List PV),CL.ncell (.pv cs)=cs.length)∧(∀(k:IntKind) (xs:List Int),CL.cnt (.ints k xs)=xs.length)∧(∀(k:IntKind) (xs:List Int),CL.ncell (.ints k xs)=xs.length)∧(∀(xs:List Bool),CL.cnt (.bools xs)=xs.length)∧(∀(xs:List Bool),CL.ncell (.bools xs)=xs.length)∧(∀(xs:List ByteArray),CL.cnt (.strs xs)=xs.length)∧(∀(xs:List ByteArray),CL.ncell (.strs xs)=xs.length)∧(∀(k:IntKind) (xss:List (List Int)),CL.cnt (.rows k xss)=xss.length)∧(∀(k:IntKind) (xss:List (List Int)),CL.ncell (.rows k xss)=xss.length)∧(∀(m:Nat) (rs:List (List PV)),CL.cnt (.recs m rs)=rs.length)∧(∀(m:Nat) (rs:List (List PV)),CL.ncell (.recs m rs)=rs.length*m)∧(∀(n:Nat) (f:Nat→PV),CL.cnt (.gen n f)=n)∧(∀(n:Nat) (f:Nat→PV),CL.ncell (.gen n f)=n)∧(∀(m n:Nat) (f:Nat→List PV),CL.cnt (.genr m n f)=n)∧(∀(m n:Nat) (f:Nat→List PV),CL.ncell (.genr m n f)=n*m))∧z8.size=1∧(∀n:Nat,((n:Int)).toNat=n)∧te3.bytes=8∧te4.bytes=1∧te3.size=1∧te4.size=1∧(∀n:Nat,n*1=n)∧(∀n:Nat,0+n=n)∧((false=true)=False)∧((true=false)=False):=
 ⟨fun p _=>decide_eq_true_eq,fun p _=>propext decide_eq_false_iff_not,fun b=>by simp,rfl,rfl,and_self,and_true,true_and,fun _ _ _=>rfl,fun _=>rfl,vp⟩
def gX:PSp:=fun xs K=>match xs with
 | [.bp h,.int .i64 e]=>K (.int .i64 (if h then e else 0))
 | [.bool h,.int .i64 e]=>K (.int .i64 (if h then e else 0))
 |_=>False
def aL:List Int→Int
 | []=>0
 |x::r=>if x=0 then aL r else x
theorem vQ:∀(l:List Int),(∀i,i<l.length→l.getD i 0=0)→aL l=0:=by
 intro l;induction l with
 |nil=>intro _;rfl
 |cons x r ih=>
  intro h;have h0:=h 0 (by simp)
  simp at h0;subst h0;exact ih fun i hi=>by simpa using h (i+1) (by simpa using hi)
theorem kI:∀(l:List Int) (k:Nat),k<l.length→(∀i,i<k→l.getD i 0=0)→l.getD k 0≠0→aL l=l.getD k 0:=by
 intro l;induction l with
 |nil=>intro k hk;simp at hk
 |cons x r ih=>
  intro k hk h hne;cases k with
  |zero=>simp at hne;simp[aL,hne]
  |succ k=>
   have h0:=h 0 (by omega)
   simp at h0;subst h0;have:=ih k (by simpa using hk) (fun i hi=>by simpa using h (i+1) (by omega)) (by simpa using hne)
   simp[aL,this]
theorem QO {go:List PV→Bool} {L:List PV} {i:Nat} {x:PV} (h:L[i]? =some x) (hg:GoTo go L i):Nxt go L (L.take i) x:=⟨i,(ahZ.1 h).1,rfl,h,hg⟩
def itB (n:Int):ByteArray:=⟨(Go.Lib.itoa n).toArray⟩
def ow (n:Int):Prop:= -9223372036854775808≤n∧n≤9223372036854775807
theorem pY {n:Int} (h:ow n):(itB n).size≤21:=by
 have:=Go.Lib.itoa_length_le n h.1 h.2;simpa [itB,ByteArray.size]using this
theorem QS {S:Imm} {w:World} (h:gB S w):Lib.TabIs Tryz.prog w "internal/strconv.uint64pow10" .u64 Lib.pow10Tab:=by
 obtain⟨h0,h1⟩:=h 2 _ rfl;have e:nP=Lib.pow10Tab:=by decide
 unfold Lib.TabIs World.var?;rw[show Tryz.prog.globalNamed "internal/strconv.uint64pow10" =some 2 from by kernel_rfl,ahF,←e]
 unfold bsz at h0;split at h0
 ·rename_i cs t f hb
  rw[hb];refine congrArg some (Array.ext_getElem? fun j=>?_);have hsz:cs.size=nP.length:=by simpa [CL.ncell]using h0
  rcases Nat.lt_or_ge j nP.length with hj|hj
  ·obtain⟨_,hr⟩:=h1 j (by simpa [CL.ncell]using hj)
   have h2:rd w 2 j=some cs[j]:=by simp[rd,hb,hsz,hj]
   have h3:rdv w 2 j=cs[j]:=by unfold rdv;rw[h2];rfl
   rw[h3]at hr;rw[Array.getElem?_eq_getElem (by omega)]
   have h4:(CL.ints .u64 nP).get j=.int .u64 (nP.getD j 0):=rfl;rw[h4]at hr;generalize cs[j]=y at hr
   cases hr
   simp[agt,hj]
  ·rw[agj (by omega),agj (by simpa using hj)]
 ·cases h0
theorem QT (n:Int) (h:ow n):aF Tryz.prog 129 [.int .i64 n] (.str (itB n)):=by
 refine qL (enters' Tryz.func129 (by rfl) (by rfl)) fun S w vs hg himm hA=>?_
 have h0:=hA.2 0 (by simp)
 have hsz:vs.size=1:=hA.1.symm;simp only[aD]at h0;have hvs:vs= #[vs.getD 0 undef]:=by
  apply ahv (by simp[hsz])
  intro i h1 h2;have:i=0:=by omega
  subst this;simp[agq,h1]
 rw[hvs];generalize vs.getD 0 undef=v0 at h0
 cases h0
 refine⟨_,.str _ _,?_⟩;refine(Tryz.strconv_Itoa n h.1 h.2 w (QS hg)).mono ?_
 rintro e w' ⟨rfl,k,os,rfl⟩
 exact⟨rfl,Lib.below_grow _ _ (agh _) _ _⟩
def EH:PSp:=fun xs K=>match xs with
 | [.int .i64 n]=>VC (ow n)∧K (.str (itB n))
 |_=>False
theorem KG:POK Tryz.prog 129 EH:=by
 intro xs K h;unfold EH at h;split at h
 ·exact⟨_,h.2,QT _ h.1.get⟩
 ·exact h.elim
def joB (xs:List ByteArray) (sep:ByteArray):ByteArray:=⟨(Go.Lib.join (xs.map (·.data.toList)) sep.data.toList).toArray⟩
theorem QU (xs:List ByteArray) (sep:ByteArray) (h:xs.length≤1000000) (hl:(joB xs sep).size≤140737488355328):aF Tryz.prog 158 [.isl (.strs xs) .none,.str sep] (.str (joB xs sep)):=by
 refine iM (enters' Tryz.func158 (by rfl) (by rfl)) fun S w vs himm hA=>?_
 have h0:=hA.2 0 (by simp)
 have h1:=hA.2 1 (by simp)
 have hsz:vs.size=2:=hA.1.symm;simp only[aD]at h0 h1;have hvs:vs= #[vs.getD 0 undef,vs.getD 1 undef]:=by
  apply ahv (by simp[hsz])
  intro i h1 h2;have:i=0∨i=1:=by omega
  rcases this with rfl|rfl<;>simp[agq,h1]
 rw[hvs];generalize vs.getD 0 undef=v0 at h0
 generalize vs.getD 1 undef=v1 at h1
 cases h1
 refine⟨.string (joB xs sep),.str _ _,?_⟩;rcases QF himm h0 with⟨a,rfl,rfl⟩|⟨b,off,cap,rfl,hc,hcell,hb⟩
 ·refine(Tryz.strings_Join_none a 0 sep w).mono ?_
  rintro e w' ⟨rfl,rfl⟩
  exact⟨rfl,.refl _ _⟩
 ·rcases ag2 xs.length with hz|hz
  ·obtain rfl:xs=[]:=List.eq_nil_of_length_eq_zero hz
   refine(Tryz.strings_Join_none (some ⟨b,off,none⟩) cap sep w).mono ?_
   rintro e w' ⟨rfl,rfl⟩
   exact⟨rfl,.refl _ _⟩
  ·refine(Tryz.strings_Join b off cap xs sep w hcell (hb hz) (by omega) hc (by simpa [joB,ByteArray.size]using hl)).mono ?_
   rintro e w' ⟨rfl,hB⟩
   exact⟨rfl,hB⟩
def NK:PSp:=fun xs K=>match xs with
 | [.isl (.strs xs) .none,.str sep]=>VC (xs.length≤1000000∧(joB xs sep).size≤140737488355328)∧K (.str (joB xs sep))
 |_=>False
theorem ZH:POK Tryz.prog 158 NK:=by
 intro xs K h;unfold NK at h;split at h
 ·exact⟨_,h.2,QU _ _ h.1.get.1 h.1.get.2⟩
 ·exact h.elim
def kBl:ByteArray:=⟨#[32]⟩
theorem ZI {xs:List ByteArray} {b:Nat} (h:∀x∈xs,x.size≤b):Go.Lib.lens (xs.map (·.data.toList))≤xs.length*b:=by
 induction xs with
 |nil=>simp[Go.Lib.lens]
 |cons x xs ih=>
  have h1:=ih fun y hy=>h y (ahX _ hy);have h2:=h x (aic ..);simp only[Go.Lib.lens,aie,List.sum_cons,agb]at h1⊢;have h3:x.data.toList.length=x.size:=by rw[agS];rfl
  rw[h3,agf];omega
theorem Gs {xs:List ByteArray} {b:Nat} (h:∀x∈xs,x.size≤b):(joB xs kBl).size≤xs.length*(b+1):=by
 cases xs with
 |nil=>exact ag3 _
 |cons x xs=>
  have h1:=ZI (xs:=xs) fun y hy=>h y (ahX _ hy);have h2:=h x (aic ..);have h3:x.data.toList.length=x.size:=by rw[agS];rfl
  have e:(joB (x::xs) kBl).size=x.size+(xs.length+Go.Lib.lens (xs.map (·.data.toList))):=by
   show(List.toArray _).size=_;have e1:kBl.data.toList.length=1:=rfl;rw[List.size_toArray,aie,Go.Lib.join_cons,ahx,Go.Lib.joinTail_length,aif,e1,h3,Nat.one_mul]
  rw[e,agb,agf,aii];omega
noncomputable def ae2:CPT:=aA 158 (aB NK) noC
theorem ZJ:aV Tryz.prog ae2:=ak (au ZH) aC
theorem NM (xs:List ByteArray) (h:xs.length≤1000000) (hl:(joB xs kBl).size≤140737488355328):aF Tryz.prog 107 [.isl (.strs xs) .none] (.str (joB xs kBl)):=by
 unfold kBl at*;refine av (md:=1) (rf:=[]) mixed aj ZJ Tryz.func107 (by rfl) (by rfl) (by rfl) ?_
 repeat'((conv=>whnf);first|intro _|apply aI|with_reducible exact vM rfl|exact⟨⟩|apply nM|apply fM)
 all_goals((try apply vM);(try simp only[vq]at*);try omega)
 all_goals first|exact⟨h,hl⟩|exact Sup.of rfl|exact fun h=>h
structure Uj (xs:List ByteArray) (n:Nat):Prop where
 len:xs.length≤n
 sz:∀x∈xs,x.size≤4000
def Ab:PSp:=fun xs K=>match xs with
 | [.isl (.strs ws) .none]=>VC (Uj ws 1000000)∧K (.str (joB ws kBl))
 |_=>False
theorem Gt:POK Tryz.prog 107 Ab:=by
 intro xs K hk;unfold Ab at hk;split at hk
 ·refine⟨_,hk.2,NM _ hk.1.get.len ?_⟩
  have h1:=Gs hk.1.get.sz;have h2:=hk.1.get.len;have:(4000+1)*1000000≤140737488355328:=by decide
  refine ah2 h1 (ah2 (Nat.mul_le_mul_right _ h2) ?_);decide
 ·exact hk.elim
def nV (l:List Int) (m:Nat):List ByteArray:=(l.take m).map itB
theorem JN (l:List Int) (m:Nat) (h:m<l.length):nV l (m+1)=nV l m++[itB (l.getD m 0)]:=by
 unfold nV;rw[aij,aik,agt,agy h];rfl
theorem Ac (l:List Int) (m:Nat) (h:m≤l.length):(nV l m).length=m:=by simp[nV];omega
noncomputable def ae3:CPT:=aA 129 (aB EH) noC
theorem KH:aV Tryz.prog ae3:=ak (au KG) aC
structure Uk (l:List Int):Prop where
 len:l.length≤1000000
 num:∀i,i<l.length→ow (l.getD i 0)
theorem NP (l:List Int) (h:Uk l):aF Tryz.prog 108 [.isl (.ints .i64 l) .none] (.isl (.strs (l.map itB)) .none):=by
 obtain⟨hl,hn⟩:=h;refine av (md:=1) (rf:=[]) mixed aj KH Tryz.func108 (by rfl) (by rfl) (by rfl) ?_
 repeat'((conv=>whnf);first|intro _|apply aI|with_reducible exact vM rfl|exact⟨⟩|apply nM|apply fM)
 all_goals((try apply vM);(try simp only[vq]at*);try omega)
 conv=>whnf
 refine aJ (X:=Nat) (fun i=>i≤l.length) (fun i=>[(8,.int .i64 i),(3,.isl (.strs (nV l i)) (.own 3)),(5,.any)]) (fun i=>[(3,.tok 1 i)]) (fun i=>l.length-i) 0 ⟨aG,mixed,aj,KH,aM⟩ (by rfl) (by omega) ?_ ?_
 ·repeat'((conv=>whnf);first|intro _|apply aI|with_reducible exact vM rfl|exact⟨⟩|apply nM|apply fM)
  all_goals((try apply vM);(try simp only[vq]at*);try omega)
 intro i hi;by_cases hlt:i<l.length
 ·have e0:=Ac l i hi
  have e1:=JN l i hlt;have e2:=hn i hlt
  repeat'((conv=>whnf);first|intro _|apply aI|with_reducible exact vM rfl|exact⟨⟩|apply nM|apply fM)
  all_goals((try apply vM);(try simp only[vq]at*);try omega)
  all_goals(try exact e2)
  all_goals(try(simp only[ahx,agb,af7];omega))
  refine⟨i+1,[],⟨by omega,by omega⟩,?_⟩
  repeat'((conv=>whnf);first|intro _|apply aI|with_reducible exact vM rfl|exact⟨⟩|apply nM|apply fM)
  all_goals((try apply vM);(try simp only[vq]at*);try omega)
  all_goals(try(rw[e1]))
 ·have:l.length=i:=by omega
  subst this;have e0:=Ac l l.length (agh _);have e3:nV l l.length=l.map itB:=by unfold nV;rw[ail]
  repeat'((conv=>whnf);first|intro _|apply aI|with_reducible exact vM rfl|exact⟨⟩|apply nM|apply fM)
  all_goals((try apply vM);(try simp only[vq]at*);try omega)
  rw[e3];exact Sup.of rfl
def Gu:PSp:=fun xs K=>match xs with
 | [.isl (.ints .i64 l) .none]=>VC (Uk l)∧K (.isl (.strs (l.map itB)) .none)
 |_=>False
theorem Ul:POK Tryz.prog 108 Gu:=by
 intro xs K h;unfold Gu at h;split at h
 ·exact⟨_,h.2,NP _ h.1.get⟩
 ·exact h.elim
end Go.Eng.YtcechbdgokjmgaaGreatDoor
namespace Go.Eng.YtcechbdgokjmgaaGreatDoor
open Go.Proofs Go.RowKit
set_option linter.unusedSimpArgs false
set_option linter.unusedVariables false
set_option maxHeartbeats 0
set_option maxRecDepth 100000
def spl (c:UInt8):List UInt8→List (List UInt8)
 | []=>[[]]
 |x::r=>if x=c then []::spl c r else match spl c r with
  | []=>[]
  |a::t=>(x::a)::t
theorem QV (c:UInt8):∀l,spl c l≠[]:=by
 intro l;induction l with
 |nil=>simp[spl]
 |cons x r ih=>
  unfold spl;split
  ·simp
  ·cases h:spl c r with
   |nil=>exact absurd h ih
   |cons a t=>simp
theorem NQ (c:UInt8):∀(l:List UInt8),Go.Lib.splitK [c] 0 (l.count c) l=spl c l:=by
 intro l;induction l with
 |nil=>rfl
 |cons x r ih=>
  by_cases e:x=c
  ·subst e
   have hi:Go.Lib.index (x::r) [x]=0:=by rw[Go.Lib.index_one];simp[Go.Lib.indexByte]
   rw[List.count_cons_self];unfold Go.Lib.splitK;rw[hi,if_neg (by decide)]
   show []::Go.Lib.splitK [x] 0 (r.count x) r=_;rw[ih];unfold spl;rw[if_pos rfl];cases r<;>rfl
  ·rw[List.count_cons_of_ne e]
   have hs:spl c (x::r)=match spl c r with| []=>[]|a::t=>(x::a)::t:=by
    conv=>lhs;unfold spl
    rw[if_neg e]
   rw[hs,←ih];cases hk:r.count c with
   |zero=>rfl
   |succ k=>
    have hi:Go.Lib.index (x::r) [c]=if Go.Lib.index r [c]= -1 then-1 else Go.Lib.index r [c]+1:=by
     rw[Go.Lib.index_one,Go.Lib.index_one];conv=>lhs;unfold Go.Lib.indexByte
     simp[e]
    have hne:Go.Lib.index r [c]≠ -1:=fun h=>by
     rw[Go.Lib.index_one]at h;have:=Go.Lib.indexByte_none h;have hm:c∈r:=List.count_pos_iff.1 (by omega)
     obtain⟨i,hi,he⟩:=agx hm;exact this i (by rw[agy hi,he])
    have hge:=Go.Lib.indexByte_ge r c;rw[←Go.Lib.index_one]at hge;unfold Go.Lib.splitK;rw[hi,if_neg hne,if_neg (by simp;omega),if_neg (by simpa using hne)]
    obtain⟨n,hn⟩:∃n:Nat,Go.Lib.index r [c]=n:=⟨(Go.Lib.index r [c]).toNat,by omega⟩
    rw[hn];rfl
def dJ (c:UInt8) (s:ByteArray):List ByteArray:=(spl c s.data.toList).map fun l=>⟨l.toArray⟩
theorem Ad (c:UInt8) (s:ByteArray):Go.Lib.splitB ⟨#[c]⟩ 0 (Go.Lib.countB s ⟨#[c]⟩) s=dJ c s:=by
 have h:=Go.Lib.splitB_data ⟨#[c]⟩ 0 (Go.Lib.countB s ⟨#[c]⟩) s;have e:Go.Lib.countB s ⟨#[c]⟩=s.data.toList.count c:=Go.Lib.count_one c _;rw[e]at h⊢;unfold dJ;rw[←NQ,show Go.Lib.splitK [c] 0 (s.data.toList.count c) s.data.toList=Go.Lib.splitK (ByteArray.mk #[c]).data.toList 0 (s.data.toList.count c) s.data.toList from rfl,←h,List.map_map];conv=>lhs;rw[←List.map_id (Go.Lib.splitB _ _ _ _)]
 rfl
theorem Um (s:ByteArray) (c:UInt8) (hs:s.size<4294967281):aF Tryz.prog 160 [.str s,.str ⟨#[c]⟩,.int .i64 0,.int .i64 (-1)] (.isl (.strs (dJ c s)) .none):=by
 refine Gg (enters' Tryz.func160 (by rfl) (by rfl)) (.strs (dJ c s)) fun S w vs himm hA=>?_
 have h0:=hA.2 0 (by simp)
 have h1:=hA.2 1 (by simp)
 have h2:=hA.2 2 (by simp)
 have h3:=hA.2 3 (by simp)
 have hsz:vs.size=4:=hA.1.symm;simp only[aD]at h0 h1 h2 h3;have hvs:vs= #[vs.getD 0 undef,vs.getD 1 undef,vs.getD 2 undef,vs.getD 3 undef]:=by
  apply ahv (by simp[hsz])
  intro i h1 h2;have:i=0∨i=1∨i=2∨i=3:=by omega
  rcases this with rfl|rfl|rfl|rfl<;>simp[agq,h1]
 rw[hvs];generalize vs.getD 0 undef=v0 at h0
 generalize vs.getD 1 undef=v1 at h1
 generalize vs.getD 2 undef=v2 at h2
 generalize vs.getD 3 undef=v3 at h3
 cases h0;cases h1;cases h2;cases h3
 have hlen:(dJ c s).length=Go.Lib.countB s ⟨#[c]⟩+1:=by rw[←Ad];exact Go.Lib.splitB_all ⟨#[c]⟩ (agh 1) 0 _ s rfl
 have hcl:=Tryz.genSplit_one s c w hs;rw[Ad]at hcl;refine⟨Go.Lib.cellsOf (dJ c s) (Go.Lib.countB s ⟨#[c]⟩+1),9,Go.Lib.countB s ⟨#[c]⟩+1,?_,?_,fun j hj S' w'=>?_,hcl⟩
 ·simp only[CL.cnt];omega
 ·simp only[CL.ncell];rw[Go.Lib.cellsOf_size (by omega)];omega
 ·simp only[CL.ncell]at hj
  have:(Go.Lib.cellsOf (dJ c s) (Go.Lib.countB s ⟨#[c]⟩+1)).getD j undef=.string ((dJ c s).getD j .empty):=by
   rw[←hlen,Go.Lib.cellsOf_full];simp[agq,agt,hj]
  rw[this];exact .str _ _
def Un:PSp:=fun xs K=>match xs with
 | [.str s,.str sep,.int .i64 a,.int .i64 b]=>∃c:UInt8,VC (sep=⟨#[c]⟩∧a=0∧b= -1∧s.size<4294967281)∧K (.isl (.strs (dJ c s)) .none)
 |_=>False
theorem adb:POK Tryz.prog 160 Un:=by
 intro xs K hk;unfold Un at hk;split at hk
 ·obtain⟨c,⟨rfl,rfl,rfl,h⟩,hk⟩:=hk
  exact⟨_,hk,Um _ _ h⟩
 ·exact hk.elim
noncomputable def ae4:CPT:=aA 160 (aB Un) noC
theorem ZK:aV Tryz.prog ae4:=ak (au adb) aC
theorem NR (s:ByteArray) (c:UInt8) (hs:s.size<4294967281):aF Tryz.prog 113 [.str s,.str ⟨#[c]⟩] (.isl (.strs (dJ c s)) .none):=by
 refine av (md:=1) (rf:=[]) mixed aj ZK Tryz.func113 (by rfl) (by rfl) (by rfl) ?_
 repeat'((conv=>whnf);first|refine Exists.intro (c) ?_|(intro hq;(try simp only[vw]at hq);try first|exact absurd hq (by decide)|exfalso;omega)|apply aI|with_reducible exact vM rfl|exact⟨⟩|apply nM|apply fM)
 all_goals((try apply vM);(try simp only[vq]at*);try omega)
 all_goals first|exact hs|exact⟨rfl,rfl,rfl,hs⟩|exact Sup.of rfl|skip
def Ae:PSp:=fun xs K=>match xs with
 | [.str s,.str sep]=>∃c:UInt8,VC (sep=⟨#[c]⟩∧s.size<4294967281)∧K (.isl (.strs (dJ c s)) .none)
 |_=>False
theorem Gv:POK Tryz.prog 113 Ae:=by
 intro xs K hk;unfold Ae at hk;split at hk
 ·obtain⟨c,⟨rfl,h⟩,hk⟩:=hk
  exact⟨_,hk,NR _ _ h⟩
 ·exact hk.elim
theorem yG {S:Imm} {w:World} {s p:ByteArray} {vs:Array Value} (h:bC S w noI [.str s,.str p] vs):vs= #[.string s,.string p]:=by
 obtain⟨v,u,rfl,h1,h2⟩:=Gf h;cases h1;cases h2;rfl
def Gw (s p:ByteArray):Bool:=Go.Lib.hasSuffix s.data.toList p.data.toList
theorem Uo (s p:ByteArray) (hs:s.size≤9223372036854775807):aF Tryz.prog 112 [.str s,.str p] (.bp (Gw s p)):=by
 refine iM (enters' Tryz.func112 (by rfl) (by rfl)) fun S w vs himm hA=>?_
 rw[yG hA];refine⟨_,.bp _ _,(Tryz.strings_HasSuffix s p w hs).mono ?_⟩
 rintro e w' ⟨rfl,rfl⟩
 exact⟨rfl,.refl _ _⟩
def Uq:PSp:=fun xs K=>match xs with
 | [.str s,.str p]=>VC (s.size≤9223372036854775807)∧K (.bp (Gw s p))
 |_=>False
theorem ade:POK Tryz.prog 112 Uq:=by
 intro xs K h;unfold Uq at h;split at h
 ·exact⟨_,h.2,Uo _ _ h.1.get⟩
 ·exact h.elim
def jI (s p:ByteArray):ByteArray:=⟨(Go.Lib.trimSuffix s.data.toList p.data.toList).toArray⟩
theorem Ur (s p:ByteArray) (hs:s.size≤9223372036854775807):aF Tryz.prog 114 [.str s,.str p] (.str (jI s p)):=by
 refine iM (enters' Tryz.func114 (by rfl) (by rfl)) fun S w vs himm hA=>?_
 rw[yG hA];refine⟨_,.str _ _,(Tryz.strings_TrimSuffix s p w hs).mono ?_⟩
 rintro e w' ⟨rfl,rfl⟩
 exact⟨rfl,.refl _ _⟩
def Us:PSp:=fun xs K=>match xs with
 | [.str s,.str p]=>VC (s.size≤9223372036854775807)∧K (.str (jI s p))
 |_=>False
theorem adf:POK Tryz.prog 114 Us:=by
 intro xs K h;unfold Us at h;split at h
 ·exact⟨_,h.2,Ur _ _ h.1.get⟩
 ·exact h.elim
def kN (s p:ByteArray):ByteArray:=⟨(Go.Lib.trimPrefix s.data.toList p.data.toList).toArray⟩
def preB (s p:ByteArray):Bool:=Go.Lib.hasPrefix s.data.toList p.data.toList
theorem Ut (s p:ByteArray):aF Tryz.prog 229 [.str s,.str p] (.tup [.str (kN s p),.bp (preB s p)]):=by
 refine iM (enters' Tryz.func229 (by rfl) (by rfl)) fun S w vs himm hA=>?_
 rw[yG hA];refine⟨.tuple #[.string (kN s p),.bool (preB s p)],.tup _ _ _ rfl (fun i hi=>by
  match i,hi with
  |0,_=>exact .str _ _
  |1,_=>exact .bp _ _),(Tryz.strings_CutPrefix s p w).mono ?_⟩
 rintro e w' ⟨rfl,rfl⟩
 exact⟨rfl,.refl _ _⟩
def Uu:PSp:=fun xs K=>match xs with
 | [.str s,.str p]=>VC (True)∧K (.tup [.str (kN s p),.bp (preB s p)])
 |_=>False
theorem adg:POK Tryz.prog 229 Uu:=by
 intro xs K h;unfold Uu at h;split at h
 ·exact⟨_,h.2,Ut _ _⟩
 ·exact h.elim
theorem QW (s:ByteArray) (n:Int) (hl:s.size≤18) (h:Go.Lib.atoi s.data.toList=some n):aF Tryz.prog 230 [.str s] (.tup [.int .i64 n,.nili]):=by
 refine iM (enters' Tryz.func230 (by rfl) (by rfl)) fun S w vs himm hA=>?_
 obtain⟨v,rfl,h1⟩:=yC hA;cases h1
 refine⟨.tuple #[.int .i64 n,.nilIface],.tup _ _ _ rfl (fun i hi=>by
  match i,hi with
  |0,_=>exact .int _ _ _
  |1,_=>exact .nili _),(Tryz.strconv_Atoi s n hl h w).mono ?_⟩
 rintro e w' ⟨rfl,t,rfl⟩
 exact⟨rfl,⟨by unfold Lib.bytesWorld World.freeze;split<;>rfl,by unfold Lib.bytesWorld World.freeze;split<;>rfl,by unfold Lib.bytesWorld World.freeze;split<;>rfl,by rw[Lib.bytesWorld_size];omega,fun i hi=>Lib.bytesWorld_at_old w 5 t i hi⟩⟩
def NS:PSp:=fun xs K=>match xs with
 | [.str s]=>∃n:Int,VC (s.size≤18∧Go.Lib.atoi s.data.toList=some n)∧K (.tup [.int .i64 n,.nili])
 |_=>False
theorem ZL:POK Tryz.prog 230 NS:=by
 intro xs K hk;unfold NS at hk;split at hk
 ·obtain⟨n,⟨h1,h2⟩,hk⟩:=hk
  exact⟨_,hk,QW _ _ h1 h2⟩
 ·exact hk.elim
end Go.Eng.YtcechbdgokjmgaaGreatDoor
namespace Go.Eng.YtcechbdgokjmgaaGreatDoor
set_option linter.unusedSimpArgs false
set_option linter.unusedVariables false
def mkA (a:Nat) (l:List Int):Nat:=l.foldl (fun a x=>a|||2 ^ x.toNat) a
def mk (l:List Int):Nat:=mkA 0 l
def InM (l:List Int):Prop:=∀x∈l,0≤x∧x≤31
theorem ZM:∀(l:List Int) (a i:Nat),InM l→(mkA a l).testBit i=(a.testBit i||decide ((i:Int)∈l)):=by
 intro l;induction l with
 |nil=>intro a i _;simp[mkA]
 |cons x l ih=>
  intro a i h;have hx:=h x (by simp)
  have:mkA a (x::l)=mkA (a|||2 ^ x.toNat) l:=rfl;rw[this,ih _ _ (fun y hy=>h y (by simp[hy])),Nat.testBit_or,ain]
  have e:decide (x.toNat=i)=decide ((i:Int)=x):=by by_cases e:x.toNat=i<;>simp<;>omega
  rw[e,Bool.or_assoc];congr 1;rw[aio];simp
theorem KI (i:Nat):(1:Nat).testBit i=decide (i=0):=by
 have:=ain (n:=0) (m:=i);simp only[Nat.pow_zero]at this;rw[this,aio];simp;omega
theorem dN {l:List Int} (h:InM l) (i:Nat):(mk l).testBit i=decide ((i:Int)∈l):=by
 unfold mk;rw[ZM l 0 i h];simp
theorem gY {l:List Int} (h:InM l):mk l<4294967296:=by
 refine aip (n:=32) _ fun i hi=>?_;rw[dN h];simp only[decide_eq_false_iff_not];intro hm;have:=h _ hm;omega
theorem adh {l:List Int} (h:∀x∈l,0≤x∧x≤16):mk l<131072:=by
 refine aip (n:=17) _ fun i hi=>?_;rw[dN (fun x hx=>by have:=h x hx;omega)]
 simp only[decide_eq_false_iff_not];intro hm;have:=h _ hm;omega
theorem adi {l u:List Int} (hl:InM l) (hu:InM u) (h:∀x,x∈l↔x∈u):mk l=mk u:=by
 apply aiq;intro i;rw[dN hl,dN hu];simp[h]
theorem mk_inj {l u:List Int} (hl:InM l) (hu:InM u) (h:mk l=mk u) (x:Int):x∈l↔x∈u:=by
 have key:∀(l u:List Int),InM l→InM u→mk l=mk u→x∈l→x∈u:=fun l u hl hu h hx=>by
  have hb:=hl x hx;have h1:=dN hl x.toNat;rw[h,dN hu]at h1;have e:((x.toNat:Nat):Int)=x:=by omega
  rw[e]at h1;simpa [hx]using h1
 exact⟨key l u hl hu h,key u l hu hl h.symm⟩
theorem mk_one {x:Int}:mk [x]=2 ^ x.toNat:=by simp[mk,mkA]
theorem mk_zero {l:List Int} (hl:InM l):mk l=0↔l=[]:=by
 constructor
 ·intro h
  cases l with
  |nil=>rfl
  |cons x l=>exact absurd ((mk_inj hl (u:=[]) (fun x hx=>by simp at hx) h x).1 (by simp)) (by simp)
 ·rintro rfl;rfl
theorem kU (n:Nat) (h:n≤31):0≤(1:Int)*2 ^ n∧(1:Int)*2 ^ n≤4294967295∧n≤IntKind.u32.bits:=by
 have h1:(2:Nat) ^ n≤2 ^ 31:=air (by omega) h
 have h2:(1:Int)*2 ^ n=((2 ^ n:Nat):Int):=by rw[ais];norm_cast
 have h3:IntKind.u32.bits=32:=rfl;obtain⟨q,hq⟩:∃q:Nat,2 ^ n=q:=⟨_,rfl⟩;rw[hq]at h1;rw[h2,hq];refine⟨by omega,by omega,by omega⟩
theorem yH (n:Nat) (h:n<4294967296):IntKind.u32.wrap (n:Int)=n:=by
 simp only[IntKind.wrap,IntKind.bits,IntKind.signed];simp;omega
theorem lK (m i:Nat) (h:m<4294967296):(agC IntKind.u32.bits (m:Int)).getLsbD i=(decide (i<32)&&m.testBit i):=by
 show(agC 32 (m:Int)).getLsbD i=_;rw[BitVec.ofInt_natCast,BitVec.getLsbD_ofNat]
theorem EI {m n k:Nat} (hm:m<4294967296) (hn:n<4294967296) (h:∀i,i<32→k.testBit i=(m.testBit i&&n.testBit i)) (hk:k<4294967296):
 IntKind.u32.wrap ((agC IntKind.u32.bits (m:Int)&&& agC IntKind.u32.bits (n:Int)).toNat:Int)=k:=by
 have e:(agC IntKind.u32.bits (m:Int)&&& agC IntKind.u32.bits (n:Int)).toNat=k:=by
  apply aiq;intro i;rw[ait,aiu,lK m i hm,lK n i hn];by_cases hi:i<32
  ·rw[h i hi];simp[hi]
  ·rw[aiv (x:=k) (i:=i) (by have:=air (n:=2) (by omega) (show 32≤i by omega);omega)];simp[hi]
 rw[e,yH _ hk]
theorem adj {m n k:Nat} (hm:m<4294967296) (hn:n<4294967296) (h:∀i,i<32→k.testBit i=(m.testBit i||n.testBit i)) (hk:k<4294967296):
 IntKind.u32.wrap ((agC IntKind.u32.bits (m:Int)|||agC IntKind.u32.bits (n:Int)).toNat:Int)=k:=by
 have e:(agC IntKind.u32.bits (m:Int)|||agC IntKind.u32.bits (n:Int)).toNat=k:=by
  apply aiq;intro i;rw[ait,BitVec.getLsbD_or,lK m i hm,lK n i hn];by_cases hi:i<32
  ·rw[h i hi];simp[hi]
  ·rw[aiv (x:=k) (i:=i) (by have:=air (n:=2) (by omega) (show 32≤i by omega);omega)];simp[hi]
 rw[e,yH _ hk]
theorem aen {m n k:Nat} (hm:m<4294967296) (hn:n<4294967296) (h:∀i,i<32→k.testBit i=(m.testBit i&&!n.testBit i)) (hk:k<4294967296):
 IntKind.u32.wrap ((agC IntKind.u32.bits (m:Int)&&& ~~~agC IntKind.u32.bits (n:Int)).toNat:Int)=k:=by
 have e:(agC IntKind.u32.bits (m:Int)&&& ~~~agC IntKind.u32.bits (n:Int)).toNat=k:=by
  apply aiq;intro i;rw[ait,aiu,BitVec.getLsbD_not,lK m i hm,lK n i hn];by_cases hi:i<32
  ·rw[h i hi];simp[hi,show i<IntKind.u32.bits from hi]
  ·rw[aiv (x:=k) (i:=i) (by have:=air (n:=2) (by omega) (show 32≤i by omega);omega)];simp[hi]
 rw[e,yH _ hk]
theorem NT {l:List Int} {x:Int} (hl:InM l) (hx:0≤x∧x≤31):
 IntKind.u32.wrap ((agC IntKind.u32.bits (mk l:Int)|||agC IntKind.u32.bits (1*2 ^ x.toNat)).toNat:Int)=(mk (l++[x]):Nat):=by
 have hh:InM (l++[x]):=fun y hy=>by
  rcases agu.1 hy with h|h
  ·exact hl y h
  ·simp at h;subst h;exact hx
 have hone:InM [x]:=fun y hy=>by simp at hy;subst hy;exact hx
 rw[ais,show((2:Int) ^ x.toNat)=((mk [x]:Nat):Int) by rw[mk_one];norm_cast]
 refine adj (gY hl) (gY hone) (fun i hi=>?_) (gY hh);rw[dN hh,dN hl,dN hone];simp
theorem adk {l u:List Int} (hl:InM l) (hu:InM u):
 IntKind.u32.wrap ((agC IntKind.u32.bits (mk l:Int)|||agC IntKind.u32.bits (mk u:Int)).toNat:Int)=(mk (l++u):Nat):=by
 have hh:InM (l++u):=fun y hy=>by
  rcases agu.1 hy with h|h
  ·exact hl y h
  ·exact hu y h
 refine adj (gY hl) (gY hu) (fun i hi=>?_) (gY hh);rw[dN hh,dN hl,dN hu];simp
theorem QX {l u:List Int} (hl:InM l) (hu:InM u):
 IntKind.u32.wrap ((agC IntKind.u32.bits (mk l:Int)&&& ~~~agC IntKind.u32.bits (mk u:Int)).toNat:Int)=(mk (l.filter fun y=>!decide (y∈u)):Nat):=by
 have hh:InM (l.filter fun y=>!decide (y∈u)):=fun y hy=>hl y (aiw.1 hy).1;refine aen (gY hl) (gY hu) (fun i hi=>?_) (gY hh);rw[dN hh,dN hl,dN hu];simp
def dw (l:List Int) (x:Int):List Int:=l.filter fun y=>!decide (y=x)
theorem rF {l:List Int} {x:Int} (hl:InM l) (hx:0≤x∧x≤31):
 IntKind.u32.wrap ((agC IntKind.u32.bits (mk l:Int)&&& ~~~agC IntKind.u32.bits (1*2 ^ x.toNat)).toNat:Int)=(mk (dw l x):Nat):=by
 have hone:InM [x]:=fun y hy=>by simp at hy;subst hy;exact hx
 rw[ais,show((2:Int) ^ x.toNat)=((mk [x]:Nat):Int) by rw[mk_one];norm_cast,QX hl hone]
 simp[dw]
theorem QY {l:List Int} {x:Int} (hl:InM l) (hx:0≤x∧x≤31):
 IntKind.u32.wrap ((agC IntKind.u32.bits ((mk l:Int) / 2 ^ x.toNat)&&& agC IntKind.u32.bits 1).toNat:Int)=if x∈l then 1 else 0:=by
 have e:((mk l:Int) / 2 ^ x.toNat)=((mk l>>>x.toNat:Nat):Int):=by rw[Nat.shiftRight_eq_div_pow];norm_cast
 have h1:mk l>>>x.toNat<4294967296:=Nat.lt_of_le_of_lt (Nat.shiftRight_le _ _) (gY hl);rw[e,show(1:Int)=((1:Nat):Int)from rfl,EI (k:=if x∈l then 1 else 0) h1 (by omega) (fun i hi=>?_) (by split<;>omega)]
 ·split<;>rfl
 ·rw[Nat.testBit_shiftRight,dN hl,KI]
  by_cases h0:i=0
  ·subst h0
   have:((x.toNat+0:Nat):Int)=x:=by omega
   rw[this];by_cases hm:x∈l<;>simp[hm]
  ·rw[show decide (i=0)=false by simp[h0],aix]
   split
   ·rw[KI];simp[h0]
   ·simp
structure Asc (l:List Int):Prop where mkAsc::
 pw:l.Pairwise (·< ·)
 rng:∀x∈l,1≤x∧x≤16
theorem Asc.inM {l:List Int} (h:Asc l):InM l:=fun x hx=>by have:=h.rng x hx;omega
theorem Asc.tail {x:Int} {l:List Int} (h:Asc (x::l)):Asc l:=⟨(ahH.1 h.pw).2,fun y hy=>h.rng y (by simp[hy])⟩
theorem Asc.head {x:Int} {l:List Int} (h:Asc (x::l)):∀y∈l,x<y:=(ahH.1 h.pw).1
theorem Asc.filter {l:List Int} (h:Asc l) (p:Int→Bool):Asc (l.filter p):=⟨h.pw.filter _,fun x hx=>h.rng x (aiw.1 hx).1⟩
theorem Asc.nil:Asc []:=⟨.nil,fun x hx=>by simp at hx⟩
theorem Asc.one {x:Int} (h:1≤x∧x≤16):Asc [x]:=⟨by simp,fun y hy=>by simp at hy;subst hy;exact h⟩
theorem Asc.out {l:List Int} (h:Asc l) (x:Int):Asc (dw l x):=h.filter _
theorem KJ:∀{l u:List Int},l.Pairwise (·< ·)→u.Pairwise (·< ·)→(∀x,x∈l↔x∈u)→l=u:=by
 intro l;induction l with
 |nil=>
  intro u _ _ h;cases u with
  |nil=>rfl
  |cons y u=>exact absurd ((h y).2 (by simp)) (by simp)
 |cons x l ih=>
  intro u hl hu h;cases u with
  |nil=>exact absurd ((h x).1 (by simp)) (by simp)
  |cons y u=>
   have hx:=(ahH.1 hl).1;have hy:=(ahH.1 hu).1;have e:x=y:=by
    rcases ahG.1 ((h x).1 (by simp))with e|h1
    ·exact e
    ·rcases ahG.1 ((h y).2 (by simp))with e|h2
     ·exact e.symm
     ·have:=hy x h1;have:=hx y h2;omega
   subst e;congr 1;refine ih (ahH.1 hl).2 (ahH.1 hu).2 fun z=>?_;constructor
   ·intro hz
    rcases ahG.1 ((h z).1 (by simp[hz]))with e|h1
    ·subst e;have:=hx z hz;omega
    ·exact h1
   ·intro hz
    rcases ahG.1 ((h z).2 (by simp[hz]))with e|h1
    ·subst e;have:=hy z hz;omega
    ·exact h1
theorem Asc.ext {l u:List Int} (hl:Asc l) (hu:Asc u) (h:mk l=mk u):l=u:=KJ hl.pw hu.pw (mk_inj hl.inM hu.inM h)
theorem tT {x:Int} {l:List Int} (h:Asc (x::l)):∃k,mk (x::l)=2 ^ (x.toNat+1)*k+2 ^ x.toNat∧mk l=2 ^ (x.toNat+1)*k:=by
 have hx:=h.rng x (by simp)
 refine⟨mk l / 2 ^ (x.toNat+1),?_,?_⟩
 ·apply aiq
  intro i;rw[dN h.inM,aiy _ (by rw[aiz];have:=aiA x.toNat;omega),ain,aiB,dN h.tail.inM]
  split
  ·have:((i:Int)∈x::l)↔x.toNat=i:=by
    constructor
    ·intro hm
     rcases ahG.1 hm with e|hm
     ·omega
     ·have:=h.head _ hm;omega
    ·intro e;exact ahG.2 (.inl (by omega))
   simp only[this]
  ·rw[show i-(x.toNat+1)+(x.toNat+1)=i by omega]
   have:((i:Int)∈x::l)↔(i:Int)∈l:=by
    rw[ahG];constructor
    ·rintro(e|h)
     ·omega
     ·exact h
    ·exact .inr
   simp only[this]
 ·apply aiq
  intro i;rw[aiC,aiB,dN h.tail.inM i];by_cases hi:i≥x.toNat+1
  ·rw[show i-(x.toNat+1)+(x.toNat+1)=i by omega,dN h.tail.inM];simp[hi]
  ·have:(i:Int)∉l:=fun hm=>by have:=h.head _ hm;omega
   rw[decide_eq_false hi,aiD,decide_eq_false this]
theorem ZN {x:Int} {l:List Int} (h:Asc (x::l)):
 IntKind.u32.wrap ((agC IntKind.u32.bits (mk (x::l):Int)&&& agC IntKind.u32.bits ((mk (x::l):Int)-1)).toNat:Int)=(mk l:Nat):=by
 obtain⟨k,h1,h2⟩:=tT h;have hx:=h.rng x (by simp)
 have hp:=aiA x.toNat;have hlt:=gY h.inM;have e:((mk (x::l):Int)-1)=((2 ^ (x.toNat+1)*k+(2 ^ x.toNat-1):Nat):Int):=by rw[h1];omega
 rw[e];refine EI hlt (by omega) (fun i hi=>?_) (gY h.tail.inM)
 rw[h1,h2,aiy _ (by rw[aiz];omega),aiy _ (by rw[aiz];omega),aiC,ain,aiE]
 by_cases hi:i<x.toNat+1
 ·rw[if_pos hi,if_pos hi,decide_eq_false (show¬(i≥x.toNat+1) by omega),aiD]
  by_cases e:x.toNat=i
  ·subst e;simp
  ·rw[decide_eq_false e,aiD]
 ·rw[if_neg hi,if_neg hi]
  simp;omega
theorem mk_pos {x:Int} {l:List Int} (h:Asc (x::l)):0<mk (x::l):=by
 obtain⟨k,h1,_⟩:=tT h;have hp:=aiA x.toNat;omega
theorem adl {x:Int} {l:List Int} (h:Asc (x::l)):Go.Lib.ctz 32 (mk (x::l))=x.toNat:=by
 have hp:=mk_pos h;obtain⟨m,h1,h2⟩:=Go.Lib.ctzFrom_spec 32 (mk (x::l)) hp (gY h.inM);obtain⟨k,h3,_⟩:=tT h;unfold Go.Lib.ctz;rw[if_neg (by omega)]
 generalize Go.Lib.ctzFrom 32 (mk (x::l))=c at h1 h2
 have b1:∀i,(mk (x::l)).testBit i=(decide (i≥c)&&(2*m+1).testBit (i-c)):=fun i=>by rw[h1,aiC]
 have hx:=h.rng x (by simp)
 have b2:=b1 x.toNat;rw[dN h.inM]at b2;have e1:((x.toNat:Nat):Int)=x:=by omega
 rw[e1]at b2;simp at b2;have b3:=b1 c;rw[dN h.inM]at b3;simp at b3;rcases b3 with e|b3
 ·omega
 ·have:=h.head _ b3;omega
structure St where
 cs:List (List Int)
 ds:List Bool
def St.cd (s:St) (i:Nat):List Int:=s.cs.getD i []
def St.dc (s:St) (i:Nat):Bool:=s.ds.getD i false
def ms (cs:List (List Int)):List Int:=cs.map fun l=>((mk l:Nat):Int)
theorem dR (cs:List (List Int)):(ms cs).length=cs.length:=by simp[ms]
theorem fG {cs:List (List Int)} {i:Nat} (h:i<cs.length):(ms cs).getD i 0=(mk (cs.getD i []):Nat):=by
 simp[ms,agt,h]
structure adn (c:Int) (l:List Int):Prop where
 ne:1≤l.length
 len:l.length≤16
 rng:∀x∈l,0≤x∧x<c
 pw:l.Pairwise (·< ·)
structure bB (c:Int) (ls:List (List Int)) (sum:Int) (s:St):Prop where
 c1:1≤c∧c≤16
 ll:1≤ls.length∧ls.length≤128
 ln:∀i,i<ls.length→adn c (ls.getD i [])
 sm: -999999999≤sum∧sum≤999999999
 cl:(s.cs.length:Int)=c
 dl:(s.ds.length:Int)=c
 asc:∀i,i<s.cs.length→Asc (s.cd i)∧∀x∈s.cd i,x≤c
 dec:∀i,i<s.cs.length→s.dc i=true→(s.cd i).length=1
def hd0 (l:List Int):Int:=l.getD 0 0
def ls0 (l:List Int):Int:=l.getD (l.length-1) 0
def opn (s:St) (l:List Int) (but:Int):List Int:=l.filter fun x=>!(s.dc x.toNat)&&decide (x≠but)
def rst (s:St) (sum:Int) (l:List Int):Int:=l.foldl (fun a x=>if s.dc x.toNat then a-hd0 (s.cd x.toNat)else a) sum
theorem KL (s:St) (l:List Int) (x but:Int):opn s (l++[x]) but=opn s l but++if !(s.dc x.toNat)&&decide (x≠but)then [x]else []:=by
 unfold opn;rw[List.filter_append,List.filter_cons,List.filter_nil]
theorem Bu (s:St) (sum:Int) (l:List Int) (x:Int):rst s sum (l++[x])=if s.dc x.toNat then rst s sum l-hd0 (s.cd x.toNat)else rst s sum l:=by
 unfold rst;rw[aiF];rfl
theorem bX {l:List Int} {i:Nat} (h:i<l.length):l.take (i+1)=l.take i++[l.getD i 0]:=by
 rw[aij,agt,agy h];rfl
theorem o7 {l:List Int} (h:1≤l.length):hd0 l∈l:=by
 cases l with
 |nil=>simp at h
 |cons x l=>simp[hd0]
theorem rG {l:List Int} (h:1≤l.length):ls0 l∈l:=by
 unfold ls0;rw[agt,agy (show l.length-1<l.length by omega)]
 exact aiG _
theorem QZ {l:List Int} (h:l.Pairwise (·< ·)):∀x∈l,hd0 l≤x:=by
 cases l with
 |nil=>intro x hx;simp at hx
 |cons y l=>
  intro x hx;rcases ahG.1 hx with rfl|hx
  ·simp[hd0]
  ·have:=(ahH.1 h).1 x hx;simp[hd0];omega
theorem Gx {l:List Int} (h:l.Pairwise (·< ·)):∀x∈l,x≤ls0 l:=by
 intro x hx;obtain⟨i,hi,rfl⟩:=agx hx;unfold ls0;rw[agt,agy (show l.length-1<l.length by omega)]
 by_cases e:i=l.length-1
 ·subst e;simp
 ·have:=List.pairwise_iff_getElem.1 h i (l.length-1) hi (by omega) (by omega)
  simp;omega
theorem bB.at {c:Int} {ls:List (List Int)} {sum:Int} {s:St} (h:bB c ls sum s) {x:Int} (hx:0≤x∧x<c):x.toNat<s.cs.length∧x.toNat<s.ds.length:=by
 have:=h.cl;have:=h.dl;omega
theorem bB.num {c:Int} {ls:List (List Int)} {sum:Int} {s:St} (h:bB c ls sum s) {x:Int} (hx:0≤x∧x<c) (hd:s.dc x.toNat=true):1≤hd0 (s.cd x.toNat)∧hd0 (s.cd x.toNat)≤16∧s.cd x.toNat=[hd0 (s.cd x.toNat)]:=by
 have hi:=(h.at hx).1;have h1:=h.dec _ hi hd;obtain⟨y,hy⟩:=List.length_eq_one_iff.1 h1;have h2:=(h.asc _ hi).1.rng (hd0 (s.cd x.toNat)) (o7 (by omega))
 refine⟨h2.1,h2.2,?_⟩;rw[hy];rfl
theorem p9 {c:Int} {ls:List (List Int)} {sum:Int} {s:St} (h:bB c ls sum s) {l:List Int} (hl:∀x∈l,0≤x∧x<c):∀i,i≤l.length→sum-16*i≤rst s sum (l.take i)∧rst s sum (l.take i)≤sum:=by
 intro i;induction i with
 |zero=>intro _;simp[rst]
 |succ i ih=>
  intro hi;have ih:=ih (by omega)
  have hx:=hl (l.getD i 0) (by rw[agt,agy (show i<l.length by omega)];exact aiG _)
  rw[bX (by omega),Bu]
  split
  ·rename_i hd
   have:=h.num hx hd;omega
  ·omega
def qc (s:St) (sum:Int) (l:List Int) (c x:Int):Bool:=decide ((opn s l c).length=0)&&decide (rst s sum l=x)
def tV (s:St) (c:Int):Bool:=decide ((s.cd c.toNat).length=1)
def l8 (s:St) (c x:Int):Bool:=(agr s.cs.length).all fun i=>decide ((i:Int)=c)||!decide (x∈s.cd i)
def iq (s:St) (o:List Int):Int:=o.foldl (fun a y=>a+hd0 (s.cd y.toNat)) 0
def iw (s:St) (o:List Int):Int:=o.foldl (fun a y=>a+ls0 (s.cd y.toNat)) 0
def tX (s:St) (sum:Int) (l:List Int) (c x:Int):Bool:=
 (opn s l c).any (fun y=>decide (s.cd y.toNat=[]))||(decide (rst s sum l-x<iq s (opn s l c))||decide (iw s (opn s l c)<rst s sum l-x))
def chs (s:St):List Int→List Int→Int→Bool
 | [],_,sum=>decide (sum=0)
 |y::r,used,sum=>((s.cd y.toNat).filter fun x=>!decide (x∈used)).any fun x=>chs s r (used++[x]) (sum-x)
def qd (s:St) (sum:Int) (l:List Int) (c x:Int):Bool:=decide ((opn s l c).length<4)&&!chs s (opn s l c) [x] (rst s sum l-x)
def brk (c:Int) (ls:List (List Int)) (sum:Int) (s:St):Bool:=
 (!(agr c.toNat).all fun i=>s.cs.any fun l=>decide (((i:Int)+1)∈l))||s.cs.any (fun l=>decide (l=[]))||ls.any fun l=>decide ((opn s l (-1)).length=0)&&decide (rst s sum l≠0)
def jst (g:Nat) (s:St) (sum:Int) (l:List Int) (y x:Int):Bool:=
 match g with
 |1=>qc s sum l y x
 |2=>tV s y
 |3=>l8 s y x
 |4=>tX s sum l y x
 |5=>qd s sum l y x
 |_=>false
def okJ (g:Nat) (s:St) (sum:Int) (l:List Int) (y x:Int):Bool:=!s.dc y.toNat&&(decide (x∈s.cd y.toNat)&&jst g s sum l y x)
def apl (g:Nat) (s:St) (y x:Int):St:=
 if g≤3 then⟨(s.cs.map fun l=>dw l x).set y.toNat [x],s.ds.set y.toNat true⟩else⟨s.cs.set y.toNat (dw (s.cd y.toNat) x),s.ds⟩
def don (s:St):Bool:=!s.ds.any fun b=>!b
end Go.Eng.YtcechbdgokjmgaaGreatDoor
namespace Go.Eng.YtcechbdgokjmgaaGreatDoor
open Go.Proofs
set_option linter.unusedSimpArgs false
set_option linter.unusedVariables false
set_option maxHeartbeats 0
set_option maxRecDepth 100000
theorem EJ (x:Int) (h:0≤x∧x<4294967296):IntKind.u32.wrap ((agC IntKind.u32.bits x&&& agC IntKind.u32.bits 255).toNat:Int)=((x.toNat % 256:Nat):Int):=by
 obtain⟨n,rfl⟩:∃n:Nat,x=n:=⟨x.toNat,by omega⟩
 rw[show(255:Int)=((255:Nat):Int)from rfl,ahl];refine EI (by omega) (by omega) (fun i hi=>?_) (by omega)
 rw[show(256:Nat)=2 ^ 8 from rfl,Nat.testBit_mod_two_pow,show(255:Nat)=2 ^ 8-1 from rfl,aiE,Bool.and_comm]
theorem Bv:∀(f g x:Nat),Go.Lib.popAux (f+g) x=Go.Lib.popAux f x+Go.Lib.popAux g (x / 2 ^ f):=by
 intro f;induction f with
 |zero=>intro g x;simp[Go.Lib.popAux]
 |succ f ih=>
  intro g x;rw[show f+1+g=(f+g)+1 by omega,Go.Lib.popAux,Go.Lib.popAux,ih,aiH,aiz,agH 2,Nat.add_assoc]
theorem Bw:∀(f x:Nat),Go.Lib.popAux f (x % 2 ^ f)=Go.Lib.popAux f x:=by
 intro f;induction f with
 |zero=>intro x;simp[Go.Lib.popAux]
 |succ f ih=>
  intro x;have e1:x % 2 ^ (f+1) % 2=x % 2:=Nat.mod_mod_of_dvd x (by rw[aiz];exact Nat.dvd_mul_left 2 _)
  have e2:x % 2 ^ (f+1) / 2=x / 2 % 2 ^ f:=by
   rw[aiz,agH,Nat.mod_mul_right_div_self]
  rw[Go.Lib.popAux,Go.Lib.popAux,e1,e2,ih]
theorem Af:∀(f x:Nat),Go.Lib.popAux f x≤f:=by
 intro f;induction f with
 |zero=>intro x;simp[Go.Lib.popAux]
 |succ f ih=>intro x;rw[Go.Lib.popAux];have:=ih (x / 2);omega
def vR (m:Int):Int:=(Go.Lib.popAux 32 m.toNat:Nat)
theorem Q0 (n:Nat) (h:n<4294967296):Go.Lib.popAux 32 n=Go.Lib.popAux 8 (n / 16777216)+Go.Lib.popAux 8 (n / 65536 % 256)+(Go.Lib.popAux 8 (n / 256 % 256)+Go.Lib.popAux 8 (n % 256)):=by
 rw[show(256:Nat)=2 ^ 8 from rfl,Bw,Bw,Bw,show(32:Nat)=8+(8+(8+8))from rfl,Bv,Bv,Bv,aiH,aiH];simp only[show 2 ^ 8*2 ^ 8=65536 from rfl,show 65536*2 ^ 8=16777216 from rfl];omega
theorem Bz (n:Nat) (h:n<256):IntKind.u8.wrap (n:Int)=n:=by
 simp only[IntKind.wrap,IntKind.bits,IntKind.signed];simp;omega
theorem Uv (n:Nat) (h:n<1000):IntKind.i64.wrap (n:Int)=n:=by
 simp only[IntKind.wrap,IntKind.bits,IntKind.signed];simp;omega
theorem Uw (T:Array UInt8) (hT:∀j,j<256→(T.getD j 0).toNat=Go.Lib.popAux 8 j) (m:Int) (h:0≤m∧m<4294967296):
 IntKind.i64.wrap (IntKind.u8.wrap (IntKind.u8.wrap (IntKind.u8.wrap (((T.getD (m / 2 ^ aiI 24).toNat 0).toNat:Int)+((T.getD (IntKind.u32.wrap ((agC IntKind.u32.bits (m / 2 ^ aiI 16)&&& agC IntKind.u32.bits 255).toNat:Int)).toNat 0).toNat:Int))+
  ((T.getD (IntKind.u32.wrap ((agC IntKind.u32.bits (m / 2 ^ aiI 8)&&& agC IntKind.u32.bits 255).toNat:Int)).toNat 0).toNat:Int))+((T.getD (IntKind.u32.wrap ((agC IntKind.u32.bits m&&& agC IntKind.u32.bits 255).toNat:Int)).toNat 0).toNat:Int)))=vR m:=by
 obtain⟨n,rfl⟩:∃n:Nat,m=n:=⟨m.toNat,by omega⟩
 have e24:((n:Int) / 2 ^ aiI 24)=((n / 16777216:Nat):Int):=by norm_cast
 have e16:((n:Int) / 2 ^ aiI 16)=((n / 65536:Nat):Int):=by norm_cast
 have e8:((n:Int) / 2 ^ aiI 8)=((n / 256:Nat):Int):=by norm_cast
 rw[e24,e16,e8,EJ _ (by omega),EJ _ (by omega),EJ _ (by omega)]
 simp only[ahl];rw[hT _ (by omega),hT _ (by omega),hT _ (by omega),hT _ (by omega)]
 have:=Af 8 (n / 16777216);have:=Af 8 (n / 65536 % 256);have:=Af 8 (n / 256 % 256);have:=Af 8 (n % 256);rw[←aiJ,Bz _ (by omega),←aiJ,Bz _ (by omega),←aiJ,Bz _ (by omega),Uv _ (by omega)]
 unfold vR;rw[ahl,Q0 n (by omega)]
 omega
theorem Q5 (m:Int) (h:0≤m∧m<4294967296):aF Tryz.prog 237 [.int .u32 m] (.int .i64 (vR m)):=by
 have b:∀x:Int,(0≤x∧x<4294967296)→0≤IntKind.u32.wrap ((agC IntKind.u32.bits x&&& agC IntKind.u32.bits 255).toNat:Int)∧IntKind.u32.wrap ((agC IntKind.u32.bits x&&& agC IntKind.u32.bits 255).toNat:Int)<256:=fun x hx=>by rw[EJ x hx];omega
 have e16:0≤m / 2 ^ aiI 16∧m / 2 ^ aiI 16<4294967296:=by rw[show(2:Int) ^ aiI 16=65536 from rfl];omega
 have e8:0≤m / 2 ^ aiI 8∧m / 2 ^ aiI 8<4294967296:=by rw[show(2:Int) ^ aiI 8=256 from rfl];omega
 have e24:0≤m / 2 ^ aiI 24∧m / 2 ^ aiI 24<256:=by rw[show(2:Int) ^ aiI 24=16777216 from rfl];omega
 refine av (md:=2) (rf:=[]) mixed aj aC Tryz.func237 (by rfl) (by rfl) (by rfl) ?_
 repeat'((conv=>whnf);first|intro _|apply aI|with_reducible exact vM rfl|exact⟨⟩|apply nM|apply fM)
 all_goals first
  |(refine Sup.of (congrArg (PV.int .i64) ?_);exact Uw _ (by decide+kernel) m h)
  |(refine aiK (b:=256) ?_ (by decide+kernel);first|exact e24.2|exact(b _ e16).2|exact(b _ e8).2|exact(b _ h).2)
  |exact e24.1|exact(b _ e16).1|exact(b _ e8).1|exact(b _ h).1|exact h.1|decide
theorem Dj:∀(a n y:Nat),Go.Lib.popAux (a+n) (2 ^ a*y)=Go.Lib.popAux n y:=by
 intro a;induction a with
 |zero=>intro n y;simp
 |succ a ih=>
  intro n y;have e:2 ^ (a+1)*y=2*(2 ^ a*y):=by rw[aiz,agH (2 ^ a) 2,aiL]
  rw[show a+1+n=(a+n)+1 by omega,Go.Lib.popAux,e,aiM,aiN _ (by omega),ih,agG]
theorem pop_mk {l:List Int} (h:Asc l):vR (mk l:Nat)=l.length:=by
 unfold vR;rw[ahl];induction l with
 |nil=>rfl
 |cons x l ih=>
  obtain⟨k,h1,h2⟩:=tT h;have hx:=h.rng x (by simp)
  have ih:=ih h.tail;rw[h2,aiz,aiL,show 32=x.toNat+(31-x.toNat+1) by omega,Dj,Go.Lib.popAux,aiM,aiN _ (by omega)]at ih
  rw[h1,aiz,aiL,show 2 ^ x.toNat*(2*k)+2 ^ x.toNat=2 ^ x.toNat*(2*k+1) by rw[aii,agP],show 32=x.toNat+(31-x.toNat+1) by omega,Dj,Go.Lib.popAux,
   show(2*k+1) % 2=1 by omega,show(2*k+1) / 2=k by omega,agb]
  omega
def fq (m:Int):Int:=(Go.Lib.bitLen m.toNat:Nat)
theorem wY (T:Array UInt8) (hT:∀j,j<256→(T.getD j 0).toNat=Go.Lib.bitLen j) (x:Int) (h:0≤x∧x<256):((T.getD x.toNat 0).toNat:Int)=fq x:=by
 rw[hT _ (by omega)];rfl
theorem wZ (x:Int) (h:0≤x∧x<256):0≤fq x∧fq x≤8:=by
 have:=Go.Lib.bitLen_le8 ⟨x.toNat,by omega⟩
 unfold fq;simp only at this;omega
theorem KM (k n:Nat) (h0:2 ^ k≤n) (h:n<4294967296):fq (n:Int)=(k:Int)+fq ((n / 2 ^ k:Nat):Int):=by
 have h2:(4294967296:Nat)<2 ^ 64:=by decide
 unfold fq;rw[ahl,ahl,Go.Lib.bitLen_shift k n h0 (by omega)]
 omega
theorem KO (k K:Nat) (hK:2 ^ k=K) (x:Int) (h0:(K:Int)≤x) (h:x<4294967296):fq x=k+fq (x / K):=by
 obtain⟨n,rfl⟩:∃n:Nat,x=n:=⟨x.toNat,by omega⟩
 have:=KM k n (by rw[hK];omega) (by omega)
 rw[this,hK];rfl
theorem Ux (m:Int) (h:0≤m∧m<4294967296):aF Tryz.prog 257 [.int .u32 m] (.int .i64 (fq m)):=by
 have p16:(2:Int) ^ aiI 16=65536:=by decide
 have p8:(2:Int) ^ aiI 8=256:=by decide
 have d16:aiI 16≤IntKind.u32.bits:=by decide
 have d8:aiI 8≤IntKind.u32.bits:=by decide
 have a1:65536≤m→fq m=16+fq (m / 65536):=fun h1=>KO 16 65536 rfl m h1 h.2;have a2:∀x:Int,256≤x→x<4294967296→fq x=8+fq (x / 256):=fun x h1 h2=>KO 8 256 rfl x h1 h2;refine av (md:=1) (rf:=[]) mixed aj aC Tryz.func257 (by rfl) (by rfl) (by rfl) ?_
 repeat'((conv=>whnf);first|intro _|apply aI|with_reducible exact vM rfl|exact⟨⟩|apply nM|apply fM)
 all_goals((try apply vM);(try simp only[vq]at*);try omega)
 all_goals(try simp only[p16,p8]at*)
 all_goals(try first|exact d16|exact d8|omega|(refine aiK (b:=256) (by omega) (by decide+kernel)))
 all_goals(try(rw[wY _ ?_ (m / 65536 / 256) (by omega)];rotate_left;(decide+kernel);(have:=wZ (m / 65536 / 256) (by omega));first|omega|((refine Sup.of (congrArg (PV.int .i64) ?_));rw[a1 (by omega),a2 (m / 65536) (by omega) (by omega)];omega)))
 all_goals(try(rw[wY _ ?_ (m / 65536) (by omega)];rotate_left;(decide+kernel);(have:=wZ (m / 65536) (by omega));first|omega|((refine Sup.of (congrArg (PV.int .i64) ?_));rw[a1 (by omega)])))
 all_goals(try(rw[wY _ ?_ (m / 256) (by omega)];rotate_left;(decide+kernel);(have:=wZ (m / 256) (by omega));first|omega|((refine Sup.of (congrArg (PV.int .i64) ?_));rw[a2 m (by omega) (by omega)];omega)))
 all_goals(try(rw[wY _ ?_ (m) (by omega)];rotate_left;(decide+kernel);(have:=wZ (m) (by omega));first|omega|((refine Sup.of (congrArg (PV.int .i64) ?_));omega)))
def Uy:PSp:=fun xs K=>match xs with
 | [.int .u32 m]=>VC (0≤m∧m<4294967296)∧K (.int .i64 (fq m))
 |_=>False
theorem ado:POK Tryz.prog 257 Uy:=by
 intro xs K h;unfold Uy at h;split at h
 ·exact⟨_,h.2,Ux _ h.1.get⟩
 ·exact h.elim
noncomputable def ae5:CPT:=aA 257 (aB Uy) noC
theorem ZO:aV Tryz.prog ae5:=ak (au ado) aC
theorem KP (m:Int) (h:0≤m∧m<4294967296):0≤fq m∧fq m≤64:=by
 have:∀f x,Go.Lib.bitLenAux f x≤f:=by
  intro f;induction f with
  |zero=>intro x;simp[Go.Lib.bitLenAux]
  |succ f ih=>intro x;rw[Go.Lib.bitLenAux];(split;omega;(have:=ih (x / 2);omega))
 have h2:=this 64 m.toNat;have h3:fq m=((Go.Lib.bitLenAux 64 m.toNat:Nat):Int):=rfl;omega
theorem ZP (m:Int) (h:0≤m∧m<4294967296):aF Tryz.prog 238 [.int .u32 m] (.int .i64 (32-fq m)):=by
 have:=KP m h;refine av (md:=1) (rf:=[]) mixed aj ZO Tryz.func238 (by rfl) (by rfl) (by rfl) ?_
 repeat'((conv=>whnf);first|intro _|apply aI|with_reducible exact vM rfl|exact⟨⟩|apply nM|apply fM)
 all_goals((try apply vM);(try simp only[vq]at*);try omega)
 all_goals exact Sup.of rfl
def lzP:PSp:=fun xs K=>match xs with
 | [.int .u32 m]=>VC (0≤m∧m<4294967296)∧K (.int .i64 (32-fq m))
 |_=>False
theorem aeo:POK Tryz.prog 238 lzP:=by
 intro xs K h;unfold lzP at h;split at h
 ·exact⟨_,h.2,ZP _ h.1.get⟩
 ·exact h.elim
def NU:PSp:=fun xs K=>match xs with
 | [.int .u32 m]=>VC (0≤m∧m<4294967296)∧K (.int .i64 (vR m))
 |_=>False
theorem ZQ:POK Tryz.prog 237 NU:=by
 intro xs K h;unfold NU at h;split at h
 ·exact⟨_,h.2,Q5 _ h.1.get⟩
 ·exact h.elim
def qg (m:Int):Int:=(Go.Lib.ctz 32 m.toNat:Nat)
theorem u32_neg (n:Nat) (h0:n≠0) (h:n<4294967296):IntKind.u32.wrap (0-(n:Int))=((4294967296-n:Nat):Int):=by
 simp only[IntKind.wrap,IntKind.bits,IntKind.signed];simp;omega
theorem ZR (m:Int) (h:0<m∧m<4294967296):∃k:Nat,k<32∧qg m=k∧IntKind.u32.wrap (IntKind.u32.wrap ((agC IntKind.u32.bits m&&& agC IntKind.u32.bits (IntKind.u32.wrap (0-m))).toNat:Int)*125613361) / 2 ^ aiI 27=((2 ^ k*125613361 % 4294967296 / 134217728:Nat):Int):=by
 obtain⟨n,rfl⟩:∃n:Nat,m=n:=⟨m.toNat,by omega⟩
 obtain⟨h1,h2⟩:=Go.Lib.lowest_bit 32 n (by omega) (by omega)
 refine⟨Go.Lib.ctz 32 n,h2,by simp[qg],?_⟩
 have hp:2 ^ Go.Lib.ctz 32 n≤2 ^ 31:=air (by omega) (by omega)
 rw[u32_neg n (by omega) (by omega),EI (k:=2 ^ Go.Lib.ctz 32 n) (by omega) (by omega) (fun i hi=>by rw[←h1,Nat.testBit_and]) (by omega)]
 have e:((2 ^ Go.Lib.ctz 32 n:Nat):Int)*125613361=((2 ^ Go.Lib.ctz 32 n*125613361:Nat):Int):=by rw[Int.natCast_mul];rfl
 rw[e,show(2:Int) ^ aiI 27=((134217728:Nat):Int) by decide]
 have w:∀q:Nat,IntKind.u32.wrap (q:Int)=((q % 4294967296:Nat):Int):=fun q=>by simp only[IntKind.wrap,IntKind.bits,IntKind.signed];simp
 rw[w,Int.natCast_ediv]
theorem adp:∀k:Nat,k<32→rz.getD (2 ^ k*125613361 % 4294967296 / 134217728) 0=(k:Int):=by decide+kernel
theorem Q6 (n:Int) (h:0≤n∧n<1000):IntKind.i64.wrap n=n:=by
 simp only[IntKind.wrap,IntKind.bits,IntKind.signed];simp;omega
theorem Uz:aF Tryz.prog 220 [.int .u32 0] (.int .i64 32):=by
 refine av (md:=2) (rf:=[]) mixed aj aC Tryz.func220 (by rfl) (by rfl) (by rfl) ?_
 repeat'((conv=>whnf);first|(intro hq;(try simp only[vw]at hq);try first|exact absurd hq (by decide)|exfalso;omega)|apply aI|with_reducible exact vM rfl|exact⟨⟩|apply nM|apply fM)
 all_goals exact Sup.of rfl
theorem ZT (m q:Int) (k:Nat) (h0:¬m=0) (hk:k<32) (h1:IntKind.u32.wrap (IntKind.u32.wrap ((agC IntKind.u32.bits m&&& agC IntKind.u32.bits (IntKind.u32.wrap (0-m))).toNat:Int)*125613361)=q) (hq0:0≤q)
 (h2:q / 2 ^ aiI 27=(k:Int)) (e:Int) (he:0≤e∧e<1000) (ht:rz.getD k 0=e):aF Tryz.prog 220 [.int .u32 m] (.int .i64 e):=by
 have e5:te5.size=1:=by rfl
 have d27:aiI 27≤IntKind.u32.bits:=by decide
 have hl:rz.length=32:=rfl;refine av (md:=2) (rf:=[]) mixed aj aC Tryz.func220 (by rfl) (by rfl) (by rfl) ?_
 repeat'((conv=>whnf);first|(intro hq;(try simp only[vw]at hq);try first|exact absurd hq (by decide)|exfalso;omega)|apply aI|with_reducible exact vM rfl|exact⟨⟩|apply nM|apply fM)
 all_goals first|exact h0|exact d27|(rw[h1];exact hq0)|(rw[h1,h2];omega)|(rw[h1,h2,e5,ahl];simp only[CL.ncell,hl];omega)|(refine Sup.of (congrArg (PV.int .i64) ?_);rw[h1,h2,e5,ahl,agP,agG,ht,Q6 _ he])|omega
theorem UA (m:Int) (h:0≤m∧m<4294967296):aF Tryz.prog 220 [.int .u32 m] (.int .i64 (qg m)):=by
 by_cases h0:m=0
 ·subst h0
  exact Uz
 obtain⟨k,hk,h1,h2⟩:=ZR m (by omega)
 have hb:=Go.Lib.deBruijn32_at k hk;have ht:=adp k hk;rw[h1];refine ZT m _ _ h0 hb.1 rfl ?_ h2 _ (by omega) ht
 generalize IntKind.u32.wrap ((agC IntKind.u32.bits m&&& agC IntKind.u32.bits (IntKind.u32.wrap (0-m))).toNat:Int)*125613361=q
 simp only[IntKind.wrap,IntKind.bits,IntKind.signed];simp;omega
def UC:PSp:=fun xs K=>match xs with
 | [.int .u32 m]=>VC (0≤m∧m<4294967296)∧K (.int .i64 (qg m))
 |_=>False
theorem adq:POK Tryz.prog 220 UC:=by
 intro xs K h;unfold UC at h;split at h
 ·exact⟨_,h.2,UA _ h.1.get⟩
 ·exact h.elim
noncomputable def ae6:CPT:=aA 220 (aB UC) (aA 237 (aB NU) (aA 238 (aB lzP) noC))
theorem BA:aV Tryz.prog ae6:=ak (au adq) (ak (au ZQ) (ak (au aeo) aC))
theorem NV (m:Int) (h:0≤m∧m<4294967296):aF Tryz.prog 190 [.int .u32 m] (.int .i64 (qg m)):=by
 refine av (md:=1) (rf:=[]) mixed aj BA Tryz.func190 (by rfl) (by rfl) (by rfl) ?_
 repeat'((conv=>whnf);first|intro _|apply aI|with_reducible exact vM rfl|exact⟨⟩|apply nM|apply fM)
 all_goals((try apply vM);(try simp only[vq]at*);try omega)
 all_goals exact Sup.of rfl
theorem Q7 (m:Int) (h:0≤m∧m<4294967296):aF Tryz.prog 210 [.int .u32 m] (.int .i64 (vR m)):=by
 refine av (md:=1) (rf:=[]) mixed aj BA Tryz.func210 (by rfl) (by rfl) (by rfl) ?_
 repeat'((conv=>whnf);first|intro _|apply aI|with_reducible exact vM rfl|exact⟨⟩|apply nM|apply fM)
 all_goals((try apply vM);(try simp only[vq]at*);try omega)
 all_goals exact Sup.of rfl
theorem D8 (m:Int) (h:0≤m∧m<4294967296):aF Tryz.prog 211 [.int .u32 m] (.int .i64 (fq m-1)):=by
 have:=KP m h;have e:(31:Int)-(32-fq m)=fq m-1:=by omega
 refine av (md:=1) (rf:=[]) mixed aj BA Tryz.func211 (by rfl) (by rfl) (by rfl) ?_
 repeat'((conv=>whnf);first|intro _|apply aI|with_reducible exact vM rfl|exact⟨⟩|apply nM|apply fM)
 all_goals((try apply vM);(try simp only[vq]at*);try omega)
 all_goals(rw[e];exact Sup.of rfl)
def BD (m x:Int):Bool:=decide (IntKind.u32.wrap ((agC IntKind.u32.bits (m / 2 ^ x.toNat)&&& agC IntKind.u32.bits 1).toNat:Int)=1)
theorem Q8 (m x:Int) (h:0≤m) (hx:0≤x∧x≤31):aF Tryz.prog 156 [.int .u32 m,.int .i64 x] (.bp (BD m x)):=by
 have e:IntKind.u32.bits=32:=rfl;refine av (md:=1) (rf:=[]) mixed aj aC Tryz.func156 (by rfl) (by rfl) (by rfl) ?_
 repeat'((conv=>whnf);first|intro _|apply aI|with_reducible exact vM rfl|exact⟨⟩|apply nM|apply fM)
 all_goals((try apply vM);(try simp only[vq]at*);try omega)
 all_goals exact Sup.of rfl
def vS:PSp:=fun xs K=>match xs with
 | [.int .u32 m]=>VC (0≤m∧m<4294967296)∧K (.int .i64 (qg m))
 |_=>False
theorem yI:POK Tryz.prog 190 vS:=by
 intro xs K h;unfold vS at h;split at h
 ·exact⟨_,h.2,NV _ h.1.get⟩
 ·exact h.elim
def NW:PSp:=fun xs K=>match xs with
 | [.int .u32 m]=>VC (0≤m∧m<4294967296)∧K (.int .i64 (vR m))
 |_=>False
theorem ZU:POK Tryz.prog 210 NW:=by
 intro xs K h;unfold NW at h;split at h
 ·exact⟨_,h.2,Q7 _ h.1.get⟩
 ·exact h.elim
def vT:PSp:=fun xs K=>match xs with
 | [.int .u32 m]=>VC (0≤m∧m<4294967296)∧K (.int .i64 (fq m-1))
 |_=>False
theorem JO:POK Tryz.prog 211 vT:=by
 intro xs K h;unfold vT at h;split at h
 ·exact⟨_,h.2,D8 _ h.1.get⟩
 ·exact h.elim
def EK:PSp:=fun xs K=>match xs with
 | [.int .u32 m,.int .i64 x]=>VC (0≤m∧0≤x∧x≤31)∧K (.bp (BD m x))
 |_=>False
theorem KQ:POK Tryz.prog 156 EK:=by
 intro xs K h;unfold EK at h;split at h
 ·exact⟨_,h.2,Q8 _ _ h.1.get.1 h.1.get.2⟩
 ·exact h.elim
theorem qj {l:List Int} (h:Asc l):0≤(mk l:Int)∧(mk l:Int)<131072:=by
 have:=adh (l:=l) (fun x hx=>by have:=h.rng x hx;omega)
 omega
theorem KS {l:List Int} (h:Asc l) {x:Int} (hx:0≤x∧x≤31):BD (mk l) x=decide (x∈l):=by
 unfold BD;rw[QY h.inM hx];by_cases hm:x∈l<;>simp[hm]
theorem KT {x:Int} {l:List Int} (h:Asc (x::l)):qg (mk (x::l))=x:=by
 unfold qg;rw[ahl,adl h];have:=h.rng x (by simp)
 omega
theorem ZV {l:List Int} (h:Asc l) {z:Int} (hz:z∈l) (hm:∀x∈l,x≤z):fq (mk l)=z+1:=by
 have hr:=h.rng z hz;have e:((z.toNat:Nat):Int)=z:=by omega
 have h1:2 ^ z.toNat≤mk l:=Nat.ge_two_pow_of_testBit (by rw[dN h.inM,e];simp[hz])
 have h2:mk l<2 ^ (z.toNat+1):=aip _ fun i hi=>by
  rw[dN h.inM];simp only[decide_eq_false_iff_not];intro hm';have:=hm _ hm';omega
 have h3:=(qj h).2;rw[KM z.toNat (mk l) h1 (by omega)]
 have h4:mk l / 2 ^ z.toNat=1:=by
  rw[Nat.div_eq_iff (aiA _)];rw[aiz]at h2;omega
 rw[h4];have:fq ((1:Nat):Int)=1:=by decide
 omega
theorem vU {p:Nat→Bool} {n:Nat} (h:∀i,i<n→p i=false):(agr n).find? p=none:=by
 simp only[aiO,ah5];exact fun i hi=>by simp[h i hi]
theorem Dk {p:Nat→Bool} {n y:Nat} (hy:y<n) (hp:p y=true) (h:∀i,i<y→p i=false):(agr n).find? p=some y:=by
 have e:agr n=agr y++(y::List.range' (y+1) (n-y-1)):=by
  rw[ahS,ahS,show n=y+(1+(n-y-1)) by omega,←aiP,←aiP]
  simp
 rw[e,List.find?_append,vU h];simp[hp]
def firstAt (p:Nat→Bool) (n:Nat):Int:=match(agr n).find? p with
 |some i=>i
 |none=> -1
theorem jW {p:Nat→Bool} {n:Nat} (h:∀i,i<n→p i=false):firstAt p n= -1:=by unfold firstAt;rw[vU h]
theorem jX {p:Nat→Bool} {n y:Nat} (hy:y<n) (hp:p y=true) (h:∀i,i<y→p i=false):firstAt p n=y:=by unfold firstAt;rw[Dk hy hp h]
theorem gy {p:Nat→Bool} {n:Nat}:decide (0≤firstAt p n)=(agr n).any p:=by
 unfold firstAt;cases h:(agr n).find? p with
 |some i=>
  have:=aiQ h;have hm:=List.mem_of_find?_eq_some h;rw[aiR.2 ⟨i,hm,this⟩];simp
 |none=>
  rw[aiO]at h;rw[aiS.2 (fun x hx=>h x hx)];simp
theorem nW {α:Type} (p:α→Bool) (d:α) (l:List α):(agr l.length).any (fun i=>p (l.getD i d))=l.any p:=by
 rw[aio,aiR,aiR];constructor
 ·rintro⟨i,hi,h⟩
  have hi:=ah5.1 hi;rw[agt,agy hi]at h;exact⟨l[i],aiG hi,h⟩
 ·rintro⟨x,hx,h⟩
  obtain⟨i,hi,rfl⟩:=agx hx;exact⟨i,ah5.2 hi,by rw[agt,agy hi];exact h⟩
def EL:PSp:=fun xs K=>match xs with
 | [.isl (.ints .i64 l) .none,.fn (.func f) fs cs]=>VC (l.length≤2000000)∧∃p:Int→Bool,(∀x∈l,aF Tryz.prog f (fs++[.int .i64 x]++cs) (.bp (p x)))∧K (.int .i64 (firstAt (fun i=>p (l.getD i 0)) l.length))
 |_=>False
theorem Q9 (l:List Int) (hl:l.length≤2000000) (f:Nat) (fs cs:List PV) (p:Int→Bool) (hp:∀x∈l,aF Tryz.prog f (fs++[.int .i64 x]++cs) (.bp (p x))):
 aF Tryz.prog 207 [.isl (.ints .i64 l) .none,.fn (.func f) fs cs] (.int .i64 (firstAt (fun i=>p (l.getD i 0)) l.length)):=by
 refine zU 1 (enters' Tryz.func207 (by rfl) (by rfl)) rfl (by simp) fun S0 w0 us vs hu hv=>?_
 have hY:∀r,kM Tryz.prog r (wT S0 w0) (fnY f us vs fun xs K=>match xs with
  | [.int .i64 x]=>VC (x∈l)∧K (.bp (p x))
  |_=>False):=fun r=>Qz (fs:=fs) (cs:=cs) (fun S w hb=>⟨hu.mono hb.1 (.refl _),hv.mono hb.1 (.refl _)⟩) fun xs K hk=>by
  split at hk
  ·exact⟨_,hk.2,hp _ hk.1.get⟩
  ·exact hk.elim
 have W:Walk Tryz.prog none (wT S0 w0) tab.get noC _:=⟨tF,mixed,aj,aC.up _,hY none⟩;refine vk tF mixed aj (md:=1) (rf:=[]) (aC.up _) (hY none) Tryz.func207 (by rfl) (by rfl) ?_
 repeat'((conv=>whnf);first|intro _|apply aI|with_reducible exact vM rfl|exact⟨⟩|apply nM|apply fM)
 all_goals((try apply vM);(try simp only[vq]at*);try omega)
 conv=>whnf
 refine aJ (X:=Nat) (fun i=>i≤l.length∧∀j,j<i→p (l.getD j 0)=false) (fun i=>[(8,.int .i64 i)]) (fun i=>[]) (fun i=>l.length-i) 0 W (by rfl) ⟨by omega,fun j hj=>by omega⟩ ?_ ?_
 ·repeat'((conv=>whnf);first|intro _|apply aI|with_reducible exact vM rfl|exact⟨⟩|apply nM|apply fM)
  all_goals((try apply vM);(try simp only[vq]at*);try omega)
 ·rintro i ⟨hi,hok⟩
  by_cases hlt:i<l.length
  ·have hm:l.getD i 0∈l:=by rw[agt,agy hlt];exact aiG hlt
   repeat'((conv=>whnf);first|intro _|apply aI|with_reducible exact vM rfl|exact⟨⟩|apply nM|apply fM)
   all_goals((try apply vM);(try simp only[vq]at*);try omega)
   ·rw[jX hlt ‹p (l.getD i 0)=true› hok];exact Sup.of rfl
   ·refine⟨i+1,[],⟨⟨by omega,fun j hj=>?_⟩,by omega⟩,?_⟩
    ·by_cases e:j=i
     ·subst e;assumption
     ·exact hok j (by omega)
    ·repeat'((conv=>whnf);first|intro _|apply aI|with_reducible exact vM rfl|exact⟨⟩|apply nM|apply fM)
     all_goals((try apply vM);(try simp only[vq]at*);try omega)
  ·have:i=l.length:=by omega
   subst this;rw[jW hok]
   repeat'((conv=>whnf);first|intro _|apply aI|with_reducible exact vM rfl|exact⟨⟩|apply nM|apply fM)
   all_goals((try apply vM);(try simp only[vq]at*);try omega)
   exact Sup.of rfl
theorem KU:POK Tryz.prog 207 EL:=by
 intro xs K h;unfold EL at h;split at h
 ·obtain⟨⟨h1⟩,p,h2,hK⟩:=h
  exact⟨_,hK,Q9 _ h1 _ _ _ p h2⟩
 ·exact h.elim
def NY:PSp:=fun xs K=>match xs with
 | [.isl (.ints .i64 l) .none,.fn (.func f) fs cs]=>VC (l.length≤2000000∧eU.inlF fs=true∧eU.inlF cs=true)∧∃p:Int→Bool,(∀x∈l,aF Tryz.prog f (fs++[.int .i64 x]++cs) (.bp (p x)))∧K (.bp (l.any p))
 |_=>False
theorem Ra (l:List Int) (hl:l.length≤2000000) (f:Nat) (fs cs:List PV) (hfs:eU.inlF fs=true) (hcs:eU.inlF cs=true) (p:Int→Bool) (hp:∀x∈l,aF Tryz.prog f (fs++[.int .i64 x]++cs) (.bp (p x))):
 aF Tryz.prog 215 [.isl (.ints .i64 l) .none,.fn (.func f) fs cs] (.bp (l.any p)):=by
 have hc:aV Tryz.prog (aA 207 (aB EL) noC):=ak (au KU) aC;refine av (md:=1) (rf:=[]) mixed aj hc Tryz.func215 (by rfl) (by rfl) (by rfl) ?_
 repeat'((conv=>whnf);first|intro _|apply aI|with_reducible exact vM rfl|exact⟨⟩|apply nM|apply fM)
 conv=>whnf
 simp only[aB,qG,jy,sM,eU,hfs,hcs]
 repeat'((conv=>whnf);first|intro _|apply aI|with_reducible exact vM rfl|exact⟨⟩|apply nM|apply fM)
 all_goals((try apply vM);(try simp only[vq]at*);try omega)
 refine⟨p,hp,?_⟩
 repeat'((conv=>whnf);first|intro _|apply aI|with_reducible exact vM rfl|exact⟨⟩|apply nM|apply fM)
 all_goals((try apply vM);(try simp only[vq]at*);try omega)
 refine Sup.via ?_
 repeat'((conv=>whnf);first|intro _|apply aI|with_reducible exact vM rfl|exact⟨⟩|apply nM|apply fM)
 refine VC.mk ?_;rw[gy,nW]
theorem ZW:POK Tryz.prog 215 NY:=by
 intro xs K h;unfold NY at h;split at h
 ·obtain⟨⟨h1,h3,h4⟩,p,h2,hK⟩:=h
  exact⟨_,hK,Ra _ h1 _ _ _ h3 h4 p h2⟩
 ·exact h.elim
theorem Rb (l:List Bool) (hl:l.length≤2000000) (b:Bool):aF Tryz.prog 192 [.isl (.bools l) .none,.bp b] (.int .i64 (firstAt (fun i=>b==l.getD i false) l.length)):=by
 refine av (md:=1) (rf:=[]) mixed aj aC Tryz.func192 (by rfl) (by rfl) (by rfl) ?_
 repeat'((conv=>whnf);first|intro _|apply aI|with_reducible exact vM rfl|exact⟨⟩|apply nM|apply fM)
 all_goals((try apply vM);(try simp only[vq]at*);try omega)
 conv=>whnf
 refine aJ (X:=Nat) (fun i=>i≤l.length∧∀j,j<i→(b==l.getD j false)=false) (fun i=>[(8,.int .i64 i)]) (fun i=>[]) (fun i=>l.length-i) 0 ⟨aG,mixed,aj,aC,aM⟩ (by rfl) ⟨by omega,fun j hj=>by omega⟩ ?_ ?_
 ·repeat'((conv=>whnf);first|intro _|apply aI|with_reducible exact vM rfl|exact⟨⟩|apply nM|apply fM)
  all_goals((try apply vM);(try simp only[vq]at*);try omega)
 ·rintro i ⟨hi,hok⟩
  by_cases hlt:i<l.length
  ·repeat'((conv=>whnf);first|intro _|apply aI|with_reducible exact vM rfl|exact⟨⟩|apply nM|apply fM)
   all_goals((try apply vM);(try simp only[vq]at*);try omega)
   ·rw[jX hlt ‹(b==l.getD i false)=true› hok];exact Sup.of rfl
   ·refine⟨i+1,[],⟨⟨by omega,fun j hj=>?_⟩,by omega⟩,?_⟩
    ·by_cases e:j=i
     ·subst e;assumption
     ·exact hok j (by omega)
    ·repeat'((conv=>whnf);first|intro _|apply aI|with_reducible exact vM rfl|exact⟨⟩|apply nM|apply fM)
     all_goals((try apply vM);(try simp only[vq]at*);try omega)
  ·have:i=l.length:=by omega
   subst this;rw[jW hok]
   repeat'((conv=>whnf);first|intro _|apply aI|with_reducible exact vM rfl|exact⟨⟩|apply nM|apply fM)
   all_goals((try apply vM);(try simp only[vq]at*);try omega)
   exact Sup.of rfl
def NZ:PSp:=fun xs K=>match xs with
 | [.isl (.bools l) .none,.bp b]=>VC (l.length≤2000000)∧K (.int .i64 (firstAt (fun i=>b==l.getD i false) l.length))
 |_=>False
theorem ZX:POK Tryz.prog 192 NZ:=by
 intro xs K h;unfold NZ at h;split at h
 ·exact⟨_,h.2,Rb _ h.1.get _⟩
 ·exact h.elim
theorem Rf (l:List Bool) (hl:l.length≤2000000) (b:Bool):aF Tryz.prog 152 [.isl (.bools l) .none,.bp b] (.bp (l.any fun x=>b==x)):=by
 have hc:aV Tryz.prog (aA 192 (aB NZ) noC):=ak (au ZX) aC;refine av (md:=1) (rf:=[]) mixed aj hc Tryz.func152 (by rfl) (by rfl) (by rfl) ?_
 repeat'((conv=>whnf);first|intro _|apply aI|with_reducible exact vM rfl|exact⟨⟩|apply nM|apply fM)
 all_goals((try apply vM);(try simp only[vq]at*);try omega)
 refine Sup.via ?_
 repeat'((conv=>whnf);first|intro _|apply aI|with_reducible exact vM rfl|exact⟨⟩|apply nM|apply fM)
 refine VC.mk ?_;rw[gy,nW (fun x=>b==x)]
def N7:PSp:=fun xs K=>match xs with
 | [.isl (.bools l) .none,.bp b]=>VC (l.length≤2000000)∧K (.bp (l.any fun x=>b==x))
 |_=>False
theorem ZY:POK Tryz.prog 152 N7:=by
 intro xs K h;unfold N7 at h;split at h
 ·exact⟨_,h.2,Rf _ h.1.get _⟩
 ·exact h.elim
theorem Gy:∀(l:List Int) (a b:Int),l.Pairwise (·< ·)→(∀x∈l,a<x∧x≤b)→a≤b→(l.length:Int)≤b-a:=by
 intro l;induction l with
 |nil=>intro a b _ _ h;simp;omega
 |cons x l ih=>
  intro a b hp hr hab;have hx:=hr x (by simp)
  have:=ih x b (ahH.1 hp).2 (fun y hy=>⟨(ahH.1 hp).1 y hy,(hr y (by simp[hy])).2⟩) hx.2
  rw[agb];omega
theorem lM {l:List Int} (h:Asc l):l.length≤16:=by
 have:=Gy l 0 16 h.pw (fun x hx=>by have:=h.rng x hx;omega) (by omega)
 omega
theorem o8 {l:List Int} {i:Nat} {x:PV} (hx:(l.map (PV.int .i64))[i]? =some x):i<l.length∧x=.int .i64 (l.getD i 0):=by
 rw[ahe]at hx;cases h:l[i]? with
 |none=>rw[h]at hx;cases hx
 |some y=>
  rw[h]at hx;cases hx
  exact⟨(ahZ.1 h).1,by rw[agt,h];rfl⟩
theorem UD {l:List Int} (h:Asc l) (k:Nat):Asc (l.drop k):=⟨h.pw.sublist (List.drop_sublist k l),fun x hx=>h.rng x (List.mem_of_mem_drop hx)⟩
theorem drop_cons {l:List Int} {k:Nat} (hk:k<l.length):l.drop k=l.getD k 0::l.drop (k+1):=by
 rw[List.drop_eq_getElem_cons hk,agt,agy hk];rfl
noncomputable def adr:CPT:=aA 190 (aB vS) noC
theorem KV:aV Tryz.prog adr:=ak (au yI) aC
theorem jY (l:List Int) (h:Asc l):nK Tryz.prog 189 [] [.ip (.pv [.int .u32 (mk l:Nat)]) 0] 1 (l.map (PV.int .i64)):=by
 refine lq (md:=1) (rf:=[]) mixed aj Tryz.func189 (by rfl) (by rfl) (by rfl) fun G go b hY=>⟨_,KV,?_⟩
 obtain⟨L,hL⟩:∃L,L=l.map (PV.int .i64):=⟨_,rfl⟩;have hlen:L.length=l.length:=by simp[hL]
 have hget:∀i,i<l.length→L[i]? =some (.int .i64 (l.getD i 0)):=fun i hi=>by simp[hL,hi]
 rw[←hL]at hY⊢;have W:Walk Tryz.prog none kL tab.get adr (tJ b 1 G go L):=⟨aG,mixed,aj,KV,hY _ _⟩;have stop:∀i,i<l.length→GoTo go L i→go (L.take i++[.int .i64 (l.getD i 0)])=false→L.take i++[.int .i64 (l.getD i 0)]=iL go [] L:=fun i hi hg h=>by
  rw[dZ (hget i hi)]at h⊢;rw[vB (by omega) hg h]
 have cont:∀i,i<l.length→GoTo go L i→go (L.take i++[.int .i64 (l.getD i 0)])=true→GoTo go L (i+1):=fun i hi hg h=>hg.succ (by rw[←dZ (hget i hi)];exact h)
 have done:GoTo go L l.length→L.take l.length=iL go [] L:=fun hg=>by rw[yu (by omega) hg,←hlen];simp
 repeat'((conv=>whnf);first|intro _|apply aI|with_reducible exact vM rfl|exact⟨⟩|apply nM|apply fM)
 all_goals((try apply vM);(try simp only[vq]at*);try omega)
 conv=>whnf
 refine aJ (X:=Nat) (fun k=>k≤l.length∧GoTo go L k) (fun k=>[(3,.int .u32 (mk (l.drop k):Nat))]) (fun k=>[(0,.ext G (L.take k))]) (fun k=>l.length-k) 0 W (by rfl) ⟨by omega,.zero⟩ ?_ ?_
 ·repeat'((conv=>whnf);first|intro _|apply aI|with_reducible exact vM rfl|exact⟨⟩|apply nM|apply fM)
  all_goals((try apply vM);(try simp only[vq]at*);try omega)
  all_goals simp
 intro k hk;obtain⟨hk1,hk3⟩:=hk;by_cases hlt:k<l.length
 ·have hA:=UD h k
  have hr:=qj hA;have e:=drop_cons hlt;have hpos:0<mk (l.drop k):=by rw[e]at hA⊢;exact mk_pos hA
  have hlow:qg (mk (l.drop k))=l.getD k 0:=by rw[e]at hA⊢;exact KT hA
  have hrest:IntKind.u32.wrap ((agC IntKind.u32.bits (mk (l.drop k):Int)&&& agC IntKind.u32.bits ((mk (l.drop k):Int)-1)).toNat:Int)=(mk (l.drop (k+1)):Nat):=by rw[e]at hA⊢;exact ZN hA
  repeat'((conv=>whnf);first|(intro hq;(try simp only[vw]at hq);try first|exact absurd hq (by decide)|exfalso;omega)|apply aI|with_reducible exact vM rfl|exact⟨⟩|apply nM|apply fM)
  all_goals(try rw[hlow]at*)
  all_goals((try apply vM);(try simp only[vq]at*);try omega)
  ·exact QO (hget k hlt) hk3
  ·exact stop k hlt hk3 (by rename_i hq;simpa using hq)
  ·refine⟨k+1,[],⟨⟨by omega,cont k hlt hk3 (by rename_i hq;simpa using hq)⟩,by omega⟩,?_⟩
   repeat'((conv=>whnf);first|intro _|apply aI|with_reducible exact vM rfl|exact⟨⟩|apply nM|apply fM)
   all_goals((try apply vM);(try simp only[vq]at*);try omega)
   all_goals exact dZ (hget k hlt)
 ·have:l.length=k:=by omega
  subst this;have hz:mk (l.drop l.length)=0:=by rw[aiT];rfl
  rw[hz]
  repeat'((conv=>whnf);first|(intro hq;(try simp only[vw]at hq);try first|exact absurd hq (by decide)|exfalso;omega)|apply aI|with_reducible exact vM rfl|exact⟨⟩|apply nM|apply fM)
  all_goals((try apply vM);(try simp only[vq]at*);try omega)
  exact done hk3
def hsN (l:List Int):Nat→List (Nat × AO):=fun i=>[(0,.cells (.pv [.isl (.ints .i64 (l.take i)) (.own 5)]) false),(5,.tok 1 i)]
theorem N8 (l:List Int) (h:Asc l):aF Tryz.prog 188 [.nils,.fn (.func 189) [] [.ip (.pv [.int .u32 (mk l:Nat)]) 0]] (.isl (.ints .i64 l) .none):=by
 have h16:=lM h;refine av (md:=1) (rf:=[]) mixed aj aC Tryz.func188 (by rfl) (by rfl) (by rfl) ?_
 repeat'((conv=>whnf);first|intro _|apply aI|with_reducible exact vM rfl|exact⟨⟩|apply nM|apply fM)
 all_goals((try apply vM);(try simp only[vq]at*);try omega)
 conv=>whnf
 refine ji aG mixed aj aC (fun r=>aM) (fs:=[]) (cs:=[.ip (.pv [.int .u32 (mk l:Nat)]) 0]) (l.map (PV.int .i64)) (fun _=>true) (hsN l) (by rfl) (by rfl) (by rfl) (jY l h) (by rfl) (by rfl) (by rfl) (by rfl) ?_ ?_ ?_
 ·repeat'((conv=>whnf);first|intro _|apply aI|with_reducible exact vM rfl|exact⟨⟩|apply nM|apply fM)
  all_goals((try apply vM);(try simp only[vq]at*);try omega)
 ·intro hall
  rw[aif]
  repeat'((conv=>whnf);first|intro _|apply aI|with_reducible exact vM rfl|exact⟨⟩|apply nM|apply fM)
  all_goals((try apply vM);(try simp only[vq]at*);try omega)
  all_goals(try rw[ail])
  all_goals exact Sup.of rfl
 ·intro i x hx hall lp
  have hx':i<l.length∧x=.int .i64 (l.getD i 0):=by
   rw[ahe]at hx;cases h:l[i]? with
   |none=>rw[h]at hx;cases hx
   |some y=>
    rw[h]at hx;cases hx
    have:=(ahZ.1 h).1;exact⟨this,by rw[agt,h];rfl⟩
  obtain⟨hi,rfl⟩:=hx';have e1:(l.take i).length=i:=by rw[ag6];omega
  have e2:l.take i++[l.getD i 0]=l.take (i+1):=by
   rw[aij,agt,agy hi];rfl
  repeat'((conv=>whnf);first|intro _|apply aI|with_reducible exact vM rfl|exact⟨⟩|apply nM|apply fM)
  all_goals((try apply vM);(try simp only[vq]at*);try omega)
  all_goals(try(simp only[ahx,ag6,agb,af7];omega))
  refine⟨[],?_⟩
  repeat'((conv=>whnf);first|intro _|apply aI|with_reducible exact vM rfl|exact⟨⟩|apply nM|apply fM)
  all_goals((try apply vM);(try simp only[vq]at*);try omega)
  all_goals(try(rw[e2]))
def Gz:PSp:=fun xs K=>match xs with
 | [.nils,.fn (.func f) [] [.ip (.pv [.int .u32 m]) 0]]=>∃l,VC (f=189∧m=(mk l:Nat)∧Asc l)∧K (.isl (.ints .i64 l) .none)
 |_=>False
theorem UE:POK Tryz.prog 188 Gz:=by
 intro xs K hk;unfold Gz at hk;split at hk
 ·obtain⟨l,⟨rfl,rfl,h⟩,hk⟩:=hk
  exact⟨_,hk,N8 _ h⟩
 ·exact hk.elim
noncomputable def ae7:CPT:=aA 188 (Nu Gz) noC
theorem Z0:aV Tryz.prog ae7:=ak (TY UE) aC
theorem Rh (l:List Int) (h:Asc l):aF Tryz.prog 148 [.fn (.func 189) [] [.ip (.pv [.int .u32 (mk l:Nat)]) 0]] (.isl (.ints .i64 l) .none):=by
 refine av (md:=1) (rf:=[]) mixed aj Z0 Tryz.func148 (by rfl) (by rfl) (by rfl) ?_
 repeat'((conv=>whnf);first|intro _|apply aI|with_reducible exact vM rfl|exact⟨⟩|apply nM|apply fM)
 refine⟨l,VC.mk ⟨rfl,rfl,h⟩,?_⟩
 repeat'((conv=>whnf);first|intro _|apply aI|with_reducible exact vM rfl|exact⟨⟩|apply nM|apply fM)
 all_goals((try apply vM);(try simp only[vq]at*);try omega)
 all_goals exact Sup.of rfl
def Oa:PSp:=fun xs K=>match xs with
 | [.fn (.func f) [] [.ip (.pv [.int .u32 m]) 0]]=>∃l,VC (f=189∧m=(mk l:Nat)∧Asc l)∧K (.isl (.ints .i64 l) .none)
 |_=>False
theorem Z4:POK Tryz.prog 148 Oa:=by
 intro xs K hk;unfold Oa at hk;split at hk
 ·obtain⟨l,⟨rfl,rfl,h⟩,hk⟩:=hk
  exact⟨_,hk,Rh _ h⟩
 ·exact hk.elim
theorem Ea (m:Int):aF Tryz.prog 149 [.int .u32 m] (.fn (.func 189) [] [.ip (.pv [.int .u32 m]) 0]):=by
 refine av (md:=1) (rf:=[]) mixed aj aC Tryz.func149 (by rfl) (by rfl) (by rfl) ?_
 repeat'((conv=>whnf);first|intro _|apply aI|with_reducible exact vM rfl|exact⟨⟩|apply nM|apply fM)
 all_goals((try apply vM);(try simp only[vq]at*);try omega)
 all_goals exact Sup.of rfl
def Ag:PSp:=fun xs K=>match xs with
 | [.int .u32 m]=>VC (True)∧K (.fn (.func 189) [] [.ip (.pv [.int .u32 m]) 0])
 |_=>False
theorem BF:POK Tryz.prog 149 Ag:=by
 intro xs K h;unfold Ag at h;split at h
 ·exact⟨_,h.2,Ea _⟩
 ·exact h.elim
theorem Ri (l:List Int) (hl:l.length≤2000000) (b:Int):aF Tryz.prog 191 [.isl (.ints .u32 l) .none,.int .u32 b] (.int .i64 (firstAt (fun i=>decide (b=l.getD i 0)) l.length)):=by
 refine av (md:=1) (rf:=[]) mixed aj aC Tryz.func191 (by rfl) (by rfl) (by rfl) ?_
 repeat'((conv=>whnf);first|intro _|apply aI|with_reducible exact vM rfl|exact⟨⟩|apply nM|apply fM)
 all_goals((try apply vM);(try simp only[vq]at*);try omega)
 conv=>whnf
 refine aJ (X:=Nat) (fun i=>i≤l.length∧∀j,j<i→decide (b=l.getD j 0)=false) (fun i=>[(8,.int .i64 i)]) (fun i=>[]) (fun i=>l.length-i) 0 ⟨aG,mixed,aj,aC,aM⟩ (by rfl) ⟨by omega,fun j hj=>by omega⟩ ?_ ?_
 ·repeat'((conv=>whnf);first|intro _|apply aI|with_reducible exact vM rfl|exact⟨⟩|apply nM|apply fM)
  all_goals((try apply vM);(try simp only[vq]at*);try omega)
 ·rintro i ⟨hi,hok⟩
  by_cases hlt:i<l.length
  ·repeat'((conv=>whnf);first|intro _|apply aI|with_reducible exact vM rfl|exact⟨⟩|apply nM|apply fM)
   all_goals((try apply vM);(try simp only[vq]at*);try omega)
   ·rename_i hq
    rw[jX (p:=fun i=>decide (b=l.getD i 0)) hlt (decide_eq_true hq) (fun j hj=>decide_eq_false (hok j hj))];exact Sup.of rfl
   ·refine⟨i+1,[],⟨⟨by omega,fun j hj=>?_⟩,by omega⟩,?_⟩
    ·by_cases e:j=i
     ·subst e;first|assumption|(apply decide_eq_false;assumption)
     ·first|exact hok j (by omega)|exact decide_eq_false (hok j (by omega))
    ·repeat'((conv=>whnf);first|intro _|apply aI|with_reducible exact vM rfl|exact⟨⟩|apply nM|apply fM)
     all_goals((try apply vM);(try simp only[vq]at*);try omega)
  ·have:i=l.length:=by omega
   subst this;rw[jW hok]
   repeat'((conv=>whnf);first|intro _|apply aI|with_reducible exact vM rfl|exact⟨⟩|apply nM|apply fM)
   all_goals((try apply vM);(try simp only[vq]at*);try omega)
   exact Sup.of rfl
def Ob:PSp:=fun xs K=>match xs with
 | [.isl (.ints .u32 l) .none,.int .u32 b]=>VC (l.length≤2000000)∧K (.int .i64 (firstAt (fun i=>decide (b=l.getD i 0)) l.length))
 |_=>False
theorem Z5:POK Tryz.prog 191 Ob:=by
 intro xs K h;unfold Ob at h;split at h
 ·exact⟨_,h.2,Ri _ h.1.get _⟩
 ·exact h.elim
noncomputable def ae8:CPT:=aA 191 (aB Ob) noC
theorem Z6:aV Tryz.prog ae8:=ak (au Z5) aC
theorem Rj (l:List Int) (hl:l.length≤2000000) (b:Int):aF Tryz.prog 150 [.isl (.ints .u32 l) .none,.int .u32 b] (.bp (l.any fun y=>decide (b=y))):=by
 refine av (md:=1) (rf:=[]) mixed aj Z6 Tryz.func150 (by rfl) (by rfl) (by rfl) ?_
 repeat'((conv=>whnf);first|intro _|apply aI|with_reducible exact vM rfl|exact⟨⟩|apply nM|apply fM)
 all_goals((try apply vM);(try simp only[vq]at*);try omega)
 refine Sup.via ?_
 repeat'((conv=>whnf);first|intro _|apply aI|with_reducible exact vM rfl|exact⟨⟩|apply nM|apply fM)
 refine VC.mk ?_;rw[gy,nW (fun y=>decide (b=y))]
def Oc:PSp:=fun xs K=>match xs with
 | [.isl (.ints .u32 l) .none,.int .u32 b]=>VC (l.length≤2000000)∧K (.bp (l.any fun y=>decide (b=y)))
 |_=>False
theorem Z7:POK Tryz.prog 150 Oc:=by
 intro xs K h;unfold Oc at h;split at h
 ·exact⟨_,h.2,Rj _ h.1.get _⟩
 ·exact h.elim
def fI (cs l:List Int) (i:Nat):Int:=(l.take i).foldl (fun s c=>s+cs.getD c.toNat 0) 0
theorem Ah (cs l:List Int) (i:Nat) (h:i<l.length):fI cs l (i+1)=fI cs l i+cs.getD (l.getD i 0).toNat 0:=by
 unfold fI;rw[aij,aiF];simp[h]
theorem iW {ls:List (List Int)} {i:Nat} (h:i<ls.length):ls.getD i []∈ls:=by
 rw[agt,agy h];exact aiG _
theorem bK {l:List Int} {i:Nat} (h:i<l.length):l.getD i 0∈l:=by
 rw[agt,agy h];exact aiG _
theorem Od (h:Bool) (e:Int):aF Tryz.prog 195 [.bp h,.int .i64 e] (.int .i64 (if h then e else 0)):=by
 refine av (md:=0) (rf:=[]) mixed aj aC Tryz.func195 (by rfl) (by rfl) (by rfl) ?_
 repeat'((conv=>whnf);first|intro _|apply aI|with_reducible exact vM rfl|exact⟨⟩|apply nM|apply fM)
 all_goals all_goals(first|(refine Sup.of ?_;first|rfl|(simp[*,bG];done))|(refine Sup.via ?_;repeat'((conv=>whnf);first|intro _|apply aI|with_reducible exact vM rfl|exact⟨⟩|apply nM|apply fM);all_goals((try apply vM);(try simp only[vq]at*);try omega);all_goals(try(simp[CL.sub];done))))
theorem JQ (h:Bool) (e:Int):aF Tryz.prog 195 [.bool h,.int .i64 e] (.int .i64 (if h then e else 0)):=by
 cases h
 all_goals
  refine av (md:=0) (rf:=[]) mixed aj aC Tryz.func195 (by rfl) (by rfl) (by rfl) ?_
  repeat'((conv=>whnf);first|intro _|apply aI|with_reducible exact vM rfl|exact⟨⟩|apply nM|apply fM)
  all_goals all_goals(first|(refine Sup.of ?_;first|rfl|(simp[*,bG];done))|(refine Sup.via ?_;repeat'((conv=>whnf);first|intro _|apply aI|with_reducible exact vM rfl|exact⟨⟩|apply nM|apply fM);all_goals((try apply vM);(try simp only[vq]at*);try omega);all_goals(try(simp[CL.sub];done))))
theorem qo:POK Tryz.prog 195 gX:=by
 intro xs K h;unfold gX at h;split at h
 ·exact⟨_,h,Od _ _⟩
 ·exact⟨_,h,JQ _ _⟩
 ·exact h.elim
structure EM (f l:List Int):Prop where
 len:l.length≤1000000
 at':∀c∈l,0≤c∧c<f.length
 bd:∀i,i≤l.length→ -1000000000000≤fI f l i∧fI f l i≤1000000000000
theorem Rk (l f:List Int) (h:EM f l):aF Tryz.prog 232 [.isl (.ints .i64 l) .none,.isl (.ints .i64 f) .none] (.int .i64 (fI f l l.length)):=by
 obtain⟨hl,hm,hb⟩:=h;refine av (md:=1) (rf:=[]) mixed aj aC Tryz.func232 (by rfl) (by rfl) (by rfl) ?_
 repeat'((conv=>whnf);first|intro _|apply aI|with_reducible exact vM rfl|exact⟨⟩|apply nM|apply fM)
 all_goals((try apply vM);(try simp only[vq]at*);try omega)
 conv=>whnf
 refine aJ (X:=Nat) (fun i=>i≤l.length) (fun i=>[(5,.int .i64 (fI f l i)),(10,.int .i64 i)]) (fun _=>[]) (fun i=>l.length-i) 0 ⟨aG,mixed,aj,aC,aM⟩ (by rfl) (by omega) ?_ ?_
 ·repeat'((conv=>whnf);first|intro _|apply aI|with_reducible exact vM rfl|exact⟨⟩|apply nM|apply fM)
  all_goals((try apply vM);(try simp only[vq]at*);try omega)
  all_goals(try rfl)
 intro i hi;by_cases hlt:i<l.length
 ·have key:=hm (l.getD i 0) (by simp[hlt])
  have hs:=hb (i+1) hlt;have hs0:=hb i hi;have e:=Ah f l i hlt
  repeat'((conv=>whnf);first|intro _|apply aI|with_reducible exact vM rfl|exact⟨⟩|apply nM|apply fM)
  all_goals((try apply vM);(try simp only[vq]at*);try omega)
  refine⟨i+1,[],⟨by omega,by omega⟩,?_⟩
  repeat'((conv=>whnf);first|intro _|apply aI|with_reducible exact vM rfl|exact⟨⟩|apply nM|apply fM)
  all_goals((try apply vM);(try simp only[vq]at*);try omega)
  all_goals(try(rw[e]))
 ·have:i=l.length:=by omega
  subst this
  repeat'((conv=>whnf);first|intro _|apply aI|with_reducible exact vM rfl|exact⟨⟩|apply nM|apply fM)
  all_goals((try apply vM);(try simp only[vq]at*);try omega)
  all_goals(first|(refine Sup.of ?_;first|rfl|(simp[*,bG];done))|(refine Sup.via ?_;repeat'((conv=>whnf);first|intro _|apply aI|with_reducible exact vM rfl|exact⟨⟩|apply nM|apply fM);all_goals((try apply vM);(try simp only[vq]at*);try omega);all_goals(try(simp[CL.sub];done))))
def Oe:PSp:=fun xs K=>match xs with
 | [.isl (.ints .i64 l) .none,.isl (.ints .i64 f) .none]=>VC (EM f l)∧K (.int .i64 (fI f l l.length))
 |_=>False
theorem Z8:POK Tryz.prog 232 Oe:=by
 intro xs K h;unfold Oe at h;split at h
 ·exact⟨_,h.2,Rk _ _ h.1.get⟩
 ·exact h.elim
def gL (f:List Int) (ls:List (List Int)) (m:Nat):List Int:=(ls.take m).map fun l=>fI f l l.length
theorem Og (f:List Int) (ls:List (List Int)) (m:Nat) (h:m<ls.length):gL f ls (m+1)=gL f ls m++[fI f (ls.getD m []) (ls.getD m []).length]:=by
 unfold gL;rw[aij,aik,agt,agy h];rfl
theorem Dl (f:List Int) (ls:List (List Int)) (m:Nat) (h:m≤ls.length):(gL f ls m).length=m:=by simp[gL];omega
noncomputable def ae9:CPT:=aA 232 (aB Oe) noC
theorem KW:aV Tryz.prog ae9:=ak (au Z8) aC
theorem Rl (c:Int) (ls:List (List Int)) (f:List Int) (hl:ls.length≤1000000) (h:∀i,i<ls.length→EM f (ls.getD i [])):aF Tryz.prog 206 [.agg [.int .i64 c,.isl (.rows .i64 ls) .none],.isl (.ints .i64 f) .none] (.isl (.ints .i64 (gL f ls ls.length)) .none):=by
 refine av (md:=1) (rf:=[]) mixed aj KW Tryz.func206 (by rfl) (by rfl) (by rfl) ?_
 repeat'((conv=>whnf);first|intro _|apply aI|with_reducible exact vM rfl|exact⟨⟩|apply nM|apply fM)
 all_goals((try apply vM);(try simp only[vq]at*);try omega)
 conv=>whnf
 refine aJ (X:=Nat) (fun i=>i≤ls.length) (fun i=>[(11,.int .i64 i),(5,.isl (.ints .i64 (gL f ls i)) (.own 3)),(7,.any)]) (fun i=>[(3,.tok 1 i)]) (fun i=>ls.length-i) 0 ⟨aG,mixed,aj,KW,aM⟩ (by rfl) (by omega) ?_ ?_
 ·repeat'((conv=>whnf);first|intro _|apply aI|with_reducible exact vM rfl|exact⟨⟩|apply nM|apply fM)
  all_goals((try apply vM);(try simp only[vq]at*);try omega)
 intro i hi;by_cases hlt:i<ls.length
 ·have e0:=Dl f ls i hi
  have e1:=Og f ls i hlt;have e2:=h i hlt
  repeat'((conv=>whnf);first|intro _|apply aI|with_reducible exact vM rfl|exact⟨⟩|apply nM|apply fM)
  all_goals((try apply vM);(try simp only[vq]at*);try omega)
  all_goals(try exact e2)
  all_goals(try(simp only[ahx,agb,af7];omega))
  refine⟨i+1,[],⟨by omega,by omega⟩,?_⟩
  repeat'((conv=>whnf);first|intro _|apply aI|with_reducible exact vM rfl|exact⟨⟩|apply nM|apply fM)
  all_goals((try apply vM);(try simp only[vq]at*);try omega)
  all_goals(try(rw[e1]))
 ·have:ls.length=i:=by omega
  subst this
  repeat'((conv=>whnf);first|intro _|apply aI|with_reducible exact vM rfl|exact⟨⟩|apply nM|apply fM)
  all_goals((try apply vM);(try simp only[vq]at*);try omega)
  all_goals(refine Sup.via ?_;repeat'((conv=>whnf);first|intro _|apply aI|with_reducible exact vM rfl|exact⟨⟩|apply nM|apply fM);all_goals((try apply vM);(try simp only[vq]at*);try omega);all_goals(try(simp[CL.sub];done)))
structure rH (f:List Int) (ls:List (List Int)):Prop where
 len:1≤ls.length∧ls.length≤1000000
 all:∀i,i<ls.length→EM f (ls.getD i [])
def Oh:PSp:=fun xs K=>match xs with
 | [.agg [.int .i64 c,.isl (.rows .i64 ls) .none],.isl (.ints .i64 f) .none]=>VC (rH f ls)∧K (.isl (.ints .i64 (gL f ls ls.length)) .none)
 |_=>False
theorem Z9:POK Tryz.prog 206 Oh:=by
 intro xs K h;unfold Oh at h;split at h
 ·exact⟨_,h.2,Rl _ _ _ h.1.get.len.2 h.1.get.all⟩
 ·exact h.elim
def w9 (all:List Int) (x:Int):Bool:=decide (x≠all.getD 0 0)
theorem UF (all:List Int) (h:1≤all.length) (x:Int):aF Tryz.prog 208 ([]++[.int .i64 x]++[.ip (.pv [.isl (.ints .i64 all) .none]) 0]) (.bp (w9 all x)):=by
 unfold w9;refine av (md:=0) (rf:=[]) mixed aj aC Tryz.func208 (by rfl) (by rfl) (by rfl) ?_
 repeat'((conv=>whnf);first|intro _|apply aI|with_reducible exact vM rfl|exact⟨⟩|apply nM|apply fM)
 all_goals((try apply vM);(try simp only[vq]at*);try omega)
 all_goals(refine Sup.via ?_;repeat'((conv=>whnf);first|intro _|apply aI|with_reducible exact vM rfl|exact⟨⟩|apply nM|apply fM);all_goals((try apply vM);(try simp only[vq]at*);try omega))
 all_goals rfl
def kJ (all:List Int):Int:=firstAt (fun i=>w9 all (all.getD i 0)) all.length
noncomputable def afa:CPT:=aA 206 (aB Oh) (aA 207 (aB EL) noC)
theorem aac:aV Tryz.prog afa:=ak (au Z9) (ak (au KU) aC)
theorem GA (c:Int) (ls:List (List Int)) (f:List Int) (h:rH f ls):aF Tryz.prog 169 [.agg [.int .i64 c,.isl (.rows .i64 ls) .none],.isl (.ints .i64 f) .none] (.int .i64 (kJ (gL f ls ls.length))):=by
 have e:=Dl f ls ls.length (agh _);have h1:=h.len;refine av (md:=1) (rf:=[]) mixed aj aac Tryz.func169 (by rfl) (by rfl) (by rfl) ?_
 repeat'((conv=>whnf);first|intro _|apply aI|with_reducible exact vM rfl|exact⟨⟩|apply nM|apply fM)
 all_goals((try apply vM);(try simp only[vq]at*);try omega)
 all_goals(try exact h)
 refine⟨w9 (gL f ls ls.length),fun x _=>UF _ (by omega) x,?_⟩
 repeat'((conv=>whnf);first|intro _|apply aI|with_reducible exact vM rfl|exact⟨⟩|apply nM|apply fM)
 all_goals((try apply vM);(try simp only[vq]at*);try omega)
 all_goals(refine Sup.via ?_;repeat'((conv=>whnf);first|intro _|apply aI|with_reducible exact vM rfl|exact⟨⟩|apply nM|apply fM);all_goals((try apply vM);(try simp only[vq]at*);try omega);all_goals(try(simp[CL.sub];done)))
 rfl
def yJ:PSp:=fun xs K=>match xs with
 | [.agg [.int .i64 c,.isl (.rows .i64 ls) .none],.isl (.ints .i64 f) .none]=>VC (rH f ls)∧K (.int .i64 (kJ (gL f ls ls.length)))
 |_=>False
theorem Oi:POK Tryz.prog 169 yJ:=by
 intro xs K h;unfold yJ at h;split at h
 ·exact⟨_,h.2,GA _ _ _ h.1.get⟩
 ·exact h.elim
theorem JR (l:List Int) (hl:l.length<1000000):aF Tryz.prog 193 [.isl (.ints .i64 l) .none] (.int .i64 (aL l)):=by
 refine av (md:=1) (rf:=[]) mixed aj aC Tryz.func193 (by rfl) (by rfl) (by rfl) ?_
 repeat'((conv=>whnf);first|intro _|apply aI|with_reducible exact vM rfl|exact⟨⟩|apply nM|apply fM)
 all_goals((try apply vM);(try simp only[vq]at*);try omega)
 conv=>whnf
 refine aJ (X:=Nat) (fun i=>i≤l.length∧∀j,j<i→l.getD j 0=0) (fun i=>[(7,.int .i64 i)]) (fun _=>[]) (fun i=>l.length-i) 0 ⟨aG,mixed,aj,aC,aM⟩ (by rfl) ⟨by omega,fun j hj=>by omega⟩ ?_ ?_
 ·repeat'((conv=>whnf);first|intro _|apply aI|with_reducible exact vM rfl|exact⟨⟩|apply nM|apply fM)
  all_goals((try apply vM);(try simp only[vq]at*);try omega)
 ·intro i hi
  obtain⟨hi,hz⟩:=hi
  repeat'((conv=>whnf);first|intro _|apply aI|with_reducible exact vM rfl|exact⟨⟩|apply nM|apply fM)
  all_goals((try apply vM);(try simp only[vq]at*);try omega)
  ·rename_i hne
   have:=kI l i (by omega) hz (by simpa using hne)
   rw[this];exact Sup.of rfl
  ·rename_i hne
   have hne:l.getD i 0=0:=by simpa using hne
   refine⟨i+1,[],⟨⟨by omega,fun j hj=>?_⟩,by omega⟩,?_⟩
   ·by_cases e:j=i
    ·subst e;exact hne
    ·exact hz j (by omega)
   ·repeat'((conv=>whnf);first|intro _|apply aI|with_reducible exact vM rfl|exact⟨⟩|apply nM|apply fM)
    all_goals((try apply vM);(try simp only[vq]at*);try omega)
  ·have:i=l.length:=by omega
   subst this;rw[vQ l hz];exact Sup.of rfl
def o9:PSp:=fun xs K=>match xs with
 | [.isl (.ints .i64 l) .none]=>VC (l.length<1000000)∧K (.int .i64 (aL l))
 |_=>False
theorem qN:POK Tryz.prog 193 o9:=by
 intro xs K h;unfold o9 at h;split at h
 ·exact⟨_,h.2,JR _ h.1.get⟩
 ·exact h.elim
def qY (lo hi x:Int):Bool:=decide (x<lo)||decide (hi<x)
theorem UG (lo hi x:Int):aF Tryz.prog 221 ([]++[.int .i64 x]++[.ip (.pv [.int .i64 lo]) 0,.ip (.pv [.int .i64 hi]) 0]) (.bp (qY lo hi x)):=by
 refine av (md:=1) (rf:=[]) mixed aj aC Tryz.func221 (by rfl) (by rfl) (by rfl) ?_
 unfold qY
 repeat'((conv=>whnf);first|intro _|apply aI|with_reducible exact vM rfl|exact⟨⟩|apply nM|apply fM)
 ·rename_i hq
  rw[show(decide (x<lo))=false from hq,aiU];exact Sup.of rfl
 ·rename_i hq
  rw[show(decide (x<lo))=true from hq,aiV];all_goals(refine Sup.via ?_;repeat'((conv=>whnf);first|intro _|apply aI|with_reducible exact vM rfl|exact⟨⟩|apply nM|apply fM);all_goals((try apply vM);(try simp only[vq]at*);try omega);all_goals(try(simp[CL.sub];done)))
noncomputable def afb:CPT:=aA 215 (zW NY) (aA 195 (aB gX) noC)
theorem aad:aV Tryz.prog afb:=ak (Dc ZW) (ak (au qo) aC)
theorem Rm (lo hi:Int) (l:List Int) (hl:l.length≤2000000):aF Tryz.prog 194 [.int .i64 lo,.int .i64 hi,.isl (.ints .i64 l) .none] (.int .i64 (if l.any (qY lo hi)then 3 else 0)):=by
 refine av (md:=1) (rf:=[]) mixed aj aad Tryz.func194 (by rfl) (by rfl) (by rfl) ?_
 repeat'((conv=>whnf);first|intro _|apply aI|with_reducible exact vM rfl|exact⟨⟩|apply nM|apply fM)
 all_goals((try apply vM);(try simp only[vq]at*);try omega)
 ·exact⟨hl,rfl,rfl⟩
 refine⟨qY lo hi,fun x _=>UG lo hi x,?_⟩
 repeat'((conv=>whnf);first|intro _|apply aI|with_reducible exact vM rfl|exact⟨⟩|apply nM|apply fM)
 all_goals((try apply vM);(try simp only[vq]at*);try omega)
 all_goals(first|(refine Sup.of ?_;first|rfl|(simp[*,bG];done))|(refine Sup.via ?_;repeat'((conv=>whnf);first|intro _|apply aI|with_reducible exact vM rfl|exact⟨⟩|apply nM|apply fM);all_goals((try apply vM);(try simp only[vq]at*);try omega);all_goals(try(simp[CL.sub];done))))
def EN:PSp:=fun xs K=>match xs with
 | [.int .i64 lo,.int .i64 hi,.isl (.ints .i64 l) .none]=>VC (l.length≤2000000)∧K (.int .i64 (if l.any (qY lo hi)then 3 else 0))
 |_=>False
theorem KY:POK Tryz.prog 194 EN:=by
 intro xs K h;unfold EN at h;split at h
 ·exact⟨_,h.2,Rm _ _ _ h.1.get⟩
 ·exact h.elim
noncomputable def afc:CPT:=aA 194 (aB EN) noC
theorem aae:aV Tryz.prog afc:=ak (au KY) aC
def oO (l:List Int):Int:=if l.any (qY (-999999999) 999999999)then 3 else 0
theorem GD (l:List Int) (hl:l.length≤2000000):aF Tryz.prog 203 [.isl (.ints .i64 l) .none] (.int .i64 (oO l)):=by
 refine av (md:=1) (rf:=[]) mixed aj aae Tryz.func203 (by rfl) (by rfl) (by rfl) ?_
 unfold oO
 repeat'((conv=>whnf);first|intro _|apply aI|with_reducible exact vM rfl|exact⟨⟩|apply nM|apply fM)
 all_goals((try apply vM);(try simp only[vq]at*);try omega)
 all_goals(first|(refine Sup.of ?_;first|rfl|(simp[*,bG];done))|(refine Sup.via ?_;repeat'((conv=>whnf);first|intro _|apply aI|with_reducible exact vM rfl|exact⟨⟩|apply nM|apply fM);all_goals((try apply vM);(try simp only[vq]at*);try omega);all_goals(try(simp[CL.sub];done))))
def tY:PSp:=fun xs K=>match xs with
 | [.isl (.ints .i64 l) .none]=>VC (l.length≤2000000)∧K (.int .i64 (oO l))
 |_=>False
theorem Ai:POK Tryz.prog 203 tY:=by
 intro xs K h;unfold tY at h;split at h
 ·exact⟨_,h.2,GD _ h.1.get⟩
 ·exact h.elim
theorem Aj {a b:List Int} (hl:a.length=b.length) (h:∀j,j<a.length→a.getD j 0=b.getD j 0):a=b:=by
 refine List.ext_getElem hl fun j h1 h2=>?_;have:=h j h1;rw[agt,agt,agy h1,agy h2]at this;exact this
theorem uG (a b:List Int) (ha:a.length≤2000000):aF Tryz.prog 36 [.isl (.ints .i64 a) .none,.isl (.ints .i64 b) .none] (.bp (decide (a=b))):=by
 refine av (md:=1) (rf:=[]) mixed aj aC Tryz.func36 (by rfl) (by rfl) (by rfl) ?_
 repeat'((conv=>whnf);first|intro _|apply aI|with_reducible exact vM rfl|exact⟨⟩|apply nM|apply fM)
 all_goals((try apply vM);(try simp only[vq]at*);try omega)
 ·rw[show decide (a=b)=false from by simp;rintro rfl;simp at*];all_goals(refine Sup.via ?_;repeat'((conv=>whnf);first|intro _|apply aI|with_reducible exact vM rfl|exact⟨⟩|apply nM|apply fM);all_goals((try apply vM);(try simp only[vq]at*);try omega);all_goals(try(simp[CL.sub];done)))
 have hl:a.length=b.length:=by omega
 conv=>whnf
 refine aJ (X:=Nat) (fun i=>i≤a.length∧∀j,j<i→a.getD j 0=b.getD j 0) (fun i=>[(5,.int .i64 i)]) (fun i=>[]) (fun i=>a.length-i) 0 ⟨aG,mixed,aj,aC,aM⟩ (by rfl) ⟨by omega,fun j h=>by omega⟩ ?_ ?_
 ·repeat'((conv=>whnf);first|intro _|apply aI|with_reducible exact vM rfl|exact⟨⟩|apply nM|apply fM)
  all_goals((try apply vM);(try simp only[vq]at*);try omega)
 ·rintro i ⟨hi,hok⟩
  by_cases hlt:i<a.length
  ·repeat'((conv=>whnf);first|intro _|apply aI|with_reducible exact vM rfl|exact⟨⟩|apply nM|apply fM)
   all_goals((try apply vM);(try simp only[vq]at*);try omega)
   ·rw[show decide (a=b)=false from by simp;rintro rfl;simp_all];all_goals(refine Sup.via ?_;repeat'((conv=>whnf);first|intro _|apply aI|with_reducible exact vM rfl|exact⟨⟩|apply nM|apply fM);all_goals((try apply vM);(try simp only[vq]at*);try omega);all_goals(try(simp[CL.sub];done)))
   ·refine⟨i+1,[],⟨⟨by omega,fun j hj=>?_⟩,by omega⟩,?_⟩
    ·by_cases e:j=i
     ·subst e;omega
     ·exact hok j (by omega)
    ·repeat'((conv=>whnf);first|intro _|apply aI|with_reducible exact vM rfl|exact⟨⟩|apply nM|apply fM)
     all_goals((try apply vM);(try simp only[vq]at*);try omega)
  ·have:i=a.length:=by omega
   subst this;rw[show decide (a=b)=true from by simp;exact Aj hl hok]
   repeat'((conv=>whnf);first|intro _|apply aI|with_reducible exact vM rfl|exact⟨⟩|apply nM|apply fM)
   all_goals((try apply vM);(try simp only[vq]at*);try omega)
   all_goals(refine Sup.via ?_;repeat'((conv=>whnf);first|intro _|apply aI|with_reducible exact vM rfl|exact⟨⟩|apply nM|apply fM);all_goals((try apply vM);(try simp only[vq]at*);try omega);all_goals(try(simp[CL.sub];done)))
def nX:PSp:=fun xs K=>match xs with
 | [.isl (.ints .i64 a) .none,.isl (.ints .i64 b) .none]=>VC (a.length≤2000000)∧K (.bp (decide (a=b)))
 |_=>False
theorem qZ:POK Tryz.prog 36 nX:=by
 intro xs K h;unfold nX at h;split at h
 ·exact⟨_,h.2,uG _ _ h.1.get⟩
 ·exact h.elim
theorem Oj (a b:List Int) (ha:a.length≤2000000):aF Tryz.prog 223 [.isl (.ints .i64 a) .none,.isl (.ints .i64 b) .none] (.bp (decide (a=b))):=by
 refine av (md:=1) (rf:=[]) mixed aj aC Tryz.func223 (by rfl) (by rfl) (by rfl) ?_
 repeat'((conv=>whnf);first|intro _|apply aI|with_reducible exact vM rfl|exact⟨⟩|apply nM|apply fM)
 all_goals((try apply vM);(try simp only[vq]at*);try omega)
 ·rw[show decide (a=b)=false from by simp;rintro rfl;simp at*];all_goals(refine Sup.via ?_;repeat'((conv=>whnf);first|intro _|apply aI|with_reducible exact vM rfl|exact⟨⟩|apply nM|apply fM);all_goals((try apply vM);(try simp only[vq]at*);try omega);all_goals(try(simp[CL.sub];done)))
 have hl:a.length=b.length:=by omega
 conv=>whnf
 refine aJ (X:=Nat) (fun i=>i≤a.length∧∀j,j<i→a.getD j 0=b.getD j 0) (fun i=>[(13,.int .i64 i)]) (fun i=>[]) (fun i=>a.length-i) 0 ⟨aG,mixed,aj,aC,aM⟩ (by rfl) ⟨by omega,fun j h=>by omega⟩ ?_ ?_
 ·repeat'((conv=>whnf);first|intro _|apply aI|with_reducible exact vM rfl|exact⟨⟩|apply nM|apply fM)
  all_goals((try apply vM);(try simp only[vq]at*);try omega)
 ·rintro i ⟨hi,hok⟩
  by_cases hlt:i<a.length
  ·repeat'((conv=>whnf);first|intro _|apply aI|with_reducible exact vM rfl|exact⟨⟩|apply nM|apply fM)
   all_goals((try apply vM);(try simp only[vq]at*);try omega)
   ·rw[show decide (a=b)=false from by simp;rintro rfl;simp_all];all_goals(refine Sup.via ?_;repeat'((conv=>whnf);first|intro _|apply aI|with_reducible exact vM rfl|exact⟨⟩|apply nM|apply fM);all_goals((try apply vM);(try simp only[vq]at*);try omega);all_goals(try(simp[CL.sub];done)))
   ·refine⟨i+1,[],⟨⟨by omega,fun j hj=>?_⟩,by omega⟩,?_⟩
    ·by_cases e:j=i
     ·subst e;omega
     ·exact hok j (by omega)
    ·repeat'((conv=>whnf);first|intro _|apply aI|with_reducible exact vM rfl|exact⟨⟩|apply nM|apply fM)
     all_goals((try apply vM);(try simp only[vq]at*);try omega)
  ·have:i=a.length:=by omega
   subst this;rw[show decide (a=b)=true from by simp;exact Aj hl hok]
   repeat'((conv=>whnf);first|intro _|apply aI|with_reducible exact vM rfl|exact⟨⟩|apply nM|apply fM)
   all_goals((try apply vM);(try simp only[vq]at*);try omega)
   all_goals(refine Sup.via ?_;repeat'((conv=>whnf);first|intro _|apply aI|with_reducible exact vM rfl|exact⟨⟩|apply nM|apply fM);all_goals((try apply vM);(try simp only[vq]at*);try omega);all_goals(try(simp[CL.sub];done)))
def GH:PSp:=fun xs K=>match xs with
 | [.isl (.ints .i64 a) .none,.isl (.ints .i64 b) .none]=>VC (a.length≤2000000)∧K (.bp (decide (a=b)))
 |_=>False
theorem UH:POK Tryz.prog 223 GH:=by
 intro xs K h;unfold GH at h;split at h
 ·exact⟨_,h.2,Oj _ _ h.1.get⟩
 ·exact h.elim
noncomputable def afd:CPT:=aA 36 (aB nX) noC
theorem KZ:aV Tryz.prog afd:=ak (au qZ) aC
theorem GI (ls:List (List Int)) (l:List Int) (hl:ls.length≤1000000∧∀x∈ls,x.length≤5000):aF Tryz.prog 165 [.isl (.rows .i64 ls) .none,.isl (.ints .i64 l) .none] (.bp (ls.any fun x=>decide (x=l))):=by
 refine av (md:=1) (rf:=[]) mixed aj KZ Tryz.func165 (by rfl) (by rfl) (by rfl) ?_
 repeat'((conv=>whnf);first|intro _|apply aI|with_reducible exact vM rfl|exact⟨⟩|apply nM|apply fM)
 all_goals((try apply vM);(try simp only[vq]at*);try omega)
 conv=>whnf
 refine aJ (X:=Nat) (fun i=>i≤ls.length∧∀j,j<i→ls.getD j []≠l) (fun i=>[(5,.int .i64 i)]) (fun i=>[]) (fun i=>ls.length-i) 0 ⟨aG,mixed,aj,KZ,aM⟩ (by rfl) ⟨by omega,fun j h=>by omega⟩ ?_ ?_
 ·repeat'((conv=>whnf);first|intro _|apply aI|with_reducible exact vM rfl|exact⟨⟩|apply nM|apply fM)
  all_goals((try apply vM);(try simp only[vq]at*);try omega)
 ·rintro i ⟨hi,hok⟩
  by_cases hlt:i<ls.length
  ·have hm:=hl.2 _ (iW hlt)
   repeat'((conv=>whnf);first|intro _|apply aI|with_reducible exact vM rfl|exact⟨⟩|apply nM|apply fM)
   all_goals((try apply vM);(try simp only[vq]at*);try omega)
   ·rename_i hq
    rw[show(ls.any fun x=>decide (x=l))=true from aiR.2 ⟨_,iW hlt,decide_eq_true hq⟩];all_goals(refine Sup.via ?_;repeat'((conv=>whnf);first|intro _|apply aI|with_reducible exact vM rfl|exact⟨⟩|apply nM|apply fM);all_goals((try apply vM);(try simp only[vq]at*);try omega);all_goals(try(simp[CL.sub];done)))
   ·refine⟨i+1,[],⟨⟨by omega,fun j hj=>?_⟩,by omega⟩,?_⟩
    ·by_cases e:j=i
     ·subst e;assumption
     ·exact hok j (by omega)
    ·repeat'((conv=>whnf);first|intro _|apply aI|with_reducible exact vM rfl|exact⟨⟩|apply nM|apply fM)
     all_goals((try apply vM);(try simp only[vq]at*);try omega)
  ·have:i=ls.length:=by omega
   subst this;rw[show(ls.any fun x=>decide (x=l))=false from aiS.2 fun x hx=>by
    obtain⟨j,hj,rfl⟩:=agx hx;have:=hok j hj;rw[agt,agy hj]at this;simpa using this]
   repeat'((conv=>whnf);first|intro _|apply aI|with_reducible exact vM rfl|exact⟨⟩|apply nM|apply fM)
   all_goals((try apply vM);(try simp only[vq]at*);try omega)
   all_goals(refine Sup.via ?_;repeat'((conv=>whnf);first|intro _|apply aI|with_reducible exact vM rfl|exact⟨⟩|apply nM|apply fM);all_goals((try apply vM);(try simp only[vq]at*);try omega);all_goals(try(simp[CL.sub];done)))
def yK:PSp:=fun xs K=>match xs with
 | [.isl (.rows .i64 ls) .none,.isl (.ints .i64 l) .none]=>VC (ls.length≤1000000∧∀x∈ls,x.length≤5000)∧K (.bp (ls.any fun x=>decide (x=l)))
 |_=>False
theorem Ol:POK Tryz.prog 165 yK:=by
 intro xs K h;unfold yK at h;split at h
 ·exact⟨_,h.2,GI _ _ h.1.get⟩
 ·exact h.elim
def dD (f:Nat→Int) (n:Nat):Int:=match(agr n).find? (fun i=>decide (f i≠0))with
 |some i=>f i
 |none=>0
theorem fU {f:Nat→Int} {n:Nat} (h:∀i,i<n→f i=0):dD f n=0:=by
 unfold dD;rw[vU (fun i hi=>by simpa using h i hi)]
theorem fB {f:Nat→Int} {n y:Nat} (hy:y<n) (hp:f y≠0) (h:∀i,i<y→f i=0):dD f n=f y:=by
 unfold dD;rw[Dk hy (by simpa using hp) (fun i hi=>by simpa using h i hi)]
theorem iy {f:Nat→Int} {n:Nat} (h:dD f n=0):∀i,i<n→f i=0:=by
 intro i hi;unfold dD at h;cases hf:(agr n).find? (fun i=>decide (f i≠0))with
 |some j=>
  rw[hf]at h;have:=aiQ hf;simp only[decide_eq_true_eq]at this;exact absurd h this
 |none=>
  rw[aiO]at hf;simpa using hf i (by simpa using hi)
def bZ (c:Int) (l:List Int) (k:Nat):Int:=if l.getD k 0<0∨c≤l.getD k 0 then 10 else if 0<k∧l.getD k 0≤l.getD (k-1) 0 then 11 else 0
def jk (c:Int) (ls:List (List Int)) (i:Nat):Int:=
 if(ls.getD i []).length=0 then 12 else if dD (bZ c (ls.getD i [])) (ls.getD i []).length≠0 then dD (bZ c (ls.getD i [])) (ls.getD i []).length
 else if(ls.take i).any (fun x=>decide (x=ls.getD i []))then 9 else 0
def jl (c:Int) (ls:List (List Int)):Int:=if c<1∨256<c then 3 else if 128<ls.length then 5 else dD (jk c ls) ls.length
structure bH (ls:List (List Int)):Prop where
 len:ls.length≤1000000
 all:∀x∈ls,x.length≤5000
theorem bH.at' {ls:List (List Int)} (h:bH ls) (i:Nat):(ls.getD i []).length≤5000:=by
 by_cases hi:i<ls.length
 ·exact h.all _ (iW hi)
 ·rw[agt,aia (by omega)];simp
theorem Dm {ls:List (List Int)} (h:bH ls) (i:Nat):(ls.take i).length≤1000000∧∀x∈ls.take i,x.length≤5000:=
 ⟨by have:=h.len;rw[ag6];omega,fun x hx=>h.all x (ah6 hx)⟩
noncomputable def afe:CPT:=aA 165 (aB yK) noC
theorem rJ:aV Tryz.prog afe:=ak (au Ol) aC
theorem Ro (c:Int) (ls:List (List Int)) (h:bH ls):aF Tryz.prog 120 [.agg [.int .i64 c,.isl (.rows .i64 ls) .none]] (.int .i64 (jl c ls)):=by
 have h2:=h.len;unfold jl;by_cases hc:c<1∨256<c
 ·rw[if_pos hc]
  refine av (md:=1) (rf:=[]) mixed aj rJ Tryz.func120 (by rfl) (by rfl) (by rfl) ?_
  repeat'((conv=>whnf);first|(intro hq;(try simp only[vw]at hq);try first|exact absurd hq (by decide)|exfalso;omega)|apply aI|with_reducible exact vM rfl|exact⟨⟩|apply nM|apply fM)
  all_goals((try apply vM);(try simp only[vq]at*);try omega)
  all_goals first|exact Sup.of rfl|(exfalso;omega)
 rw[if_neg hc];by_cases hl:128<ls.length
 ·rw[if_pos hl]
  refine av (md:=1) (rf:=[]) mixed aj rJ Tryz.func120 (by rfl) (by rfl) (by rfl) ?_
  repeat'((conv=>whnf);first|(intro hq;(try simp only[vw]at hq);try first|exact absurd hq (by decide)|exfalso;omega)|apply aI|with_reducible exact vM rfl|exact⟨⟩|apply nM|apply fM)
  all_goals((try apply vM);(try simp only[vq]at*);try omega)
  all_goals first|exact Sup.of rfl|(exfalso;omega)
 rw[if_neg hl];refine av (md:=1) (rf:=[]) mixed aj rJ Tryz.func120 (by rfl) (by rfl) (by rfl) ?_
 repeat'((conv=>whnf);first|(intro hq;(try simp only[vw]at hq);try first|exact absurd hq (by decide)|exfalso;omega)|apply aI|with_reducible exact vM rfl|exact⟨⟩|apply nM|apply fM)
 all_goals((try apply vM);(try simp only[vq]at*);try omega)
 conv=>whnf
 refine aJ (X:=Nat) (fun i=>i≤ls.length∧∀j,j<i→jk c ls j=0) (fun i=>[(3,.int .i64 i)]) (fun i=>[]) (fun i=>ls.length-i) 0 ⟨aG,mixed,aj,rJ,aM⟩ (by rfl) ⟨by omega,fun j hj=>by omega⟩ ?_ ?_
 ·repeat'((conv=>whnf);first|intro _|apply aI|with_reducible exact vM rfl|exact⟨⟩|apply nM|apply fM)
  all_goals((try apply vM);(try simp only[vq]at*);try omega)
 intro i ⟨hi,hok⟩;by_cases hlt:i<ls.length
 ·have e1:=h.at' i
  have e4:=Dm h i;obtain⟨l,hL⟩:∃l,ls.getD i []=l:=⟨_,rfl⟩;have eE:jk c ls i=if l.length=0 then 12 else if dD (bZ c l) l.length≠0 then dD (bZ c l) l.length else if(ls.take i).any (fun x=>decide (x=l))then 9 else 0:=by unfold jk;rw[hL]
  rw[hL]at e1
  repeat'((conv=>whnf);first|(intro hq;(try simp only[vw]at hq);try first|exact absurd hq (by decide)|exfalso;omega)|apply aI|with_reducible exact vM rfl|exact⟨⟩|apply nM|apply fM)
  all_goals((try apply vM);(try simp only[vq]at*);try omega)
  ·rename_i hq
   rw[hL]at hq;rw[if_pos (by omega)]at eE
   rw[fB hlt (by rw[eE];decide) hok,eE]
   exact Sup.of rfl
  rename_i hq;rw[hL]at hq⊢;rw[if_neg (by omega)]at eE
  conv=>whnf
  refine aJ (X:=Nat) (fun k=>k≤l.length∧∀j,j<k→bZ c l j=0) (fun k=>[(5,.int .i64 k)]) (fun k=>[]) (fun k=>l.length-k) 0 ⟨aG,mixed,aj,rJ,aM⟩ (by rfl) ⟨by omega,fun j hj=>by omega⟩ ?_ ?_
  ·repeat'((conv=>whnf);first|intro _|apply aI|with_reducible exact vM rfl|exact⟨⟩|apply nM|apply fM)
   all_goals((try apply vM);(try simp only[vq]at*);try omega)
   all_goals first|exact hL|exact hL.symm|skip
  intro k ⟨hk,hok2⟩;by_cases hkl:k<l.length
  ·have eS:bZ c l k=if l.getD k 0<0∨c≤l.getD k 0 then 10 else if 0<k∧l.getD k 0≤l.getD (k-1) 0 then 11 else 0:=rfl
   have ek:((k:Int)-1).toNat=k-1:=by omega
   have fin:∀e,bZ c l k=e→e≠0→dD (jk c ls) ls.length=e:=fun e a1 a2=>by
    have a3:dD (bZ c l) l.length=e:=(fB hkl (by rw[a1];exact a2) hok2).trans a1
    have a4:jk c ls i=e:=by rw[eE,if_pos (by rw[a3];exact a2),a3]
    exact(fB hlt (by rw[a4];exact a2) hok).trans a4
   have nxt:bZ c l k=0→∀j,j<k+1→bZ c l j=0:=fun a j hj=>by
    by_cases e:j=k
    ·subst e;exact a
    ·exact hok2 j (by omega)
   repeat'((conv=>whnf);first|(intro hq;(try simp only[vw]at hq);try first|exact absurd hq (by decide)|exfalso;omega)|apply aI|with_reducible exact vM rfl|exact⟨⟩|apply nM|apply fM)
   all_goals((try apply vM);(try simp only[vq]at*);try omega)
   ·rw[fin 10 (by rw[eS,if_pos (by omega)]) (by decide)];exact Sup.of rfl
   ·rename_i hq
    rw[ek]at hq;rw[fin 11 (by rw[eS,if_neg (by omega),if_pos (by omega)]) (by decide)];exact Sup.of rfl
   ·rename_i hq
    rw[ek]at hq;refine⟨k+1,[],⟨⟨by omega,nxt (by rw[eS,if_neg (by omega),if_neg (by omega)])⟩,by omega⟩,?_⟩
    repeat'((conv=>whnf);first|(intro hq;(try simp only[vw]at hq);try first|exact absurd hq (by decide)|exfalso;omega)|apply aI|with_reducible exact vM rfl|exact⟨⟩|apply nM|apply fM)
   ·refine⟨k+1,[],⟨⟨by omega,nxt (by rw[eS,if_neg (by omega),if_neg (by omega)])⟩,by omega⟩,?_⟩
    repeat'((conv=>whnf);first|(intro hq;(try simp only[vw]at hq);try first|exact absurd hq (by decide)|exfalso;omega)|apply aI|with_reducible exact vM rfl|exact⟨⟩|apply nM|apply fM)
   ·rw[fin 10 (by rw[eS,if_pos (by omega)]) (by decide)];exact Sup.of rfl
  ·have a3:dD (bZ c l) l.length=0:=fU (n:=l.length) (by rw[show l.length=k by omega];exact hok2)
   rw[if_neg (by rw[a3];simp)]at eE
   have et:aiW (i-0) (aiX 0 ls)=ls.take i:=by rw[aiY,aiZ]
   repeat'((conv=>whnf);first|(intro hq;(try simp only[vw]at hq);try first|exact absurd hq (by decide)|exfalso;omega)|apply aI|with_reducible exact vM rfl|exact⟨⟩|apply nM|apply fM)
   all_goals((try apply vM);(try simp only[vq]at*);try omega)
   ·rw[et];exact e4
   ·rename_i hq
    rw[et]at hq;rw[if_pos hq]at eE;rw[fB hlt (by rw[eE];decide) hok,eE]
    exact Sup.of rfl
   ·rename_i hq
    rw[et]at hq;rw[if_neg (by rw[hq];decide)]at eE
    refine⟨i+1,[],⟨⟨by omega,fun j hj=>?_⟩,by omega⟩,?_⟩
    ·by_cases e:j=i
     ·subst e;exact eE
     ·exact hok j (by omega)
    repeat'((conv=>whnf);first|(intro hq;(try simp only[vw]at hq);try first|exact absurd hq (by decide)|exfalso;omega)|apply aI|with_reducible exact vM rfl|exact⟨⟩|apply nM|apply fM)
 ·rw[fU (n:=ls.length) (by rw[show ls.length=i by omega];exact hok)]
  repeat'((conv=>whnf);first|(intro hq;(try simp only[vw]at hq);try first|exact absurd hq (by decide)|exfalso;omega)|apply aI|with_reducible exact vM rfl|exact⟨⟩|apply nM|apply fM)
  exact Sup.of rfl
def EO:PSp:=fun xs K=>match xs with
 | [.agg [.int .i64 c,.isl (.rows .i64 ls) .none]]=>VC (bH ls)∧K (.int .i64 (jl c ls))
 |_=>False
theorem K4:POK Tryz.prog 120 EO:=by
 intro xs K h;unfold EO at h;split at h
 ·exact⟨_,h.2,Ro _ _ h.1.get⟩
 ·exact h.elim
def Om:PSp:=fun xs K=>match xs with
 | [.isl (.rows .i64 l) .none,.fn (.func f) fs cs]=>VC (l.length≤2000000)∧∃p:List Int→Bool,(∀x∈l,aF Tryz.prog f (fs++[.isl (.ints .i64 x) .none]++cs) (.bp (p x)))∧K (.int .i64 (firstAt (fun i=>p (l.getD i [])) l.length))
 |_=>False
theorem Rp (l:List (List Int)) (hl:l.length≤2000000) (f:Nat) (fs cs:List PV) (p:List Int→Bool) (hp:∀x∈l,aF Tryz.prog f (fs++[.isl (.ints .i64 x) .none]++cs) (.bp (p x))):
 aF Tryz.prog 185 [.isl (.rows .i64 l) .none,.fn (.func f) fs cs] (.int .i64 (firstAt (fun i=>p (l.getD i [])) l.length)):=by
 refine zU 1 (enters' Tryz.func185 (by rfl) (by rfl)) rfl (by simp) fun S0 w0 us vs hu hv=>?_
 have hY:∀r,kM Tryz.prog r (wT S0 w0) (fnY f us vs fun xs K=>match xs with
  | [.isl (.ints .i64 x) .none]=>VC (x∈l)∧K (.bp (p x))
  |_=>False):=fun r=>Qz (fs:=fs) (cs:=cs) (fun S w hb=>⟨hu.mono hb.1 (.refl _),hv.mono hb.1 (.refl _)⟩) fun xs K hk=>by
  split at hk
  ·exact⟨_,hk.2,hp _ hk.1.get⟩
  ·exact hk.elim
 have W:Walk Tryz.prog none (wT S0 w0) tab.get noC _:=⟨tF,mixed,aj,aC.up _,hY none⟩;refine vk tF mixed aj (md:=1) (rf:=[]) (aC.up _) (hY none) Tryz.func185 (by rfl) (by rfl) ?_
 repeat'((conv=>whnf);first|intro _|apply aI|with_reducible exact vM rfl|exact⟨⟩|apply nM|apply fM)
 all_goals((try apply vM);(try simp only[vq]at*);try omega)
 conv=>whnf
 refine aJ (X:=Nat) (fun i=>i≤l.length∧∀j,j<i→p (l.getD j [])=false) (fun i=>[(8,.int .i64 i)]) (fun i=>[]) (fun i=>l.length-i) 0 W (by rfl) ⟨by omega,fun j hj=>by omega⟩ ?_ ?_
 ·repeat'((conv=>whnf);first|intro _|apply aI|with_reducible exact vM rfl|exact⟨⟩|apply nM|apply fM)
  all_goals((try apply vM);(try simp only[vq]at*);try omega)
 ·rintro i ⟨hi,hok⟩
  by_cases hlt:i<l.length
  ·have hm:l.getD i []∈l:=iW hlt
   repeat'((conv=>whnf);first|intro _|apply aI|with_reducible exact vM rfl|exact⟨⟩|apply nM|apply fM)
   all_goals((try apply vM);(try simp only[vq]at*);try omega)
   ·rw[jX hlt ‹p (l.getD i [])=true› hok];exact Sup.of rfl
   ·refine⟨i+1,[],⟨⟨by omega,fun j hj=>?_⟩,by omega⟩,?_⟩
    ·by_cases e:j=i
     ·subst e;assumption
     ·exact hok j (by omega)
    ·repeat'((conv=>whnf);first|intro _|apply aI|with_reducible exact vM rfl|exact⟨⟩|apply nM|apply fM)
     all_goals((try apply vM);(try simp only[vq]at*);try omega)
  ·have:i=l.length:=by omega
   subst this;rw[jW hok]
   repeat'((conv=>whnf);first|intro _|apply aI|with_reducible exact vM rfl|exact⟨⟩|apply nM|apply fM)
   all_goals((try apply vM);(try simp only[vq]at*);try omega)
   exact Sup.of rfl
theorem aaf:POK Tryz.prog 185 Om:=by
 intro xs K h;unfold Om at h;split at h
 ·obtain⟨⟨h1⟩,p,h2,hK⟩:=h
  exact⟨_,hK,Rp _ h1 _ _ _ p h2⟩
 ·exact h.elim
def Oo:PSp:=fun xs K=>match xs with
 | [.isl (.rows .i64 l) .none,.fn (.func f) fs cs]=>VC (l.length≤2000000∧eU.inlF fs=true∧eU.inlF cs=true)∧∃p:List Int→Bool,(∀x∈l,aF Tryz.prog f (fs++[.isl (.ints .i64 x) .none]++cs) (.bp (p x)))∧K (.bp (l.any p))
 |_=>False
theorem Rq (l:List (List Int)) (hl:l.length≤2000000) (f:Nat) (fs cs:List PV) (hfs:eU.inlF fs=true) (hcs:eU.inlF cs=true) (p:List Int→Bool) (hp:∀x∈l,aF Tryz.prog f (fs++[.isl (.ints .i64 x) .none]++cs) (.bp (p x))):
 aF Tryz.prog 140 [.isl (.rows .i64 l) .none,.fn (.func f) fs cs] (.bp (l.any p)):=by
 have hc:aV Tryz.prog (aA 185 (aB Om) noC):=ak (au aaf) aC;refine av (md:=1) (rf:=[]) mixed aj hc Tryz.func140 (by rfl) (by rfl) (by rfl) ?_
 repeat'((conv=>whnf);first|intro _|apply aI|with_reducible exact vM rfl|exact⟨⟩|apply nM|apply fM)
 conv=>whnf
 simp only[aB,qG,jy,sM,eU,hfs,hcs]
 repeat'((conv=>whnf);first|intro _|apply aI|with_reducible exact vM rfl|exact⟨⟩|apply nM|apply fM)
 all_goals((try apply vM);(try simp only[vq]at*);try omega)
 refine⟨p,hp,?_⟩
 repeat'((conv=>whnf);first|intro _|apply aI|with_reducible exact vM rfl|exact⟨⟩|apply nM|apply fM)
 all_goals((try apply vM);(try simp only[vq]at*);try omega)
 refine Sup.via ?_
 repeat'((conv=>whnf);first|intro _|apply aI|with_reducible exact vM rfl|exact⟨⟩|apply nM|apply fM)
 refine VC.mk ?_;rw[gy,nW]
theorem aag:POK Tryz.prog 140 Oo:=by
 intro xs K h;unfold Oo at h;split at h
 ·obtain⟨⟨h1,h3,h4⟩,p,h2,hK⟩:=h
  exact⟨_,hK,Rq _ h1 _ _ _ h3 h4 p h2⟩
 ·exact h.elim
noncomputable def aep:CPT:=aA 223 (aB GH) noC
theorem UJ:aV Tryz.prog aep:=ak (au UH) aC
theorem Rs (l x:List Int) (hx:x.length≤2000000):aF Tryz.prog 222 ([]++[.isl (.ints .i64 x) .none]++[.ip (.pv [.isl (.ints .i64 l) .none]) 0]) (.bp (decide (x=l))):=by
 refine av (md:=1) (rf:=[]) mixed aj UJ Tryz.func222 (by rfl) (by rfl) (by rfl) ?_
 repeat'((conv=>whnf);first|intro _|apply aI|with_reducible exact vM rfl|exact⟨⟩|apply nM|apply fM)
 all_goals((try apply vM);(try simp only[vq]at*);try omega)
 exact Sup.of rfl
noncomputable def aer:CPT:=aA 193 (aB o9) (aA 195 (aB gX) (aA 140 (zW Oo) noC))
theorem GJ:aV Tryz.prog aer:=ak (au qN) (ak (au qo) (ak (Dc aag) aC))
theorem GK (c:Int) (ls:List (List Int)) (i:Nat) (h:bH ls) (hlt:i<ls.length):aF Tryz.prog 196 [.agg [.int .i64 c,.isl (.rows .i64 ls) .none],.int .i64 (i:Int)] (.int .i64 (jk c ls i)):=by
 have h2:=h.len;have e1:=h.at' i;have e4:=Dm h i;obtain⟨l,hL⟩:∃l,ls.getD i []=l:=⟨_,rfl⟩;have eE:jk c ls i=if l.length=0 then 12 else if dD (bZ c l) l.length≠0 then dD (bZ c l) l.length else if(ls.take i).any (fun x=>decide (x=l))then 9 else 0:=by unfold jk;rw[hL]
 rw[hL]at e1;refine av (md:=1) (rf:=[]) mixed aj GJ Tryz.func196 (by rfl) (by rfl) (by rfl) ?_
 repeat'((conv=>whnf);first|intro _|apply aI|with_reducible exact vM rfl|exact⟨⟩|apply nM|apply fM)
 all_goals((try apply vM);(try simp only[vq]at*);try omega)
 ·rw[hL]at*
  rw[eE,if_pos (by omega)];exact Sup.of rfl
 rename_i h0;rw[hL]at h0⊢;rw[if_neg (by omega)]at eE
 conv=>whnf
 refine aJ (X:=Nat) (fun k=>k≤l.length∧∀j,j<k→bZ c l j=0) (fun k=>[(19,.int .i64 k)]) (fun k=>[]) (fun k=>l.length-k) 0 ⟨aG,mixed,aj,GJ,aM⟩ (by rfl) ⟨by omega,fun j hj=>by omega⟩ ?_ ?_
 ·repeat'((conv=>whnf);first|intro _|apply aI|with_reducible exact vM rfl|exact⟨⟩|apply nM|apply fM)
  all_goals((try apply vM);(try simp only[vq]at*);try omega)
  all_goals first|exact hL|exact hL.symm|skip
 intro k ⟨hk,hok2⟩;by_cases hkl:k<l.length
 ·have eS:bZ c l k=if l.getD k 0<0∨c≤l.getD k 0 then 10 else if 0<k∧l.getD k 0≤l.getD (k-1) 0 then 11 else 0:=rfl
  have ek:((k:Int)-1).toNat=k-1:=by omega
  have fin:∀e,bZ c l k=e→e≠0→jk c ls i=e:=fun e a1 a2=>by
   have a3:dD (bZ c l) l.length=e:=(fB hkl (by rw[a1];exact a2) hok2).trans a1
   rw[eE,if_pos (by rw[a3];exact a2),a3]
  have nxt:bZ c l k=0→∀j,j<k+1→bZ c l j=0:=fun a j hj=>by
   by_cases e:j=k
   ·subst e;exact a
   ·exact hok2 j (by omega)
  repeat'((conv=>whnf);first|intro _|apply aI|with_reducible exact vM rfl|exact⟨⟩|apply nM|apply fM)
  all_goals((try apply vM);(try simp only[vq]at*);try omega)
  ·rename_i hq
   refine Sup.of (congrArg (PV.int .i64) (fin _ ?_ hq).symm)
   (rw[eS];simp only[aL,ek,if_true,if_false,ite_true,ite_false];(repeat' split)<;>(first|rfl|omega))
  ·rename_i hq
   refine⟨k+1,[],⟨⟨by omega,nxt (Eq.trans ?_ (aha.1 hq))⟩,by omega⟩,?_⟩
   ·(rw[eS];simp only[aL,ek,if_true,if_false,ite_true,ite_false];(repeat' split)<;>(first|rfl|omega))
   repeat'((conv=>whnf);first|intro _|apply aI|with_reducible exact vM rfl|exact⟨⟩|apply nM|apply fM)
  ·rename_i hq
   refine Sup.of (congrArg (PV.int .i64) (fin _ ?_ hq).symm)
   (rw[eS];simp only[aL,ek,if_true,if_false,ite_true,ite_false];(repeat' split)<;>(first|rfl|omega))
  ·rename_i hq
   refine⟨k+1,[],⟨⟨by omega,nxt (Eq.trans ?_ (aha.1 hq))⟩,by omega⟩,?_⟩
   ·(rw[eS];simp only[aL,ek,if_true,if_false,ite_true,ite_false];(repeat' split)<;>(first|rfl|omega))
   repeat'((conv=>whnf);first|intro _|apply aI|with_reducible exact vM rfl|exact⟨⟩|apply nM|apply fM)
  ·rename_i hq
   refine Sup.of (congrArg (PV.int .i64) (fin _ ?_ hq).symm)
   (rw[eS];simp only[aL,ek,if_true,if_false,ite_true,ite_false];(repeat' split)<;>(first|rfl|omega))
  ·rename_i hq
   refine⟨k+1,[],⟨⟨by omega,nxt (Eq.trans ?_ (aha.1 hq))⟩,by omega⟩,?_⟩
   ·(rw[eS];simp only[aL,ek,if_true,if_false,ite_true,ite_false];(repeat' split)<;>(first|rfl|omega))
   repeat'((conv=>whnf);first|intro _|apply aI|with_reducible exact vM rfl|exact⟨⟩|apply nM|apply fM)
  ·rename_i hq
   refine Sup.of (congrArg (PV.int .i64) (fin _ ?_ hq).symm)
   (rw[eS];simp only[aL,ek,if_true,if_false,ite_true,ite_false];(repeat' split)<;>(first|rfl|omega))
  ·rename_i hq
   refine⟨k+1,[],⟨⟨by omega,nxt (Eq.trans ?_ (aha.1 hq))⟩,by omega⟩,?_⟩
   ·(rw[eS];simp only[aL,ek,if_true,if_false,ite_true,ite_false];(repeat' split)<;>(first|rfl|omega))
   repeat'((conv=>whnf);first|intro _|apply aI|with_reducible exact vM rfl|exact⟨⟩|apply nM|apply fM)
 ·have a3:dD (bZ c l) l.length=0:=fU (n:=l.length) (by rw[show l.length=k by omega];exact hok2)
  rw[if_neg (by rw[a3];simp)]at eE
  have et:aiW (i-0) (aiX 0 ls)=ls.take i:=by rw[aiY,aiZ]
  repeat'((conv=>whnf);first|intro _|apply aI|with_reducible exact vM rfl|exact⟨⟩|apply nM|apply fM)
  all_goals((try apply vM);(try simp only[vq]at*);try omega)
  ·rw[et];exact⟨by omega,rfl,rfl⟩
  rw[et];refine⟨fun x=>decide (x=l),fun x hx=>Rs l x (by have:=e4.2 x hx;omega),?_⟩
  rw[eE]
  repeat'((conv=>whnf);first|intro _|apply aI|with_reducible exact vM rfl|exact⟨⟩|apply nM|apply fM)
  all_goals((try apply vM);(try simp only[vq]at*);try omega)
  exact Sup.of rfl
theorem Eb {c:Int} {ls:List (List Int)} {i:Int} (h:bH ls) (h0:0≤i) (hlt:i<ls.length):aF Tryz.prog 196 [.agg [.int .i64 c,.isl (.rows .i64 ls) .none],.int .i64 i] (.int .i64 (jk c ls i.toNat)):=by
 have:=GK c ls i.toNat h (by omega)
 rwa [Int.toNat_of_nonneg h0]at this
def yL:PSp:=fun xs K=>match xs with
 | [.agg [.int .i64 c,.isl (.rows .i64 ls) .none],.int .i64 i]=>VC (bH ls∧0≤i∧i<ls.length)∧K (.int .i64 (jk c ls i.toNat))
 |_=>False
theorem Oq:POK Tryz.prog 196 yL:=by
 intro xs K h;unfold yL at h;split at h
 ·exact⟨_,h.2,Eb h.1.get.1 h.1.get.2.1 h.1.get.2.2⟩
 ·exact h.elim
noncomputable def aff:CPT:=aA 193 (aB o9) (aA 195 (aB gX) (aA 194 (aB EN) (aA 196 (aB yL) noC)))
theorem K5:aV Tryz.prog aff:=ak (au qN) (ak (au qo) (ak (au KY) (ak (au Oq) aC)))
theorem UK (c:Int) (ls:List (List Int)) (h:bH ls):aF Tryz.prog 153 [.agg [.int .i64 c,.isl (.rows .i64 ls) .none]] (.int .i64 (jl c ls)):=by
 have h2:=h.len;have hf:aL [if [c].any (qY 1 256)then 3 else 0,if 128<(ls.length:Int)then 5 else 0]=if c<1∨256<c then 3 else if 128<ls.length then 5 else 0:=by
  simp only[aL,List.any_cons,List.any_nil,Bool.or_false,qY,Bool.or_eq_true,decide_eq_true_eq]
  (repeat' split)<;>(first|rfl|omega)
 unfold jl;refine av (md:=1) (rf:=[]) mixed aj K5 Tryz.func153 (by rfl) (by rfl) (by rfl) ?_
 repeat'((conv=>whnf);first|intro _|apply aI|with_reducible exact vM rfl|exact⟨⟩|apply nM|apply fM)
 all_goals((try apply vM);(try simp only[vq]at*);try omega)
 ·rename_i hq
  rw[hf]at hq⊢;by_cases hc:c<1∨256<c
  ·rw[if_pos hc,if_pos hc];exact Sup.of rfl
  rw[if_neg hc]at hq⊢;by_cases hl:128<ls.length
  ·rw[if_neg hc,if_pos hl,if_pos hl];exact Sup.of rfl
  ·rw[if_neg hl]at hq;exact absurd rfl hq
 rename_i hq;have hq:=aha.1 hq;rw[hf]at hq;have hc:¬(c<1∨256<c):=fun hc=>by rw[if_pos hc]at hq;cases hq
 rw[if_neg hc]at hq⊢;have hl:¬128<ls.length:=fun hl=>by rw[if_pos hl]at hq;cases hq
 rw[if_neg hl];conv=>whnf
 refine aJ (X:=Nat) (fun i=>i≤ls.length∧∀j,j<i→jk c ls j=0) (fun i=>[(23,.int .i64 i)]) (fun i=>[]) (fun i=>ls.length-i) 0 ⟨aG,mixed,aj,K5,aM⟩ (by rfl) ⟨by omega,fun j hj=>by omega⟩ ?_ ?_
 ·repeat'((conv=>whnf);first|intro _|apply aI|with_reducible exact vM rfl|exact⟨⟩|apply nM|apply fM)
  all_goals((try apply vM);(try simp only[vq]at*);try omega)
 intro i ⟨hi,hok⟩;by_cases hlt:i<ls.length
 ·repeat'((conv=>whnf);first|intro _|apply aI|with_reducible exact vM rfl|exact⟨⟩|apply nM|apply fM)
  all_goals((try apply vM);(try simp only[vq]at*);try omega)
  ·exact⟨h,by omega,by omega⟩
  ·rename_i hq
   rw[fB hlt hq hok];exact Sup.of rfl
  ·rename_i hq
   refine⟨i+1,[],⟨⟨by omega,fun j hj=>?_⟩,by omega⟩,?_⟩
   ·by_cases e:j=i
    ·subst e;exact aha.1 hq
    ·exact hok j (by omega)
   repeat'((conv=>whnf);first|intro _|apply aI|with_reducible exact vM rfl|exact⟨⟩|apply nM|apply fM)
   all_goals((try apply vM);(try simp only[vq]at*);try omega)
 ·rw[fU (n:=ls.length) (by rw[show ls.length=i by omega];exact hok)]
  repeat'((conv=>whnf);first|intro _|apply aI|with_reducible exact vM rfl|exact⟨⟩|apply nM|apply fM)
  all_goals((try apply vM);(try simp only[vq]at*);try omega)
  exact Sup.of rfl
def Ot:PSp:=fun xs K=>match xs with
 | [.agg [.int .i64 c,.isl (.rows .i64 ls) .none]]=>VC (bH ls)∧K (.int .i64 (jl c ls))
 |_=>False
theorem Rt:POK Tryz.prog 153 Ot:=by
 intro xs K h;unfold Ot at h;split at h
 ·exact⟨_,h.2,UK _ _ h.1.get⟩
 ·exact h.elim
def tZ (c:Int) (ls:List (List Int)) (f:List Int):Int:=aL [jl c ls,if(f.length:Int)≠c then 2 else 0,oO f]
noncomputable def afg:CPT:=aA 193 (aB o9) (aA 195 (aB gX) (aA 153 (aB Ot) (aA 203 (aB tY) noC)))
theorem aah:aV Tryz.prog afg:=ak (au qN) (ak (au qo) (ak (au Rt) (ak (au Ai) aC)))
theorem Ou (c:Int) (ls:List (List Int)) (f:List Int) (h:bH ls) (hf:f.length≤2000000):aF Tryz.prog 168 [.agg [.int .i64 c,.isl (.rows .i64 ls) .none],.isl (.ints .i64 f) .none] (.int .i64 (tZ c ls f)):=by
 unfold tZ;refine av (md:=1) (rf:=[]) mixed aj aah Tryz.func168 (by rfl) (by rfl) (by rfl) ?_
 repeat'((conv=>whnf);first|intro _|apply aI|with_reducible exact vM rfl|exact⟨⟩|apply nM|apply fM)
 all_goals((try apply vM);(try simp only[vq]at*);try omega)
 all_goals first|exact h|exact Sup.of rfl
def GL:PSp:=fun xs K=>match xs with
 | [.agg [.int .i64 c,.isl (.rows .i64 ls) .none],.isl (.ints .i64 f) .none]=>VC (bH ls∧f.length≤2000000)∧K (.int .i64 (tZ c ls f))
 |_=>False
theorem UL:POK Tryz.prog 168 GL:=by
 intro xs K h;unfold GL at h;split at h
 ·exact⟨_,h.2,Ou _ _ _ h.1.get.1 h.1.get.2⟩
 ·exact h.elim
noncomputable def afh:CPT:=aA 168 (aB GL) (aA 169 (aB yJ) noC)
theorem aai:aV Tryz.prog afh:=ak (au UL) (ak (au Oi) aC)
theorem Ec (c:Int) (ls:List (List Int)) (f:List Int) (h:bH ls) (hf:f.length≤2000000) (he:tZ c ls f=0) (hs:rH f ls):aF Tryz.prog 122 [.agg [.int .i64 c,.isl (.rows .i64 ls) .none],.isl (.ints .i64 f) .none] (.tup [.bp (decide (kJ (gL f ls ls.length)<0)),.int .i64 0]):=by
 refine av (md:=1) (rf:=[]) mixed aj aai Tryz.func122 (by rfl) (by rfl) (by rfl) ?_
 repeat'((conv=>whnf);first|intro _|apply aI|with_reducible exact vM rfl|exact⟨⟩|apply nM|apply fM)
 all_goals((try apply vM);(try simp only[vq]at*);try omega)
 all_goals first|exact⟨h,by omega⟩|exact hs|exact Sup.of rfl|skip
theorem Ov (h:Bool) (e:Int):aF Tryz.prog 89 [.bp h,.int .i64 e] (.int .i64 (if h then e else 0)):=by
 refine av (md:=0) (rf:=[]) mixed aj aC Tryz.func89 (by rfl) (by rfl) (by rfl) ?_
 repeat'((conv=>whnf);first|intro _|apply aI|with_reducible exact vM rfl|exact⟨⟩|apply nM|apply fM)
 all_goals all_goals(first|(refine Sup.of ?_;first|rfl|(simp[*,bG];done))|(refine Sup.via ?_;repeat'((conv=>whnf);first|intro _|apply aI|with_reducible exact vM rfl|exact⟨⟩|apply nM|apply fM);all_goals((try apply vM);(try simp only[vq]at*);try omega);all_goals(try(simp[CL.sub];done))))
theorem JU (h:Bool) (e:Int):aF Tryz.prog 89 [.bool h,.int .i64 e] (.int .i64 (if h then e else 0)):=by
 cases h
 all_goals
  refine av (md:=0) (rf:=[]) mixed aj aC Tryz.func89 (by rfl) (by rfl) (by rfl) ?_
  repeat'((conv=>whnf);first|intro _|apply aI|with_reducible exact vM rfl|exact⟨⟩|apply nM|apply fM)
  all_goals all_goals(first|(refine Sup.of ?_;first|rfl|(simp[*,bG];done))|(refine Sup.via ?_;repeat'((conv=>whnf);first|intro _|apply aI|with_reducible exact vM rfl|exact⟨⟩|apply nM|apply fM);all_goals((try apply vM);(try simp only[vq]at*);try omega);all_goals(try(simp[CL.sub];done))))
theorem jZ:POK Tryz.prog 89 gX:=by
 intro xs K h;unfold gX at h;split at h
 ·exact⟨_,h,Ov _ _⟩
 ·exact⟨_,h,JU _ _⟩
 ·exact h.elim
theorem JV (l:List Int) (hl:l.length<1000000):aF Tryz.prog 88 [.isl (.ints .i64 l) .none] (.int .i64 (aL l)):=by
 refine av (md:=1) (rf:=[]) mixed aj aC Tryz.func88 (by rfl) (by rfl) (by rfl) ?_
 repeat'((conv=>whnf);first|intro _|apply aI|with_reducible exact vM rfl|exact⟨⟩|apply nM|apply fM)
 all_goals((try apply vM);(try simp only[vq]at*);try omega)
 conv=>whnf
 refine aJ (X:=Nat) (fun i=>i≤l.length∧∀j,j<i→l.getD j 0=0) (fun i=>[(7,.int .i64 i)]) (fun _=>[]) (fun i=>l.length-i) 0 ⟨aG,mixed,aj,aC,aM⟩ (by rfl) ⟨by omega,fun j hj=>by omega⟩ ?_ ?_
 ·repeat'((conv=>whnf);first|intro _|apply aI|with_reducible exact vM rfl|exact⟨⟩|apply nM|apply fM)
  all_goals((try apply vM);(try simp only[vq]at*);try omega)
 ·intro i hi
  obtain⟨hi,hz⟩:=hi
  repeat'((conv=>whnf);first|intro _|apply aI|with_reducible exact vM rfl|exact⟨⟩|apply nM|apply fM)
  all_goals((try apply vM);(try simp only[vq]at*);try omega)
  ·rename_i hne
   have:=kI l i (by omega) hz (by simpa using hne)
   rw[this];exact Sup.of rfl
  ·rename_i hne
   have hne:l.getD i 0=0:=by simpa using hne
   refine⟨i+1,[],⟨⟨by omega,fun j hj=>?_⟩,by omega⟩,?_⟩
   ·by_cases e:j=i
    ·subst e;exact hne
    ·exact hz j (by omega)
   ·repeat'((conv=>whnf);first|intro _|apply aI|with_reducible exact vM rfl|exact⟨⟩|apply nM|apply fM)
    all_goals((try apply vM);(try simp only[vq]at*);try omega)
  ·have:i=l.length:=by omega
   subst this;rw[vQ l hz];exact Sup.of rfl
def jE:PSp:=fun xs K=>match xs with
 | [.isl (.ints .i64 l) .none]=>VC (l.length<1000000)∧K (.int .i64 (aL l))
 |_=>False
theorem iX:POK Tryz.prog 88 jE:=by
 intro xs K h;unfold jE at h;split at h
 ·exact⟨_,h.2,JV _ h.1.get⟩
 ·exact h.elim
theorem dA (l:List Int) (b:Int):b∈l↔∃i,i<l.length∧l.getD i 0=b:=by
 rw[ah8];constructor
 ·rintro⟨i,hi,e⟩;exact⟨i,hi,by rw[agt,agy hi];exact e⟩
 ·rintro⟨i,hi,e⟩;exact⟨i,hi,by rw[agt,agy hi]at e;exact e⟩
theorem uH (l:List Int) (b:Int) (i:Nat) (hi:i<l.length):b∈l.take (i+1)↔b∈l.take i∨b=l.getD i 0:=by
 have e:l.take (i+1)=l.take i++[l.getD i 0]:=by rw[aij,agt,agy hi];rfl
 rw[e,agu,ai0]
theorem Ru (l:List Int) (hl:l.length≤2000000) (b:Int):aF Tryz.prog 154 [.isl (.ints .i64 l) .none,.int .i64 b] (.int .i64 (firstAt (fun i=>decide (b=l.getD i 0)) l.length)):=by
 refine av (md:=1) (rf:=[]) mixed aj aC Tryz.func154 (by rfl) (by rfl) (by rfl) ?_
 repeat'((conv=>whnf);first|intro _|apply aI|with_reducible exact vM rfl|exact⟨⟩|apply nM|apply fM)
 all_goals((try apply vM);(try simp only[vq]at*);try omega)
 conv=>whnf
 refine aJ (X:=Nat) (fun i=>i≤l.length∧∀j,j<i→decide (b=l.getD j 0)=false) (fun i=>[(8,.int .i64 i)]) (fun i=>[]) (fun i=>l.length-i) 0 ⟨aG,mixed,aj,aC,aM⟩ (by rfl) ⟨by omega,fun j hj=>by omega⟩ ?_ ?_
 ·repeat'((conv=>whnf);first|intro _|apply aI|with_reducible exact vM rfl|exact⟨⟩|apply nM|apply fM)
  all_goals((try apply vM);(try simp only[vq]at*);try omega)
 ·rintro i ⟨hi,hok⟩
  by_cases hlt:i<l.length
  ·repeat'((conv=>whnf);first|intro _|apply aI|with_reducible exact vM rfl|exact⟨⟩|apply nM|apply fM)
   all_goals((try apply vM);(try simp only[vq]at*);try omega)
   ·rename_i hq
    rw[jX (p:=fun i=>decide (b=l.getD i 0)) hlt (decide_eq_true hq) (fun j hj=>decide_eq_false (hok j hj))];exact Sup.of rfl
   ·refine⟨i+1,[],⟨⟨by omega,fun j hj=>?_⟩,by omega⟩,?_⟩
    ·by_cases e:j=i
     ·subst e;first|assumption|(apply decide_eq_false;assumption)
     ·first|exact hok j (by omega)|exact decide_eq_false (hok j (by omega))
    ·repeat'((conv=>whnf);first|intro _|apply aI|with_reducible exact vM rfl|exact⟨⟩|apply nM|apply fM)
     all_goals((try apply vM);(try simp only[vq]at*);try omega)
  ·have:i=l.length:=by omega
   subst this;rw[jW hok]
   repeat'((conv=>whnf);first|intro _|apply aI|with_reducible exact vM rfl|exact⟨⟩|apply nM|apply fM)
   all_goals((try apply vM);(try simp only[vq]at*);try omega)
   exact Sup.of rfl
def Ow:PSp:=fun xs K=>match xs with
 | [.isl (.ints .i64 l) .none,.int .i64 b]=>VC (l.length≤2000000)∧K (.int .i64 (firstAt (fun i=>decide (b=l.getD i 0)) l.length))
 |_=>False
theorem aaj:POK Tryz.prog 154 Ow:=by
 intro xs K h;unfold Ow at h;split at h
 ·exact⟨_,h.2,Ru _ h.1.get _⟩
 ·exact h.elim
noncomputable def afi:CPT:=aA 154 (aB Ow) noC
theorem aak:aV Tryz.prog afi:=ak (au aaj) aC
theorem Rv (l:List Int) (hl:l.length≤2000000) (b:Int):aF Tryz.prog 94 [.isl (.ints .i64 l) .none,.int .i64 b] (.bp (decide (b∈l))):=by
 refine av (md:=1) (rf:=[]) mixed aj aak Tryz.func94 (by rfl) (by rfl) (by rfl) ?_
 repeat'((conv=>whnf);first|intro _|apply aI|with_reducible exact vM rfl|exact⟨⟩|apply nM|apply fM)
 all_goals((try apply vM);(try simp only[vq]at*);try omega)
 refine Sup.via ?_
 repeat'((conv=>whnf);first|intro _|apply aI|with_reducible exact vM rfl|exact⟨⟩|apply nM|apply fM)
 refine VC.mk ?_;rw[gy,nW (fun y=>decide (b=y))];rw[aio];simp[aiR]
def Ak:PSp:=fun xs K=>match xs with
 | [.isl (.ints .i64 l) .none,.int .i64 b]=>VC (l.length≤2000000)∧K (.bp (decide (b∈l)))
 |_=>False
theorem BG:POK Tryz.prog 94 Ak:=by
 intro xs K h;unfold Ak at h;split at h
 ·exact⟨_,h.2,Rv _ h.1.get _⟩
 ·exact h.elim
theorem Rx (l:List Int) (hl:l.length≤2000000) (b:Int):aF Tryz.prog 95 [.isl (.ints .i64 l) .none,.int .i64 b] (.bp (decide (b∈l))):=by
 refine av (md:=1) (rf:=[]) mixed aj aC Tryz.func95 (by rfl) (by rfl) (by rfl) ?_
 repeat'((conv=>whnf);first|intro _|apply aI|with_reducible exact vM rfl|exact⟨⟩|apply nM|apply fM)
 all_goals((try apply vM);(try simp only[vq]at*);try omega)
 conv=>whnf
 refine aJ (X:=Nat) (fun i=>i≤l.length∧b∉l.take i) (fun i=>[(5,.int .i64 i)]) (fun i=>[]) (fun i=>l.length-i) 0 ⟨aG,mixed,aj,aC,aM⟩ (by rfl) ⟨by omega,by simp⟩ ?_ ?_
 ·repeat'((conv=>whnf);first|intro _|apply aI|with_reducible exact vM rfl|exact⟨⟩|apply nM|apply fM)
  all_goals((try apply vM);(try simp only[vq]at*);try omega)
 ·rintro i ⟨hi,hok⟩
  by_cases hlt:i<l.length
  ·repeat'((conv=>whnf);first|(intro hq;(try simp only[vw]at hq);try first|exact absurd hq (by decide)|exfalso;omega)|apply aI|with_reducible exact vM rfl|exact⟨⟩|apply nM|apply fM)
   all_goals((try apply vM);(try simp only[vq]at*);try omega)
   ·rename_i hq
    rw[show decide (b∈l)=true by rw[decide_eq_true_eq,←hq];exact bK hlt]
    all_goals(refine Sup.via ?_;repeat'((conv=>whnf);first|intro _|apply aI|with_reducible exact vM rfl|exact⟨⟩|apply nM|apply fM);all_goals((try apply vM);(try simp only[vq]at*);try omega);all_goals(try(simp[CL.sub];done)))
   ·rename_i hq
    refine⟨i+1,[],⟨⟨by omega,fun hm=>?_⟩,by omega⟩,?_⟩
    ·rcases(uH l b i hlt).1 hm with h|h
     ·exact hok h
     ·exact hq h.symm
    ·repeat'((conv=>whnf);first|intro _|apply aI|with_reducible exact vM rfl|exact⟨⟩|apply nM|apply fM)
     all_goals((try apply vM);(try simp only[vq]at*);try omega)
  ·have:i=l.length:=by omega
   subst this;rw[ail]at hok;rw[decide_eq_false hok]
   repeat'((conv=>whnf);first|(intro hq;(try simp only[vw]at hq);try first|exact absurd hq (by decide)|exfalso;omega)|apply aI|with_reducible exact vM rfl|exact⟨⟩|apply nM|apply fM)
   all_goals((try apply vM);(try simp only[vq]at*);try omega)
   all_goals(refine Sup.via ?_;repeat'((conv=>whnf);first|intro _|apply aI|with_reducible exact vM rfl|exact⟨⟩|apply nM|apply fM);all_goals((try apply vM);(try simp only[vq]at*);try omega);all_goals(try(simp[CL.sub];done)))
def uf:PSp:=fun xs K=>match xs with
 | [.isl (.ints .i64 l) .none,.int .i64 b]=>VC (l.length≤2000000)∧K (.bp (decide (b∈l)))
 |_=>False
theorem rM:POK Tryz.prog 95 uf:=by
 intro xs K h;unfold uf at h;split at h
 ·exact⟨_,h.2,Rx _ h.1.get _⟩
 ·exact h.elim
noncomputable def cpG:CPT:=aA 89 (aB gX) noC
theorem ads:aV Tryz.prog cpG:=ak (au jZ) aC
def fJ (g:Int):Int:=if g<1∨5<g then 3 else 0
theorem Ed (g:Int):aF Tryz.prog 98 [.int .i64 g] (.int .i64 (fJ g)):=by
 unfold fJ;refine av (md:=1) (rf:=[]) mixed aj ads Tryz.func98 (by rfl) (by rfl) (by rfl) ?_
 repeat'((conv=>whnf);first|intro _|apply aI|with_reducible exact vM rfl|exact⟨⟩|apply nM|apply fM)
 all_goals refine Sup.of ?_
 all_goals simp_all[bG]
 all_goals(split<;>split<;>omega)
def nY:PSp:=fun xs K=>match xs with
 | [.int .i64 g]=>VC (True)∧K (.int .i64 (fJ g))
 |_=>False
theorem q9:POK Tryz.prog 98 nY:=by
 intro xs K h;unfold nY at h;split at h
 ·exact⟨_,h.2,Ed _⟩
 ·exact h.elim
def fu (c:Int) (ls:List (List Int)):Int:=aL [jl c ls,if 16<c then 20 else 0,if ls.length=0 then 12 else 0]
noncomputable def afj:CPT:=aA 88 (aB jE) (aA 89 (aB gX) (aA 153 (aB Ot) noC))
theorem aal:aV Tryz.prog afj:=ak (au iX) (ak (au jZ) (ak (au Rt) aC))
theorem Ox (c:Int) (ls:List (List Int)) (h:bH ls):aF Tryz.prog 93 [.agg [.int .i64 c,.isl (.rows .i64 ls) .none]] (.int .i64 (fu c ls)):=by
 unfold fu;refine av (md:=1) (rf:=[]) mixed aj aal Tryz.func93 (by rfl) (by rfl) (by rfl) ?_
 repeat'((conv=>whnf);first|intro _|apply aI|with_reducible exact vM rfl|exact⟨⟩|apply nM|apply fM)
 all_goals((try apply vM);(try simp only[vq]at*);try omega)
 all_goals first|exact h|skip
 refine Sup.of (congrArg (PV.int .i64) ?_);simp only[decide_eq_true_eq,Int.natCast_eq_zero]
def Al:PSp:=fun xs K=>match xs with
 | [.agg [.int .i64 c,.isl (.rows .i64 ls) .none]]=>VC (bH ls)∧K (.int .i64 (fu c ls))
 |_=>False
theorem GN:POK Tryz.prog 93 Al:=by
 intro xs K h;unfold Al at h;split at h
 ·exact⟨_,h.2,Ox _ _ h.1.get⟩
 ·exact h.elim
noncomputable def afk:CPT:=aA 120 (aB EO) noC
theorem aam:aV Tryz.prog afk:=ak (au K4) aC
theorem JW (c:Int) (ls:List (List Int)) (h:bH ls):aF Tryz.prog 51 [.agg [.int .i64 c,.isl (.rows .i64 ls) .none]] (.int .i64 (fu c ls)):=by
 unfold fu aL aL aL aL;refine av (md:=1) (rf:=[]) mixed aj aam Tryz.func51 (by rfl) (by rfl) (by rfl) ?_
 repeat'((conv=>whnf);first|(intro hq;(try simp only[vw]at hq);try first|exact absurd hq (by decide)|exfalso;omega)|apply aI|with_reducible exact vM rfl|exact⟨⟩|apply nM|apply fM)
 all_goals((try apply vM);(try simp only[vq]at*);try omega)
 all_goals first|exact h|(refine Sup.of (congrArg (PV.int .i64) ?_);(repeat' split)<;>simp_all<;>omega)
def BH:PSp:=fun xs K=>match xs with
 | [.agg [.int .i64 c,.isl (.rows .i64 ls) .none]]=>VC (bH ls)∧K (.int .i64 (fu c ls))
 |_=>False
theorem Ry:POK Tryz.prog 51 BH:=by
 intro xs K h;unfold BH at h;split at h
 ·exact⟨_,h.2,JW _ _ h.1.get⟩
 ·exact h.elim
def gvE (c:Int) (gv:List Int) (i:Nat):Int:=if gv.getD i 0<0∨c<gv.getD i 0 then 3 else if 0<gv.getD i 0∧gv.getD i 0∈gv.take i then 9 else 0
def ru (c:Int) (ls:List (List Int)) (sum:Int) (gv:List Int):Int:=aL [fu c ls,if sum< -999999999∨999999999<sum then 3 else 0,if(gv.length:Int)≠c then 2 else 0]
def pzE (c:Int) (ls:List (List Int)) (sum:Int) (gv:List Int):Int:=if ru c ls sum gv≠0 then ru c ls sum gv else dD (gvE c gv) gv.length
abbrev pzV (c:Int) (ls:List (List Int)) (sum:Int) (gv:List Int):PV:=.agg [.int .i64 c,.isl (.rows .i64 ls) .none,.int .i64 sum,.isl (.ints .i64 gv) .none]
noncomputable def afl:CPT:=aA 88 (aB jE) (aA 89 (aB gX) (aA 93 (aB Al) (aA 94 (aB Ak) noC)))
theorem K6:aV Tryz.prog afl:=ak (au iX) (ak (au jZ) (ak (au GN) (ak (au BG) aC)))
theorem Oy (c:Int) (ls:List (List Int)) (sum:Int) (gv:List Int) (h:bH ls) (hg:gv.length≤5000):aF Tryz.prog 22 [pzV c ls sum gv] (.int .i64 (pzE c ls sum gv)):=by
 obtain⟨B,hB⟩:∃B,fu c ls=B:=⟨_,rfl⟩;have hE0:∀x,(x=if sum< -999999999∨999999999<sum then 3 else 0)→ru c ls sum gv=aL [B,x,if(gv.length:Int)≠c then 2 else 0]:=fun x hx=>by rw[hx,←hB];rfl
 obtain⟨E,hE⟩:∃E,ru c ls sum gv=E:=⟨_,rfl⟩;unfold pzE;rw[hE]at hE0⊢;refine av (md:=1) (rf:=[]) mixed aj K6 Tryz.func22 (by rfl) (by rfl) (by rfl) ?_
 repeat'((conv=>whnf);first|(intro hq;(try simp only[vw]at hq);try first|exact absurd hq (by decide)|exfalso;omega)|apply aI|with_reducible exact vM rfl|exact⟨⟩|apply nM|apply fM)
 all_goals((try apply vM);(try simp only[vq]at*);try omega)
 all_goals first|exact h|skip
 ·rename_i h1
  have e:=hE0 (if 999999999<sum then 3 else 0) (by simp[h1])
  rw[hB]at hq⊢;rw[←e]at hq⊢;rw[if_pos hq];exact Sup.of rfl
 rotate_left
 ·rename_i h1
  have e:=hE0 3 (by simp[h1])
  rw[hB]at hq⊢;rw[←e]at hq;rw[if_pos hq,e];exact Sup.of (by simp[bG])
 ·rename_i h1
  exfalso
  have hq:=aha.1 hq;by_cases h2:fu c ls=0
  ·simp[aL,h2]at hq
  ·simp[aL,h2]at hq
 rename_i h1;have e:=hE0 (if 999999999<sum then 3 else 0) (by simp[h1])
 rw[hB,←e]at hq;rw[if_neg hq];conv=>whnf
 refine aJ (X:=Nat) (fun i=>i≤gv.length∧∀j,j<i→gvE c gv j=0) (fun i=>[(39,.int .i64 i)]) (fun i=>[]) (fun i=>gv.length-i) 0 ⟨aG,mixed,aj,K6,aM⟩ (by rfl) ⟨by omega,fun j hj=>by omega⟩ ?_ ?_
 ·repeat'((conv=>whnf);first|intro _|apply aI|with_reducible exact vM rfl|exact⟨⟩|apply nM|apply fM)
  all_goals((try apply vM);(try simp only[vq]at*);try omega)
 intro i ⟨hi,hok⟩;by_cases hlt:i<gv.length
 ·have eS:gvE c gv i=if gv.getD i 0<0∨c<gv.getD i 0 then 3 else if 0<gv.getD i 0∧gv.getD i 0∈gv.take i then 9 else 0:=rfl
  have et:aiW (i-0) (aiX 0 gv)=gv.take i:=by rw[aiY,aiZ]
  have fin:∀e,gvE c gv i=e→e≠0→dD (gvE c gv) gv.length=e:=fun e a1 a2=>(fB hlt (by rw[a1];exact a2) hok).trans a1
  have nxt:gvE c gv i=0→∀j,j<i+1→gvE c gv j=0:=fun a j hj=>by
   by_cases e:j=i
   ·subst e;exact a
   ·exact hok j (by omega)
  repeat'((conv=>whnf);first|(intro hq;(try simp only[vw]at hq);try first|exact absurd hq (by decide)|exfalso;omega)|apply aI|with_reducible exact vM rfl|exact⟨⟩|apply nM|apply fM)
  all_goals((try apply vM);(try simp only[vq]at*);try omega)
  all_goals first
   |(rw[et,ag6];omega)
   |(rw[ag6,List.length_drop];omega)
   |skip
  all_goals(try rw[et]at*)
  ·refine Sup.of (congrArg (PV.int .i64) (fin _ ?_ ?_).symm)
   ·clear fin nxt hok hE0
    rw[eS];simp only[aL];(repeat' split)<;>simp_all<;>omega
   ·exact hq
  ·refine⟨i+1,[],⟨⟨by omega,nxt ?_⟩,by omega⟩,?_⟩
   ·refine Eq.trans ?_ (aha.1 hq)
    clear fin nxt hok hE0;rw[eS];simp only[aL];(repeat' split)<;>simp_all<;>omega
   ·repeat'((conv=>whnf);first|intro _|apply aI|with_reducible exact vM rfl|exact⟨⟩|apply nM|apply fM)
    all_goals((try apply vM);(try simp only[vq]at*);try omega)
  ·refine Sup.of (congrArg (PV.int .i64) (fin _ ?_ ?_).symm)
   ·clear fin nxt hok hE0
    rw[eS];simp only[aL];(repeat' split)<;>simp_all<;>omega
   ·exact hq
  ·refine⟨i+1,[],⟨⟨by omega,nxt ?_⟩,by omega⟩,?_⟩
   ·refine Eq.trans ?_ (aha.1 hq)
    clear fin nxt hok hE0;rw[eS];simp only[aL];(repeat' split)<;>simp_all<;>omega
   ·repeat'((conv=>whnf);first|intro _|apply aI|with_reducible exact vM rfl|exact⟨⟩|apply nM|apply fM)
    all_goals((try apply vM);(try simp only[vq]at*);try omega)
  ·refine Sup.of (congrArg (PV.int .i64) (fin _ ?_ ?_).symm)
   ·rw[eS,if_pos (.inl (by assumption))];simp[aL]
   ·simp[aL]
 ·have:gv.length=i:=by omega
  rw[fU (n:=gv.length) (by rw[this];exact hok)]
  repeat'((conv=>whnf);first|intro _|apply aI|with_reducible exact vM rfl|exact⟨⟩|apply nM|apply fM)
  all_goals((try apply vM);(try simp only[vq]at*);try omega)
  exact Sup.of rfl
def l9:PSp:=fun xs K=>match xs with
 | [.agg [.int .i64 c,.isl (.rows .i64 ls) .none,.int .i64 sum,.isl (.ints .i64 gv) .none]]=>VC (bH ls∧gv.length≤5000)∧K (.int .i64 (pzE c ls sum gv))
 |_=>False
theorem lC:POK Tryz.prog 22 l9:=by
 intro xs K h;unfold l9 at h;split at h
 ·exact⟨_,h.2,Oy _ _ _ _ h.1.get.1 h.1.get.2⟩
 ·exact h.elim
abbrev bdV (c:Int) (ls:List (List Int)) (sum:Int) (gv:List Int) (s:St):PV:=.ip (.pv [.int .i64 c,.isl (.rows .i64 ls) .none,.int .i64 sum,.isl (.ints .i64 gv) .none,.isl (.ints .u32 (ms s.cs)) .none,.isl (.bools s.ds) .none]) 0
noncomputable def afm:CPT:=aA 190 (aB vS) noC
theorem K7:aV Tryz.prog afm:=ak (au yI) aC
theorem K8 {l:List Int} (h:Asc l) (hl:1≤l.length):qg (mk l)=hd0 l:=by
 cases l with
 |nil=>simp at hl
 |cons x l=>exact KT h
theorem Rz (c:Int) (ls:List (List Int)) (sum:Int) (gv:List Int) (s:St) (h:bB c ls sum s) (k b:Int) (hk:0≤k∧k<ls.length):
 aF Tryz.prog 151 [bdV c ls sum gv s,.int .i64 k,.int .i64 b] (.tup [.isl (.ints .i64 (opn s (ls.getD k.toNat []) b)) .none,.int .i64 (rst s sum (ls.getD k.toNat []))]):=by
 have hln:=h.ln k.toNat (by omega)
 have hsm:=h.sm;have hll:=hln.len;have hlen:=dR s.cs;have hcl:=h.cl;have hdl:=h.dl;have hb:=p9 h hln.rng;refine av (md:=1) (rf:=[]) mixed aj K7 Tryz.func151 (by rfl) (by rfl) (by rfl) ?_
 repeat'((conv=>whnf);first|intro _|apply aI|with_reducible exact vM rfl|exact⟨⟩|apply nM|apply fM)
 all_goals((try apply vM);(try simp only[vq]at*);try omega)
 conv=>whnf
 refine aJ (X:=Nat) (fun i=>i≤(ls.getD k.toNat []).length) (fun i=>[(27,.int .i64 i),(8,.isl (.ints .i64 (opn s ((ls.getD k.toNat []).take i) b)) (.own 3)),(9,.int .i64 (rst s sum ((ls.getD k.toNat []).take i)))]) (fun i=>[(3,.tok 1 (opn s ((ls.getD k.toNat []).take i) b).length)]) (fun i=>(ls.getD k.toNat []).length-i) 0 ⟨aG,mixed,aj,K7,aM⟩ (by rfl) (by omega) ?_ ?_
 ·repeat'((conv=>whnf);first|intro _|apply aI|with_reducible exact vM rfl|exact⟨⟩|apply nM|apply fM)
  all_goals((try apply vM);(try simp only[vq]at*);try omega)
  all_goals rfl
 intro i hi;by_cases hlt:i<(ls.getD k.toNat []).length
 ·have hx:=hln.rng ((ls.getD k.toNat []).getD i 0) (bK hlt)
  have hxs:=h.at hx;have hbi:=hb i (by omega)
  have ho:(opn s ((ls.getD k.toNat []).take i) b).length≤16:=ah2 (ai1 _ _) (by rw[ag6];omega)
  have hm:(ms s.cs).getD ((ls.getD k.toNat []).getD i 0).toNat 0=(mk (s.cd ((ls.getD k.toNat []).getD i 0).toNat):Nat):=fG hxs.1;have hA:=h.asc _ hxs.1;have hr:=qj hA.1;have e1:=KL s ((ls.getD k.toNat []).take i) ((ls.getD k.toNat []).getD i 0) b;have e2:=Bu s sum ((ls.getD k.toNat []).take i) ((ls.getD k.toNat []).getD i 0);rw[←bX hlt]at e1 e2;have hlo:s.dc ((ls.getD k.toNat []).getD i 0).toNat=true→qg (mk (s.cd ((ls.getD k.toNat []).getD i 0).toNat):Nat)=hd0 (s.cd ((ls.getD k.toNat []).getD i 0).toNat):=fun hd=>K8 hA.1 (by rw[h.dec _ hxs.1 hd];omega)
  repeat'((conv=>whnf);first|(intro hq;(try simp only[vw]at hq);try first|exact absurd hq (by decide)|exfalso;omega)|apply aI|with_reducible exact vM rfl|exact⟨⟩|apply nM|apply fM)
  all_goals(try rw[hm])
  all_goals((try apply vM);(try simp only[vq]at*);try omega)
  all_goals(try rw[hm])
  all_goals(try(first|omega|(have h9:=h.num hx ‹_›;rw[hlo ‹_›];omega)|(rw[ahx,agb,af7];omega)))
  ·have hd:s.dc ((ls.getD k.toNat []).getD i 0).toNat=true:=hq
   rw[hd]at e1 e2;rw[if_pos rfl]at e2;rw[if_neg (by simp),aib]at e1
   refine⟨i+1,[],⟨by omega,by omega⟩,?_⟩
   rw[e1,e2]
   repeat'((conv=>whnf);first|intro _|apply aI|with_reducible exact vM rfl|exact⟨⟩|apply nM|apply fM)
   all_goals((try apply vM);(try simp only[vq]at*);try omega)
   all_goals((try rw[hm]);rw[hlo hd])
  ·rename_i hd
   have hd:s.dc ((ls.getD k.toNat []).getD i 0).toNat=false:=hd;rw[hd]at e1 e2;rw[if_neg (by simp)]at e2
   rw[if_pos (by simpa using hq)]at e1
   refine⟨i+1,[],⟨by omega,by omega⟩,?_⟩
   rw[e1,e2,ahx]
   repeat'((conv=>whnf);first|intro _|apply aI|with_reducible exact vM rfl|exact⟨⟩|apply nM|apply fM)
   all_goals((try apply vM);(try simp only[vq]at*);try omega)
  ·rename_i hd
   have hd:s.dc ((ls.getD k.toNat []).getD i 0).toNat=false:=hd;rw[hd]at e1 e2;rw[if_neg (by simp)]at e2
   rw[if_neg (by simpa using hq),aib]at e1
   refine⟨i+1,[],⟨by omega,by omega⟩,?_⟩
   rw[e1,e2]
   repeat'((conv=>whnf);first|intro _|apply aI|with_reducible exact vM rfl|exact⟨⟩|apply nM|apply fM)
   all_goals((try apply vM);(try simp only[vq]at*);try omega)
 ·have:i=(ls.getD k.toNat []).length:=by omega
  subst this;rw[ail]
  repeat'((conv=>whnf);first|intro _|apply aI|with_reducible exact vM rfl|exact⟨⟩|apply nM|apply fM)
  all_goals((try apply vM);(try simp only[vq]at*);try omega)
  exact Sup.of rfl
def Am:PSp:=fun xs K=>match xs with
 | [.ip (.pv [.int .i64 c,.isl (.rows .i64 ls) .none,.int .i64 sum,.isl (.ints .i64 gv) .none,.isl (.ints .u32 M) .none,.isl (.bools D) .none]) 0,.int .i64 k,.int .i64 b]=>∃s:St,VC (M=ms s.cs∧D=s.ds∧bB c ls sum s∧0≤k∧k<ls.length)∧K (.tup [.isl (.ints .i64 (opn s (ls.getD k.toNat []) b)) .none,.int .i64 (rst s sum (ls.getD k.toNat []))])
 |_=>False
theorem BI:POK Tryz.prog 151 Am:=by
 intro xs K hk;unfold Am at hk;split at hk
 ·obtain⟨s,⟨rfl,rfl,h,h1⟩,hk⟩:=hk
  exact⟨_,hk,Rz _ _ _ _ s h _ _ h1⟩
 ·exact hk.elim
abbrev ddV (r:ByteArray) (c x k:Int):PV:=.agg [.str r,.int .i64 c,.int .i64 x,.int .i64 k]
noncomputable def afn:CPT:=aA 151 (aB Am) (aA 156 (aB EK) (aA 190 (aB vS) (aA 210 (aB NW) (aA 211 (aB vT) noC))))
theorem pq:aV Tryz.prog afn:=ak (au BI) (ak (au KQ) (ak (au yI) (ak (au ZU) (ak (au JO) aC))))
theorem RB (c:Int) (ls:List (List Int)) (sum:Int) (gv:List Int) (s:St) (h:bB c ls sum s) (r:ByteArray) (y x k:Int) (hk:0≤k∧k<ls.length):
 aF Tryz.prog 172 [bdV c ls sum gv s,ddV r y x k] (.bp (qc s sum (ls.getD k.toNat []) y x)):=by
 unfold qc;refine av (md:=1) (rf:=[]) mixed aj pq Tryz.func172 (by rfl) (by rfl) (by rfl) ?_
 repeat'((conv=>whnf);first|refine Exists.intro (s) ?_|(intro hq;(try simp only[vw]at hq);try first|exact absurd hq (by decide)|exfalso;omega)|apply aI|with_reducible exact vM rfl|exact⟨⟩|apply nM|apply fM)
 all_goals((try apply vM);(try simp only[vq]at*);try omega)
 ·exact⟨h,hk⟩
 ·rw[decide_eq_true (p:=(opn s (ls.getD k.toNat []) y).length=0) (by omega),ai2];exact Sup.of rfl
 ·rw[decide_eq_false (p:=(opn s (ls.getD k.toNat []) y).length=0) (by omega),aiD];all_goals(refine Sup.via ?_;repeat'((conv=>whnf);first|intro _|apply aI|with_reducible exact vM rfl|exact⟨⟩|apply nM|apply fM);all_goals((try apply vM);(try simp only[vq]at*);try omega);all_goals(try(simp[CL.sub];done)))
theorem RD (c:Int) (ls:List (List Int)) (sum:Int) (gv:List Int) (s:St) (h:bB c ls sum s) (r:ByteArray) (y x k:Int) (hy:0≤y∧y<c):
 aF Tryz.prog 173 [bdV c ls sum gv s,ddV r y x k] (.bp (tV s y)):=by
 have hxs:=h.at hy;have hm:(ms s.cs).getD y.toNat 0=(mk (s.cd y.toNat):Nat):=fG hxs.1;have hA:=(h.asc _ hxs.1).1;have hr:=qj hA;have hlen:=dR s.cs;unfold tV;refine av (md:=1) (rf:=[]) mixed aj pq Tryz.func173 (by rfl) (by rfl) (by rfl) ?_
 repeat'((conv=>whnf);first|refine Exists.intro (s) ?_|(intro hq;(try simp only[vw]at hq);try first|exact absurd hq (by decide)|exfalso;omega)|apply aI|with_reducible exact vM rfl|exact⟨⟩|apply nM|apply fM)
 all_goals((try apply vM);(try simp only[vq]at*);try omega)
 all_goals(try rw[hm])
 all_goals(try omega)
 rw[pop_mk hA];refine Sup.of (congrArg PV.bp ?_);rw[decide_eq_decide];omega
theorem Oz (c:Int) (ls:List (List Int)) (sum:Int) (gv:List Int) (s:St) (h:bB c ls sum s) (r:ByteArray) (y x k:Int) (hx:1≤x∧x≤c):
 aF Tryz.prog 174 [bdV c ls sum gv s,ddV r y x k] (.bp (l8 s y x)):=by
 have hlen:=dR s.cs;have hc:=h.c1;have hcl:=h.cl;refine av (md:=1) (rf:=[]) mixed aj pq Tryz.func174 (by rfl) (by rfl) (by rfl) ?_
 repeat'((conv=>whnf);first|refine Exists.intro (s) ?_|(intro hq;(try simp only[vw]at hq);try first|exact absurd hq (by decide)|exfalso;omega)|apply aI|with_reducible exact vM rfl|exact⟨⟩|apply nM|apply fM)
 all_goals((try apply vM);(try simp only[vq]at*);try omega)
 conv=>whnf
 refine aJ (X:=Nat) (fun i=>i≤s.cs.length∧∀j,j<i→(decide ((j:Int)=y)||!decide (x∈s.cd j))=true) (fun i=>[(12,.int .i64 i)]) (fun i=>[]) (fun i=>s.cs.length-i) 0 ⟨aG,mixed,aj,pq,aM⟩ (by rfl) ⟨by omega,fun j hj=>by omega⟩ ?_ ?_
 ·repeat'((conv=>whnf);first|intro _|apply aI|with_reducible exact vM rfl|exact⟨⟩|apply nM|apply fM)
  all_goals((try apply vM);(try simp only[vq]at*);try omega)
 intro i ⟨hi,hok⟩;have nxt:(decide ((i:Int)=y)||!decide (x∈s.cd i))=true→∀j,j<i+1→(decide ((j:Int)=y)||!decide (x∈s.cd j))=true:=fun a j hj=>by
  by_cases e:j=i
  ·subst e;exact a
  ·exact hok j (by omega)
 by_cases hlt:i<s.cs.length
 ·have hm:(ms s.cs).getD i 0=(mk (s.cd i):Nat):=fG hlt
  have hA:=(h.asc _ hlt).1;have hr:=qj hA
  repeat'((conv=>whnf);first|refine Exists.intro (s) ?_|(intro hq;(try simp only[vw]at hq);try first|exact absurd hq (by decide)|exfalso;omega)|apply aI|with_reducible exact vM rfl|exact⟨⟩|apply nM|apply fM)
  all_goals((try apply vM);(try simp only[vq]at*);try omega)
  all_goals(try rw[hm]at hq)
  all_goals(try rw[hm])
  all_goals(try omega)
  ·rename_i h1
   rw[KS hA (by omega),decide_eq_true_eq]at hq
   have:l8 s y x=false:=by
    unfold l8;rw[List.all_eq_false];exact⟨i,ah5.2 hlt,by simp[hq];exact h1⟩
   rw[this];all_goals(refine Sup.via ?_;repeat'((conv=>whnf);first|intro _|apply aI|with_reducible exact vM rfl|exact⟨⟩|apply nM|apply fM);all_goals((try apply vM);(try simp only[vq]at*);try omega);all_goals(try(simp[CL.sub];done)))
  ·rw[KS hA (by omega),decide_eq_false_iff_not]at hq
   refine⟨i+1,[],⟨⟨by omega,nxt (by simp[hq])⟩,by omega⟩,?_⟩
   repeat'((conv=>whnf);first|intro _|apply aI|with_reducible exact vM rfl|exact⟨⟩|apply nM|apply fM)
   all_goals((try apply vM);(try simp only[vq]at*);try omega)
  ·refine⟨i+1,[],⟨⟨by omega,nxt (by simp[aha.1 hq])⟩,by omega⟩,?_⟩
   repeat'((conv=>whnf);first|intro _|apply aI|with_reducible exact vM rfl|exact⟨⟩|apply nM|apply fM)
   all_goals((try apply vM);(try simp only[vq]at*);try omega)
 ·have:l8 s y x=true:=by
   unfold l8;rw[ahP];exact fun j hj=>hok j (by have:=ah5.1 hj;omega)
  rw[this]
  repeat'((conv=>whnf);first|refine Exists.intro (s) ?_|(intro hq;(try simp only[vw]at hq);try first|exact absurd hq (by decide)|exfalso;omega)|apply aI|with_reducible exact vM rfl|exact⟨⟩|apply nM|apply fM)
  all_goals((try apply vM);(try simp only[vq]at*);try omega)
  all_goals(refine Sup.via ?_;repeat'((conv=>whnf);first|intro _|apply aI|with_reducible exact vM rfl|exact⟨⟩|apply nM|apply fM);all_goals((try apply vM);(try simp only[vq]at*);try omega);all_goals(try(simp[CL.sub];done)))
theorem rO {s:St} {l:List Int} {b x:Int} (h:x∈opn s l b):x∈l:=(aiw.1 h).1
theorem K9 {c:Int} {ls:List (List Int)} {sum:Int} {s:St} (h:bB c ls sum s) (f:List Int→Int) (hf:∀l,f l=hd0 l∨f l=ls0 l) {o:List Int} (ho:∀y∈o,0≤y∧y<c) (hn:∀y∈o,s.cd y.toNat≠[]):
 ∀i,i≤o.length→0≤(o.take i).foldl (fun a y=>a+f (s.cd y.toNat)) 0∧(o.take i).foldl (fun a y=>a+f (s.cd y.toNat)) 0≤16*i:=by
 intro i;induction i with
 |zero=>intro _;simp
 |succ i ih=>
  intro hi;have ih:=ih (by omega)
  have hy:=bK (show i<o.length by omega)
  have hxs:=h.at (ho _ hy);have hl:1≤(s.cd (o.getD i 0).toNat).length:=by
   rcases ag2 (s.cd (o.getD i 0).toNat).length with h0|h0
   ·exact absurd (ahw.1 h0) (hn _ hy)
   ·exact h0
  have hA:=(h.asc _ hxs.1).1;have h1:=hA.rng _ (o7 hl);have h2:=hA.rng _ (rG hl);rw[bX (by omega),aiF]
  simp only[List.foldl_cons,List.foldl_nil];rcases hf (s.cd (o.getD i 0).toNat)with e|e<;>rw[e]<;>omega
theorem aan {l:List Int} (h:Asc l) (hl:1≤l.length):fq (mk l)-1=ls0 l:=by
 rw[ZV h (rG hl) (Gx h.pw)];omega
theorem GQ (c:Int) (ls:List (List Int)) (sum:Int) (gv:List Int) (s:St) (h:bB c ls sum s) (r:ByteArray) (y x k:Int) (hk:0≤k∧k<ls.length) (hx:1≤x∧x≤c):
 aF Tryz.prog 175 [bdV c ls sum gv s,ddV r y x k] (.bp (tX s sum (ls.getD k.toNat []) y x)):=by
 obtain⟨o,hO⟩:∃o,opn s (ls.getD k.toNat []) y=o:=⟨_,rfl⟩;obtain⟨R,hR⟩:∃R,rst s sum (ls.getD k.toNat [])=R:=⟨_,rfl⟩;have hlen:=dR s.cs;have hc:=h.c1;have hcl:=h.cl;have hln:=h.ln k.toNat (by omega)
 have hll:=hln.len;have hsm:=h.sm;have hRb:=p9 h hln.rng _ (agh _);rw[ail,hR]at hRb;have ho:∀z∈o,0≤z∧z<c:=fun z hz=>hln.rng z (by rw[←hO]at hz;exact rO hz)
 have hol:o.length≤16:=by rw[←hO];exact ah2 (ai1 _ _) hll
 unfold tX;rw[hO,hR];refine av (md:=1) (rf:=[]) mixed aj pq Tryz.func175 (by rfl) (by rfl) (by rfl) ?_
 repeat'((conv=>whnf);first|refine Exists.intro (s) ?_|(intro hq;(try simp only[vw]at hq);try first|exact absurd hq (by decide)|exfalso;omega)|apply aI|with_reducible exact vM rfl|exact⟨⟩|apply nM|apply fM)
 all_goals((try apply vM);(try simp only[vq]at*);try omega)
 ·exact⟨h,hk⟩
 rw[hO,hR];conv=>whnf
 refine aJ (X:=Nat) (fun i=>i≤o.length∧∀z∈o.take i,s.cd z.toNat≠[]) (fun i=>[(25,.int .i64 i),(7,.int .i64 (iq s (o.take i))),(8,.int .i64 (iw s (o.take i)))]) (fun i=>[]) (fun i=>o.length-i) 0 ⟨aG,mixed,aj,pq,aM⟩ (by rfl) ⟨by omega,by simp⟩ ?_ ?_
 ·repeat'((conv=>whnf);first|intro _|apply aI|with_reducible exact vM rfl|exact⟨⟩|apply nM|apply fM)
  all_goals((try apply vM);(try simp only[vq]at*);try omega)
  all_goals rfl
 intro i ⟨hi,hok⟩;have hoi:∀z∈o.take i,0≤z∧z<c:=fun z hz=>ho z (ah6 hz);have b1:0≤iq s (o.take i)∧iq s (o.take i)≤16*i:=by
  have:=K9 h hd0 (fun _=>.inl rfl) hoi hok (o.take i).length (agh _);rw[ail,show(o.take i).length=i by rw[ag6];omega]at this
  exact this
 have b2:0≤iw s (o.take i)∧iw s (o.take i)≤16*i:=by
  have:=K9 h ls0 (fun _=>.inr rfl) hoi hok (o.take i).length (agh _);rw[ail,show(o.take i).length=i by rw[ag6];omega]at this
  exact this
 by_cases hlt:i<o.length
 ·have hy:=ho _ (bK hlt)
  have hxs:=h.at hy;have hm:(ms s.cs).getD (o.getD i 0).toNat 0=(mk (s.cd (o.getD i 0).toNat):Nat):=fG hxs.1;have hA:=(h.asc _ hxs.1).1;have hr:=qj hA;have t1:=bX hlt;have e1:iq s (o.take (i+1))=iq s (o.take i)+hd0 (s.cd (o.getD i 0).toNat):=by rw[t1];unfold iq;rw[aiF];rfl
  have e2:iw s (o.take (i+1))=iw s (o.take i)+ls0 (s.cd (o.getD i 0).toNat):=by rw[t1];unfold iw;rw[aiF];rfl
  have hne:s.cd (o.getD i 0).toNat≠[]→1≤(s.cd (o.getD i 0).toNat).length:=fun h0=>by
   rcases ag2 (s.cd (o.getD i 0).toNat).length with h1|h1
   ·exact absurd (ahw.1 h1) h0
   ·exact h1
  have hz:(mk (s.cd (o.getD i 0).toNat):Int)=0↔s.cd (o.getD i 0).toNat=[]:=by rw[←mk_zero hA.inM];omega
  repeat'((conv=>whnf);first|refine Exists.intro (s) ?_|(intro hq;(try simp only[vw]at hq);try first|exact absurd hq (by decide)|exfalso;omega)|apply aI|with_reducible exact vM rfl|exact⟨⟩|apply nM|apply fM)
  all_goals((try apply vM);(try simp only[vq]at*);try omega)
  all_goals(try rw[hm]at hq)
  all_goals(try rw[hm])
  ·have:(o.any fun y=>decide (s.cd y.toNat=[]))=true:=aiR.2 ⟨_,bK hlt,by rw[decide_eq_true_eq];exact hz.1 hq⟩
   rw[this,aiV];all_goals(refine Sup.via ?_;repeat'((conv=>whnf);first|intro _|apply aI|with_reducible exact vM rfl|exact⟨⟩|apply nM|apply fM);all_goals((try apply vM);(try simp only[vq]at*);try omega);all_goals(try(simp[CL.sub];done)))
  all_goals(have h1:=hne (fun h0=>hq (hz.2 h0));have q1:=K8 hA h1;have q2:=aan hA h1;have q3:=hA.rng _ (o7 h1);have q4:=hA.rng _ (rG h1))
  all_goals(try(first|omega|(rw[hm];omega)))
  refine⟨i+1,[],⟨⟨by omega,fun z hz2=>?_⟩,by omega⟩,?_⟩
  ·rw[t1]at hz2
   rcases agu.1 hz2 with h2|h2
   ·exact hok z h2
   ·rw[ai0.1 h2];exact fun h0=>hq (hz.2 h0)
  ·rw[e1,e2]
   repeat'((conv=>whnf);first|intro _|apply aI|with_reducible exact vM rfl|exact⟨⟩|apply nM|apply fM)
   all_goals((try apply vM);(try simp only[vq]at*);try omega)
   all_goals(try rw[hm])
   all_goals(try omega)
 ·have:i=o.length:=by omega
  subst this;rw[ail]at*;have hn:(o.any fun y=>decide (s.cd y.toNat=[]))=false:=by
   rw[aiS];intro z hz h0;exact hok z hz (of_decide_eq_true h0)
  rw[hn,aiU]
  repeat'((conv=>whnf);first|refine Exists.intro (s) ?_|(intro hq;(try simp only[vw]at hq);try first|exact absurd hq (by decide)|exfalso;omega)|apply aI|with_reducible exact vM rfl|exact⟨⟩|apply nM|apply fM)
  all_goals((try apply vM);(try simp only[vq]at*);try omega)
  all_goals(try omega)
  ·rename_i h9
   rw[decide_eq_false hq,aiU];exact Sup.of rfl
  ·rw[decide_eq_true hq,aiV];all_goals(refine Sup.via ?_;repeat'((conv=>whnf);first|intro _|apply aI|with_reducible exact vM rfl|exact⟨⟩|apply nM|apply fM);all_goals((try apply vM);(try simp only[vq]at*);try omega);all_goals(try(simp[CL.sub];done)))
def nZ (f:St→Int→List Int→Int→Int→Bool):PSp:=fun xs K=>match xs with
 | [.ip (.pv [.int .i64 c,.isl (.rows .i64 ls) .none,.int .i64 sum,.isl (.ints .i64 gv) .none,.isl (.ints .u32 M) .none,.isl (.bools D) .none]) 0,.agg [.str r,.int .i64 y,.int .i64 x,.int .i64 k]]=>∃s:St,VC (M=ms s.cs∧D=s.ds∧bB c ls sum s∧(0≤k∧k<ls.length)∧(0≤y∧y<c)∧1≤x∧x≤c)∧K (.bp (f s sum (ls.getD k.toNat []) y x))
 |_=>False
def rP (f:St→Int→Int→Bool):PSp:=fun xs K=>match xs with
 | [.ip (.pv [.int .i64 c,.isl (.rows .i64 ls) .none,.int .i64 sum,.isl (.ints .i64 gv) .none,.isl (.ints .u32 M) .none,.isl (.bools D) .none]) 0,.agg [.str r,.int .i64 y,.int .i64 x,.int .i64 k]]=>∃s:St,VC (M=ms s.cs∧D=s.ds∧bB c ls sum s∧(0≤y∧y<c)∧1≤x∧x≤c)∧K (.bp (f s y x))
 |_=>False
theorem yM {g:Nat} {f:St→Int→List Int→Int→Int→Bool} (hf:∀(c:Int) (ls:List (List Int)) (sum:Int) (gv:List Int) (s:St) (h:bB c ls sum s) (r:ByteArray) (y x k:Int) (hk:0≤k∧k<ls.length) (hy:0≤y∧y<c) (hx:1≤x∧x≤c),aF Tryz.prog g [bdV c ls sum gv s,ddV r y x k] (.bp (f s sum (ls.getD k.toNat []) y x))):POK Tryz.prog g (nZ f):=by
 intro xs K hk;unfold nZ at hk;split at hk
 ·obtain⟨s,⟨rfl,rfl,h,h1,h2,h3⟩,hk⟩:=hk
  exact⟨_,hk,hf _ _ _ _ s h _ _ _ _ h1 h2 h3⟩
 ·exact hk.elim
theorem GR {g:Nat} {f:St→Int→Int→Bool} (hf:∀(c:Int) (ls:List (List Int)) (sum:Int) (gv:List Int) (s:St) (h:bB c ls sum s) (r:ByteArray) (y x k:Int) (hy:0≤y∧y<c) (hx:1≤x∧x≤c),aF Tryz.prog g [bdV c ls sum gv s,ddV r y x k] (.bp (f s y x))):POK Tryz.prog g (rP f):=by
 intro xs K hk;unfold rP at hk;split at hk
 ·obtain⟨s,⟨rfl,rfl,h,h2,h3⟩,hk⟩:=hk
  exact⟨_,hk,hf _ _ _ _ s h _ _ _ _ h2 h3⟩
 ·exact hk.elim
theorem aao:POK Tryz.prog 172 (nZ qc):=yM fun c ls sum gv s h r y x k hk hy hx=>RB c ls sum gv s h r y x k hk
theorem aap:POK Tryz.prog 173 (rP fun s y x=>tV s y):=GR fun c ls sum gv s h r y x k hy hx=>RD c ls sum gv s h r y x k hy
theorem UM:POK Tryz.prog 174 (rP l8):=GR fun c ls sum gv s h r y x k hy hx=>Oz c ls sum gv s h r y x k hx
theorem OA:POK Tryz.prog 175 (nZ tX):=yM fun c ls sum gv s h r y x k hk hy hx=>GQ c ls sum gv s h r y x k hk hx
abbrev X4:PV:=.fn (.func 212) [] [.rp 0 0,.rp 1 0,.rp 2 0]
abbrev adt (c:Int) (ls:List (List Int)) (sum:Int) (gv:List Int) (s:St) (o:List Int):List AO:=[.cells (.pv [.isl (.ints .i64 o) .none]) false,.cells (.pv [bdV c ls sum gv s]) false,.cells (.pv [X4]) false]
structure X5 (c:Int) (ls:List (List Int)) (sum:Int) (s:St) (o:List Int) (a:Nat) (used:List Int) (R:Int):Prop where
 bd:bB c ls sum s
 rng:∀z∈o,0≤z∧z<c
 le:a≤o.length∧o.length≤16
 us:InM used
 bnd: -2000000000+16*((o.length:Int)-a)≤R∧R≤2000000000
def BJ (c:Int) (ls:List (List Int)) (sum:Int) (gv:List Int) (s:St) (o:List Int) (a0:Nat):LSp:=fun xs objs K=>match xs,objs with
 | [.int .i64 a,.int .u32 m,.int .i64 R,.rp 0 0,.rp 1 0,.rp 2 0],[.cells (.pv [.isl (.ints .i64 o') .none]) false,.cells (.pv [p]) false,.cells (.pv [f]) false]=>
  ∃used:List Int,VC (a=(a0:Int)∧m=(mk used:Nat)∧o'=o∧p=bdV c ls sum gv s∧f=X4∧X5 c ls sum s o a0 used R)∧K [.bp (chs s (o.drop a0) used R)] [.cells (.pv [.isl (.ints .i64 o') .none]) false,.cells (.pv [p]) false,.cells (.pv [f]) false]
 |_,_=>False
noncomputable def aes (L:LSp):CPT:=aA 149 (aB Ag) (aA 212 (eG [] L) noC)
theorem RF (c:Int) (ls:List (List Int)) (sum:Int) (gv:List Int) (s:St) (o:List Int):∀(d a:Nat) (used:List Int) (R:Int),o.length-a=d→X5 c ls sum s o a used R→
 jM Tryz.prog 212 [.int .i64 (a:Int),.int .u32 (mk used:Nat),.int .i64 R,.rp 0 0,.rp 1 0,.rp 2 0] (adt c ls sum gv s o) [.bp (chs s (o.drop a) used R)] (adt c ls sum gv s o):=by
 intro d;induction d with
 |zero=>
  intro a used R hd h;have hle:=h.le;have:a=o.length:=by omega
  subst this;rw[aiT];refine bL (md:=1) (rf:=[]) mixed aj aC 3 [] Tryz.func212 (by rfl) (by rfl) (by rfl) ?_
  repeat'((conv=>whnf);first|(intro hq;(try simp only[vw]at hq);try first|exact absurd hq (by decide)|exfalso;omega)|apply aI|with_reducible exact vM rfl|exact⟨⟩|apply nM|apply fM)
  all_goals((try apply vM);(try simp only[vq]at*);try omega)
 |succ d ih=>
  intro a used R hd h;have hle:=h.le;have hlt:a<o.length:=by omega
  have hL:LOK Tryz.prog 212 (BJ c ls sum gv s o (a+1)):=by
   intro xs objs K hk;unfold BJ at hk;split at hk
   ·obtain⟨u,⟨rfl,rfl,rfl,rfl,rfl,h1⟩,hk⟩:=hk
    exact⟨_,_,hk,ih (a+1) u _ (by omega) h1⟩
   ·exact hk.elim
  have hcp:aV Tryz.prog (aes (BJ c ls sum gv s o (a+1))):=ak (au BF) (ak (dF [] hL) aC);have hbd:=h.bnd;have hy:=h.rng _ (bK hlt);have hxs:=h.bd.at hy;have hm:(ms s.cs).getD (o.getD a 0).toNat 0=(mk (s.cd (o.getD a 0).toNat):Nat):=fG hxs.1;have hA:=(h.bd.asc _ hxs.1).1;have hlen:=dR s.cs;obtain⟨C,hC⟩:∃C,(s.cd (o.getD a 0).toNat).filter (fun x=>!decide (x∈used))=C:=⟨_,rfl⟩;have hCA:Asc C:=by rw[←hC];exact hA.filter _
  have hnot:=QX hA.inM h.us;rw[hC]at hnot;have hch:chs s (o.drop a) used R=C.any fun x=>chs s (o.drop (a+1)) (used++[x]) (R-x):=by rw[drop_cons hlt,chs,hC]
  rw[hch];refine bL (md:=1) (rf:=[]) mixed aj hcp 3 [] Tryz.func212 (by rfl) (by rfl) (by rfl) ?_
  repeat'((conv=>whnf);first|(intro hq;(try simp only[vw]at hq);try first|exact absurd hq (by decide)|exfalso;omega)|apply aI|with_reducible exact vM rfl|exact⟨⟩|apply nM|apply fM)
  all_goals((try apply vM);(try simp only[vq]at*);try omega)
  all_goals(try omega)
  rw[hm,hnot];conv=>whnf
  refine ji aG mixed aj hcp (fun r=>aM) (fs:=[]) (cs:=[.ip (.pv [.int .u32 (mk C:Nat)]) 0]) (C.map (PV.int .i64)) (fun i=>!chs s (o.drop (a+1)) (used++[C.getD i 0]) (R-C.getD i 0)) (fun i=>[]) (by rfl) (by rfl) (by rfl) (jY C hCA) (by rfl) (by rfl) (by rfl) (by rfl) ?_ ?_ ?_
  ·repeat'((conv=>whnf);first|intro _|apply aI|with_reducible exact vM rfl|exact⟨⟩|apply nM|apply fM)
   all_goals((try apply vM);(try simp only[vq]at*);try omega)
  ·intro hall
   repeat'((conv=>whnf);first|intro _|apply aI|with_reducible exact vM rfl|exact⟨⟩|apply nM|apply fM)
   all_goals((try apply vM);(try simp only[vq]at*);try omega)
   rw[eq_comm,aiS];intro x hx h1;obtain⟨i,hi,rfl⟩:=(dA C x).1 hx;have:=hall i (by rw[aif];exact hi)
   rw[h1]at this;cases this
  ·intro i x hx hall lp
   obtain⟨hi,rfl⟩:=o8 hx;have hxC:=bK hi;have hxr:=hCA.rng _ hxC;have hor:=NT h.us (show 0≤C.getD i 0∧C.getD i 0≤31 by omega)
   have hus:InM (used++[C.getD i 0]):=fun z hz=>by
    rcases agu.1 hz with h1|h1
    ·exact h.us z h1
    ·rw[ai0.1 h1];omega
   have hsb:=kU (C.getD i 0).toNat (by omega)
   repeat'((conv=>whnf);first|refine Exists.intro (used++[C.getD i 0]) ?_|(intro hq;(try simp only[vw]at hq);try first|exact absurd hq (by decide)|exfalso;omega)|apply aI|with_reducible exact vM rfl|exact⟨⟩|apply nM|apply fM)
   all_goals((try apply vM);(try simp only[vq]at*);try omega)
   all_goals(try omega)
   ·exact⟨by omega,hor,h.bd,h.rng,by omega,hus,by omega⟩
   ·rw[hq];rfl
   ·symm
    rw[aiR];exact⟨_,hxC,hq⟩
   ·refine⟨[],?_⟩
    repeat'((conv=>whnf);first|intro _|apply aI|with_reducible exact vM rfl|exact⟨⟩|apply nM|apply fM)
    all_goals((try apply vM);(try simp only[vq]at*);try omega)
    all_goals(try(rw[hq];rfl))
theorem adu (c:Int) (ls:List (List Int)) (sum:Int) (gv:List Int) (s:St) (o:List Int) (a:Nat):LOK Tryz.prog 212 (BJ c ls sum gv s o a):=by
 intro xs objs K hk;unfold BJ at hk;split at hk
 ·obtain⟨u,⟨rfl,rfl,rfl,rfl,rfl,h1⟩,hk⟩:=hk
  exact⟨_,_,hk,RF _ _ _ _ _ _ _ _ u _ rfl h1⟩
 ·exact hk.elim
theorem Ao (c:Int) (ls:List (List Int)) (sum:Int) (gv:List Int) (s:St) (h:bB c ls sum s) (r:ByteArray) (y x k:Int) (hk:0≤k∧k<ls.length) (hx:1≤x∧x≤c):
 aF Tryz.prog 176 [bdV c ls sum gv s,ddV r y x k] (.bp (qd s sum (ls.getD k.toNat []) y x)):=by
 have hln:=h.ln k.toNat (by omega)
 have hll:=hln.len;have hsm:=h.sm;have hc:=h.c1;have hRb:=p9 h hln.rng _ (agh _);rw[ail]at hRb;have ho:∀z∈(opn s (ls.getD k.toNat []) y),0≤z∧z<c:=fun z hz=>hln.rng z (rO hz);have hol:(opn s (ls.getD k.toNat []) y).length≤16:=ah2 (ai1 _ _) hll;have hone:(1:Int)*2 ^ x.toNat=((mk [x]:Nat):Int):=by rw[mk_one,ais];norm_cast
 have hsb:=kU x.toNat (by omega)
 have hcp:aV Tryz.prog (aA 151 (aB Am) (aA 212 (eG [] (BJ c ls sum gv s (opn s (ls.getD k.toNat []) y) 0)) noC)):=ak (au BI) (ak (dF [] (adu c ls sum gv s (opn s (ls.getD k.toNat []) y) 0)) aC);unfold qd;refine av (md:=1) (rf:=[20]) mixed aj hcp Tryz.func176 (by rfl) (by rfl) (by rfl) ?_
 repeat'((conv=>whnf);first|refine Exists.intro (s) ?_|(intro hq;(try simp only[vw]at hq);try first|exact absurd hq (by decide)|exfalso;omega)|apply aI|with_reducible exact vM rfl|exact⟨⟩|apply nM|apply fM)
 all_goals((try apply vM);(try simp only[vq]at*);try omega)
 ·exact⟨h,hk⟩
 ·rw[decide_eq_false (p:=(opn s (ls.getD k.toNat []) y).length<4) (by omega),aiD];all_goals(refine Sup.via ?_;repeat'((conv=>whnf);first|intro _|apply aI|with_reducible exact vM rfl|exact⟨⟩|apply nM|apply fM);all_goals((try apply vM);(try simp only[vq]at*);try omega);all_goals(try(simp[CL.sub];done)))
 all_goals(try omega)
 repeat'((conv=>whnf);first|refine Exists.intro ([x]) ?_|(intro hq;(try simp only[vw]at hq);try first|exact absurd hq (by decide)|exfalso;omega)|apply aI|with_reducible exact vM rfl|exact⟨⟩|apply nM|apply fM)
 all_goals((try apply vM);(try simp only[vq]at*);try omega)
 ·refine⟨rfl,hone,h,ho,by omega,fun z hz=>?_,by omega⟩
  rw[ai0.1 hz];omega
 ·rw[decide_eq_true (p:=(opn s (ls.getD k.toNat []) y).length<4) (by omega),ai2];exact Sup.of rfl
theorem Ee:POK Tryz.prog 176 (nZ qd):=yM fun c ls sum gv s h r y x k hk hy hx=>Ao c ls sum gv s h r y x k hk hx
theorem cu (b:Bool):Sup (bG [PV.bool b]) (PV.bp b):=⟨fun h=>by cases h;exact .bp _ _⟩
noncomputable def afo:CPT:=aA 150 (aB Oc) (aA 151 (aB Am) noC)
theorem BK:aV Tryz.prog afo:=ak (au Z7) (ak (au BI) aC)
theorem RG (cs:List (List Int)) (i:Nat) (hi:i<cs.length):(cs.take (i+1)).flatten=(cs.take i).flatten++cs.getD i []:=by
 have e:cs.take (i+1)=cs.take i++[cs.getD i []]:=by rw[aij,agt,agy hi];rfl
 rw[e,List.flatten_append];simp
theorem yN {c:Int} (hc:1≤c∧c≤16):(1:Int)*2 ^ (c+1).toNat-2=(mk ((agr c.toNat).map fun i:Nat=>(i:Int)+1):Nat):=by
 obtain rfl|rfl|rfl|rfl|rfl|rfl|rfl|rfl|rfl|rfl|rfl|rfl|rfl|rfl|rfl|rfl:c=1∨c=2∨c=3∨c=4∨c=5∨c=6∨c=7∨c=8∨c=9∨c=10∨c=11∨c=12∨c=13∨c=14∨c=15∨c=16:=by omega
 all_goals decide
theorem aaq {c:Int} {ls:List (List Int)} {sum:Int} {s:St} (h:bB c ls sum s):((agr c.toNat).all fun i=>s.cs.any fun l=>decide (((i:Int)+1)∈l))=decide ((mk s.cs.flatten:Int)=1*2 ^ (c+1).toNat-2):=by
 have hc:=h.c1;have hfl:∀x∈s.cs.flatten,1≤x∧x≤c:=fun x hx=>by
  obtain⟨l,hl,hx⟩:=ai3.1 hx;obtain⟨j,hj,rfl⟩:=agx hl;have h1:=h.asc j hj;have e:s.cd j=s.cs[j]:=by unfold St.cd;rw[agt,agy hj];rfl
  rw[e]at h1;exact⟨(h1.1.rng x hx).1,h1.2 x hx⟩
 have hR:∀x,x∈(agr c.toNat).map (fun i:Nat=>(i:Int)+1)↔1≤x∧x≤c:=fun x=>by
  rw[List.mem_map];constructor
  ·rintro⟨i,hi,rfl⟩;have:=ah5.1 hi;omega
  ·intro hx;exact⟨(x-1).toNat,ah5.2 (by omega),by omega⟩
 rw[yN hc,aio,ahP,decide_eq_true_eq,Int.natCast_inj];constructor
 ·intro hA
  refine adi (fun x hx=>by have:=hfl x hx;omega) (fun x hx=>by have:=(hR x).1 hx;omega) fun x=>?_
  rw[hR];refine⟨hfl x,fun hx=>?_⟩;have:=hA (x-1).toNat (ah5.2 (by omega))
  obtain⟨l,hl,hm⟩:=aiR.1 this;rw[decide_eq_true_eq,show(((x-1).toNat:Nat):Int)+1=x by omega]at hm
  exact ai3.2 ⟨l,hl,hm⟩
 ·intro hE i hi
  have hi:=ah5.1 hi;have:=(mk_inj (fun x hx=>by have:=hfl x hx;omega) (fun x hx=>by have:=(hR x).1 hx;omega) hE ((i:Int)+1)).2 ((hR _).2 (by omega))
  obtain⟨l,hl,hm⟩:=ai3.1 this;exact aiR.2 ⟨l,hl,decide_eq_true hm⟩
theorem aar {c:Int} {ls:List (List Int)} {sum:Int} {s:St} (h:bB c ls sum s):((ms s.cs).any fun y=>decide (0=y))=s.cs.any fun l=>decide (l=[]):=by
 unfold ms;rw[List.any_map,aio,aiR,aiR];have hA:∀l∈s.cs,Asc l:=fun l hl=>by
  obtain⟨j,hj,rfl⟩:=agx hl;have h1:=(h.asc j hj).1;unfold St.cd at h1;rw[agt,agy hj]at h1;exact h1
 constructor
 ·rintro⟨l,hl,h1⟩
  simp only[Function.comp,decide_eq_true_eq]at h1;exact⟨l,hl,decide_eq_true ((mk_zero (hA l hl).inM).1 (by omega))⟩
 ·rintro⟨l,hl,h1⟩
  refine⟨l,hl,?_⟩;simp only[Function.comp,decide_eq_true_eq]at h1⊢;have:=(mk_zero (hA l hl).inM).2 h1;omega
def lbk (sum:Int) (s:St) (l:List Int):Bool:=decide ((opn s l (-1)).length=0)&&decide (rst s sum l≠0)
theorem JX (c:Int) (ls:List (List Int)) (sum:Int) (gv:List Int) (s:St) (h:bB c ls sum s):aF Tryz.prog 90 [bdV c ls sum gv s] (.bp (brk c ls sum s)):=by
 have hc:=h.c1;have hcl:=h.cl;have hlen:=dR s.cs;have hll:=h.ll;have hsb:=kU (c+1).toNat (by omega)
 have ham:=yN hc;have hin:∀i,i≤s.cs.length→InM (s.cs.take i).flatten:=fun i hi x hx=>by
  obtain⟨l,hl,hx⟩:=ai3.1 hx;obtain⟨j,hj,rfl⟩:=agx (ah6 hl);have:=(h.asc j hj).1.rng x (by unfold St.cd;rw[agt,agy hj];exact hx)
  omega
 refine av (md:=1) (rf:=[]) mixed aj BK Tryz.func90 (by rfl) (by rfl) (by rfl) ?_
 repeat'((conv=>whnf);first|refine Exists.intro (s) ?_|(intro hq;(try simp only[vw]at hq);try first|exact absurd hq (by decide)|exfalso;omega)|apply aI|with_reducible exact vM rfl|exact⟨⟩|apply nM|apply fM)
 all_goals((try apply vM);(try simp only[vq]at*);try omega)
 conv=>whnf
 refine aJ (X:=Nat) (fun i=>i≤s.cs.length) (fun i=>[(14,.int .i64 i),(3,.int .u32 (mk (s.cs.take i).flatten:Nat))]) (fun i=>[]) (fun i=>s.cs.length-i) 0 ⟨aG,mixed,aj,BK,aM⟩ (by rfl) (by omega) ?_ ?_
 ·repeat'((conv=>whnf);first|intro _|apply aI|with_reducible exact vM rfl|exact⟨⟩|apply nM|apply fM)
  all_goals((try apply vM);(try simp only[vq]at*);try omega)
  all_goals rfl
 intro i hi;by_cases hlt:i<s.cs.length
 ·have hm:(ms s.cs).getD i 0=(mk (s.cd i):Nat):=fG hlt
  have hA:=(h.asc _ hlt).1;have hor:=adk (hin i hi) hA.inM;have e1:=RG s.cs i hlt
  repeat'((conv=>whnf);first|refine Exists.intro (s) ?_|(intro hq;(try simp only[vw]at hq);try first|exact absurd hq (by decide)|exfalso;omega)|apply aI|with_reducible exact vM rfl|exact⟨⟩|apply nM|apply fM)
  all_goals((try apply vM);(try simp only[vq]at*);try omega)
  refine⟨i+1,[],⟨by omega,by omega⟩,?_⟩
  rw[e1]
  repeat'((conv=>whnf);first|intro _|apply aI|with_reducible exact vM rfl|exact⟨⟩|apply nM|apply fM)
  all_goals((try apply vM);(try simp only[vq]at*);try omega)
  all_goals(rw[hm];exact hor)
 ·have:i=s.cs.length:=by omega
  subst this;rw[ail];have a1:=aaq h;have a2:=aar h
  repeat'((conv=>whnf);first|refine Exists.intro (s) ?_|(intro hq;(try simp only[vw]at hq);try first|exact absurd hq (by decide)|exfalso;omega)|apply aI|with_reducible exact vM rfl|exact⟨⟩|apply nM|apply fM)
  all_goals((try apply vM);(try simp only[vq]at*);try omega)
  all_goals(try omega)
  ·rename_i h1
   rw[decide_eq_true (aha.1 h1)]at a1;rw[hq]at a2;have hb:brk c ls sum s=true:=by unfold brk;rw[a1,←a2];rfl
   rw[hb];exact cu _
  ·rename_i h1
   rw[decide_eq_true (aha.1 h1)]at a1;rw[hq]at a2;have hb:brk c ls sum s=ls.any (lbk sum s):=by
    unfold brk;rw[a1,←a2];rfl
   rw[hb];conv=>whnf
   refine aJ (X:=Nat) (fun i=>i≤ls.length∧∀j,j<i→lbk sum s (ls.getD j [])=false) (fun i=>[(47,.int .i64 i)]) (fun i=>[]) (fun i=>ls.length-i) 0 ⟨aG,mixed,aj,BK,aM⟩ (by rfl) ⟨by omega,fun j hj=>by omega⟩ ?_ ?_
   ·repeat'((conv=>whnf);first|intro _|apply aI|with_reducible exact vM rfl|exact⟨⟩|apply nM|apply fM)
    all_goals((try apply vM);(try simp only[vq]at*);try omega)
   intro i ⟨hi,hok⟩;have nxt:lbk sum s (ls.getD i [])=false→∀j,j<i+1→lbk sum s (ls.getD j [])=false:=fun a j hj=>by
    by_cases e:j=i
    ·subst e;exact a
    ·exact hok j (by omega)
   by_cases hlt:i<ls.length
   ·repeat'((conv=>whnf);first|refine Exists.intro (s) ?_|(intro hq;(try simp only[vw]at hq);try first|exact absurd hq (by decide)|exfalso;omega)|apply aI|with_reducible exact vM rfl|exact⟨⟩|apply nM|apply fM)
    all_goals((try apply vM);(try simp only[vq]at*);try omega)
    ·exact⟨h,by omega,by omega⟩
    ·rename_i h2
     have:ls.any (lbk sum s)=true:=aiR.2 ⟨_,iW hlt,by unfold lbk;rw[decide_eq_true (p:=(opn s (ls.getD i []) (-1)).length=0) (by omega),decide_eq_true hq];rfl⟩
     rw[this];exact cu _
    ·refine⟨i+1,[],⟨⟨by omega,nxt (by unfold lbk;rw[decide_eq_false hq,aix])⟩,by omega⟩,?_⟩
     repeat'((conv=>whnf);first|intro _|apply aI|with_reducible exact vM rfl|exact⟨⟩|apply nM|apply fM)
     all_goals((try apply vM);(try simp only[vq]at*);try omega)
    ·refine⟨i+1,[],⟨⟨by omega,nxt (by unfold lbk;rw[decide_eq_false (p:=(opn s (ls.getD i []) (-1)).length=0) (by omega),aiD])⟩,by omega⟩,?_⟩
     repeat'((conv=>whnf);first|intro _|apply aI|with_reducible exact vM rfl|exact⟨⟩|apply nM|apply fM)
     all_goals((try apply vM);(try simp only[vq]at*);try omega)
   ·have:i=ls.length:=by omega
    subst this;have:ls.any (lbk sum s)=false:=by
     rw[aiS];intro l hl;obtain⟨j,hj,rfl⟩:=agx hl;have:=hok j hj;rw[agt,agy hj]at this;rw[show lbk sum s ls[j]=false from this];simp
    rw[this]
    repeat'((conv=>whnf);first|refine Exists.intro (s) ?_|(intro hq;(try simp only[vw]at hq);try first|exact absurd hq (by decide)|exfalso;omega)|apply aI|with_reducible exact vM rfl|exact⟨⟩|apply nM|apply fM)
    all_goals((try apply vM);(try simp only[vq]at*);try omega)
    exact cu _
  ·rw[decide_eq_false hq]at a1
   have hb:brk c ls sum s=true:=by unfold brk;rw[a1];rfl
   rw[hb];exact cu _
def qO (f:Int→List (List Int)→Int→St→Bool):PSp:=fun xs K=>match xs with
 | [.ip (.pv [.int .i64 c,.isl (.rows .i64 ls) .none,.int .i64 sum,.isl (.ints .i64 gv) .none,.isl (.ints .u32 M) .none,.isl (.bools D) .none]) 0]=>∃s:St,VC (M=ms s.cs∧D=s.ds∧bB c ls sum s)∧K (.bp (f c ls sum s))
 |_=>False
theorem La {g:Nat} {f:Int→List (List Int)→Int→St→Bool} (hf:∀(c:Int) (ls:List (List Int)) (sum:Int) (gv:List Int) (s:St) (h:bB c ls sum s),aF Tryz.prog g [bdV c ls sum gv s] (.bp (f c ls sum s))):POK Tryz.prog g (qO f):=by
 intro xs K hk;unfold qO at hk;split at hk
 ·obtain⟨s,⟨rfl,rfl,h⟩,hk⟩:=hk
  exact⟨_,hk,hf _ _ _ _ s h⟩
 ·exact hk.elim
theorem Dn:POK Tryz.prog 90 (qO brk):=La fun c ls sum gv s h=>JX c ls sum gv s h
noncomputable def afp:CPT:=aA 152 (aB N7) noC
theorem aas:aV Tryz.prog afp:=ak (au ZY) aC
theorem RH (c:Int) (ls:List (List Int)) (sum:Int) (gv:List Int) (s:St) (h:bB c ls sum s):aF Tryz.prog 91 [bdV c ls sum gv s] (.bp (don s)):=by
 have hc:=h.c1;have hdl:=h.dl;unfold don;refine av (md:=1) (rf:=[]) mixed aj aas Tryz.func91 (by rfl) (by rfl) (by rfl) ?_
 repeat'((conv=>whnf);first|refine Exists.intro (s) ?_|(intro hq;(try simp only[vw]at hq);try first|exact absurd hq (by decide)|exfalso;omega)|apply aI|with_reducible exact vM rfl|exact⟨⟩|apply nM|apply fM)
 all_goals((try apply vM);(try simp only[vq]at*);try omega)
 exact Sup.of (congrArg (fun f=>PV.bp (!s.ds.any f)) (funext fun b=>by cases b<;>rfl))
theorem Lb:POK Tryz.prog 91 (qO fun _ _ _ s=>don s):=La fun c ls sum gv s h=>RH c ls sum gv s h
theorem RI (l:List Bool) (hl:1≤l.length∧l.length≤1000000):aF Tryz.prog 147 [.isl (.bools l) .none] (.isl (.bools l) .none):=by
 refine av (md:=1) (rf:=[]) mixed aj aC Tryz.func147 (by rfl) (by rfl) (by rfl) ?_
 repeat'((conv=>whnf);first|intro _|apply aI|with_reducible exact vM rfl|exact⟨⟩|apply nM|apply fM)
 all_goals((try apply vM);(try simp only[vq]at*);try omega)
 all_goals first|(simp;omega)|exact Sup.of rfl
def OB:PSp:=fun xs K=>match xs with
 | [.isl (.bools l) .none]=>VC (1≤l.length∧l.length≤1000000)∧K (.isl (.bools l) .none)
 |_=>False
theorem aat:POK Tryz.prog 147 OB:=by
 intro xs K h;unfold OB at h;split at h
 ·exact⟨_,h.2,RI _ h.1.get⟩
 ·exact h.elim
noncomputable def afq:CPT:=aA 147 (aB OB) (aA 148 (aB Oa) (aA 149 (aB Ag) noC))
theorem Lc:aV Tryz.prog afq:=ak (au aat) (ak (au Z4) (ak (au BF) aC))
abbrev stV (s:St):PV:=.agg [.isl (.rows .i64 s.cs) .none,.isl (.bools s.ds) .none]
theorem OC (c:Int) (ls:List (List Int)) (sum:Int) (gv:List Int) (s:St) (h:bB c ls sum s):aF Tryz.prog 87 [bdV c ls sum gv s] (stV s):=by
 have hc:=h.c1;have hcl:=h.cl;have hdl:=h.dl;have hlen:=dR s.cs;refine av (md:=1) (rf:=[]) mixed aj Lc Tryz.func87 (by rfl) (by rfl) (by rfl) ?_
 repeat'((conv=>whnf);first|intro _|apply aI|with_reducible exact vM rfl|exact⟨⟩|apply nM|apply fM)
 all_goals((try apply vM);(try simp only[vq]at*);try omega)
 conv=>whnf
 refine aJ (X:=Nat) (fun i=>i≤s.cs.length) (fun i=>[(17,.int .i64 i)]) (fun i=>[(5,.cells (.pv [.isl (.rows .i64 (s.cs.take i)) (.own 9),.isl (.bools s.ds) .none]) false),(9,.tok 1 i)]) (fun i=>s.cs.length-i) 0 ⟨aG,mixed,aj,Lc,aM⟩ (by rfl) (by omega) ?_ ?_
 ·repeat'((conv=>whnf);first|intro _|apply aI|with_reducible exact vM rfl|exact⟨⟩|apply nM|apply fM)
  all_goals((try apply vM);(try simp only[vq]at*);try omega)
 intro i hi;by_cases hlt:i<s.cs.length
 ·have hm:(ms s.cs).getD i 0=(mk (s.cd i):Nat):=fG hlt
  have hA:=(h.asc _ hlt).1;have e1:(s.cs.take i).length=i:=by rw[ag6];omega
  have e2:s.cs.take i++[s.cd i]=s.cs.take (i+1):=by
   unfold St.cd;rw[aij,agt,agy hlt];rfl
  repeat'((conv=>whnf);first|refine Exists.intro (s.cd i) ?_|(intro hq;(try simp only[vw]at hq);try first|exact absurd hq (by decide)|exfalso;omega)|apply aI|with_reducible exact vM rfl|exact⟨⟩|apply nM|apply fM)
  all_goals((try apply vM);(try simp only[vq]at*);try omega)
  all_goals(try(simp only[ahx,ag6,agb,af7];omega))
  ·exact⟨hm,hA⟩
  refine⟨i+1,[],⟨by omega,by omega⟩,?_⟩
  repeat'((conv=>whnf);first|intro _|apply aI|with_reducible exact vM rfl|exact⟨⟩|apply nM|apply fM)
  all_goals((try apply vM);(try simp only[vq]at*);try omega)
  all_goals(try(rw[e2]))
 ·have:i=s.cs.length:=by omega
  subst this;rw[ail]
  repeat'((conv=>whnf);first|intro _|apply aI|with_reducible exact vM rfl|exact⟨⟩|apply nM|apply fM)
  all_goals((try apply vM);(try simp only[vq]at*);try omega)
  exact Sup.of rfl
def GU:PSp:=fun xs K=>match xs with
 | [.ip (.pv [.int .i64 c,.isl (.rows .i64 ls) .none,.int .i64 sum,.isl (.ints .i64 gv) .none,.isl (.ints .u32 M) .none,.isl (.bools D) .none]) 0]=>∃s:St,VC (M=ms s.cs∧D=s.ds∧bB c ls sum s)∧K (stV s)
 |_=>False
theorem UN:POK Tryz.prog 87 GU:=by
 intro xs K hk;unfold GU at hk;split at hk
 ·obtain⟨s,⟨rfl,rfl,h⟩,hk⟩:=hk
  exact⟨_,hk,OC _ _ _ _ s h⟩
 ·exact hk.elim
abbrev ug:ByteArray:=⟨#[]⟩
abbrev bM:ByteArray:=⟨#[108,97,115,116]⟩
abbrev bV:ByteArray:=⟨#[111,110,108,121]⟩
abbrev bW:ByteArray:=⟨#[112,108,97,99,101]⟩
abbrev bT:ByteArray:=⟨#[114,97,110,103,101]⟩
abbrev bU:ByteArray:=⟨#[99,104,111,105,99,101]⟩
abbrev kF (k:Nat):PV:=.fn (.func k) [] []
abbrev UO:PV:=.agg [.str ug,.bool false,.bool false,.nilf,.str bM,.bool true,.bool true,kF 172,.str bV,.bool true,.bool false,kF 173,.str bW,.bool true,.bool false,kF 174,.str bT,.bool false,.bool true,kF 175,.str bU,.bool false,.bool true,kF 176]
theorem OD:aF Tryz.prog 130 [] UO:=by
 refine av (md:=1) (rf:=[]) mixed aj aC Tryz.func130 (by rfl) (by rfl) (by rfl) ?_
 repeat'((conv=>whnf);first|intro _|apply aI|with_reducible exact vM rfl|exact⟨⟩|apply nM|apply fM)
 all_goals((try apply vM);(try simp only[vq]at*);try omega)
 all_goals exact Sup.of (show(UO:PV)=_ from rfl)
def qp:PSp:=fun xs K=>match xs with
 | []=>VC (True)∧K (UO)
 |_=>False
theorem qw:POK Tryz.prog 130 qp:=by
 intro xs K h;unfold qp at h;split at h
 ·exact⟨_,h.2,OD⟩
 ·exact h.elim
def aQ (r:ByteArray):Int:=if r=bM then 1 else if r=bV then 2 else if r=bW then 3 else if r=bT then 4 else if r=bU then 5 else 0
noncomputable def afr:CPT:=aA 130 (aB qp) noC
theorem Ld:aV Tryz.prog afr:=ak (au qw) aC
def nmG:Nat→ByteArray
 |1=>bM
 |2=>bV
 |3=>bW
 |4=>bT
 |5=>bU
 |_=>ug
theorem jO:aQ (nmG 1)=1∧aQ (nmG 2)=2∧aQ (nmG 3)=3∧aQ (nmG 4)=4∧aQ (nmG 5)=5:=by decide
theorem Le {r:ByteArray} (h:∀j,0<j→j<6→nmG j≠r):aQ r=0:=by
 unfold aQ;rw[if_neg (fun e=>h 1 (by omega) (by omega) e.symm),if_neg (fun e=>h 2 (by omega) (by omega) e.symm),if_neg (fun e=>h 3 (by omega) (by omega) e.symm),if_neg (fun e=>h 4 (by omega) (by omega) e.symm),if_neg (fun e=>h 5 (by omega) (by omega) e.symm)]
theorem nA (r:ByteArray):(r=bM∧aQ r=1)∨(r=bV∧aQ r=2)∨(r=bW∧aQ r=3)∨(r=bT∧aQ r=4)∨(r=bU∧aQ r=5)∨aQ r=0:=by
 by_cases h1:r=bM
 ·subst h1;exact .inl ⟨rfl,jO.1⟩
 by_cases h2:r=bV
 ·subst h2;exact .inr (.inl ⟨rfl,jO.2.1⟩)
 by_cases h3:r=bW
 ·subst h3;exact .inr (.inr (.inl ⟨rfl,jO.2.2.1⟩))
 by_cases h4:r=bT
 ·subst h4;exact .inr (.inr (.inr (.inl ⟨rfl,jO.2.2.2.1⟩)))
 by_cases h5:r=bU
 ·subst h5;exact .inr (.inr (.inr (.inr (.inl ⟨rfl,jO.2.2.2.2⟩))))
 refine .inr (.inr (.inr (.inr (.inr ?_))));unfold aQ;rw[if_neg h1,if_neg h2,if_neg h3,if_neg h4,if_neg h5]
theorem OE (r:ByteArray):aF Tryz.prog 101 [.str r] (.int .i64 (aQ r)):=by
 have hs:EG.size=4:=rfl;have hn:=jO;refine av (md:=1) (rf:=[]) mixed aj Ld Tryz.func101 (by rfl) (by rfl) (by rfl) ?_
 repeat'((conv=>whnf);first|intro _|apply aI|with_reducible exact vM rfl|exact⟨⟩|apply nM|apply fM)
 all_goals((try apply vM);(try simp only[vq]at*);try omega)
 conv=>whnf
 refine aJ (X:=Nat) (fun i=>i≤6∧∀j,0<j→j<i→nmG j≠r) (fun i=>[(6,.int .i64 i)]) (fun i=>[]) (fun i=>6-i) 0 ⟨aG,mixed,aj,Ld,aM⟩ (by rfl) ⟨by omega,fun j h0 hj=>by omega⟩ ?_ ?_
 ·repeat'((conv=>whnf);first|intro _|apply aI|with_reducible exact vM rfl|exact⟨⟩|apply nM|apply fM)
  all_goals((try apply vM);(try simp only[vq]at*);try omega)
 intro i ⟨hi,hok⟩;obtain rfl|rfl|rfl|rfl|rfl|rfl|rfl:i=0∨i=1∨i=2∨i=3∨i=4∨i=5∨i=6:=by omega
 ·repeat'((conv=>whnf);first|(intro hq;(try simp only[vw]at hq);try first|exact absurd hq (by decide)|exfalso;omega)|apply aI|with_reducible exact vM rfl|exact⟨⟩|apply nM|apply fM)
  all_goals((try apply vM);(try simp only[vq]at*);try omega)
  all_goals(try omega)
  refine⟨0+1,[],⟨⟨by omega,fun j h0 hj=>by omega⟩,by omega⟩,?_⟩
  repeat'((conv=>whnf);first|intro _|apply aI|with_reducible exact vM rfl|exact⟨⟩|apply nM|apply fM)
  all_goals((try apply vM);(try simp only[vq]at*);try omega)
 ·repeat'((conv=>whnf);first|(intro hq;(try simp only[vw]at hq);try first|exact absurd hq (by decide)|exfalso;omega)|apply aI|with_reducible exact vM rfl|exact⟨⟩|apply nM|apply fM)
  all_goals((try apply vM);(try simp only[vq]at*);try omega)
  all_goals(try omega)
  ·subst hq
   refine Sup.of (congrArg (PV.int .i64) ?_);exact(hn.1:aQ (nmG 1)=1).symm
  refine⟨1+1,[],⟨⟨by omega,fun j h0 hj=>?_⟩,by omega⟩,?_⟩
  ·by_cases e:j=1
   ·subst e;exact hq
   ·exact hok j h0 (by omega)
  repeat'((conv=>whnf);first|intro _|apply aI|with_reducible exact vM rfl|exact⟨⟩|apply nM|apply fM)
  all_goals((try apply vM);(try simp only[vq]at*);try omega)
 ·repeat'((conv=>whnf);first|(intro hq;(try simp only[vw]at hq);try first|exact absurd hq (by decide)|exfalso;omega)|apply aI|with_reducible exact vM rfl|exact⟨⟩|apply nM|apply fM)
  all_goals((try apply vM);(try simp only[vq]at*);try omega)
  all_goals(try omega)
  ·subst hq
   refine Sup.of (congrArg (PV.int .i64) ?_);exact(hn.2.1:aQ (nmG 2)=2).symm
  refine⟨2+1,[],⟨⟨by omega,fun j h0 hj=>?_⟩,by omega⟩,?_⟩
  ·by_cases e:j=2
   ·subst e;exact hq
   ·exact hok j h0 (by omega)
  repeat'((conv=>whnf);first|intro _|apply aI|with_reducible exact vM rfl|exact⟨⟩|apply nM|apply fM)
  all_goals((try apply vM);(try simp only[vq]at*);try omega)
 ·repeat'((conv=>whnf);first|(intro hq;(try simp only[vw]at hq);try first|exact absurd hq (by decide)|exfalso;omega)|apply aI|with_reducible exact vM rfl|exact⟨⟩|apply nM|apply fM)
  all_goals((try apply vM);(try simp only[vq]at*);try omega)
  all_goals(try omega)
  ·subst hq
   refine Sup.of (congrArg (PV.int .i64) ?_);exact(hn.2.2.1:aQ (nmG 3)=3).symm
  refine⟨3+1,[],⟨⟨by omega,fun j h0 hj=>?_⟩,by omega⟩,?_⟩
  ·by_cases e:j=3
   ·subst e;exact hq
   ·exact hok j h0 (by omega)
  repeat'((conv=>whnf);first|intro _|apply aI|with_reducible exact vM rfl|exact⟨⟩|apply nM|apply fM)
  all_goals((try apply vM);(try simp only[vq]at*);try omega)
 ·repeat'((conv=>whnf);first|(intro hq;(try simp only[vw]at hq);try first|exact absurd hq (by decide)|exfalso;omega)|apply aI|with_reducible exact vM rfl|exact⟨⟩|apply nM|apply fM)
  all_goals((try apply vM);(try simp only[vq]at*);try omega)
  all_goals(try omega)
  ·subst hq
   refine Sup.of (congrArg (PV.int .i64) ?_);exact(hn.2.2.2.1:aQ (nmG 4)=4).symm
  refine⟨4+1,[],⟨⟨by omega,fun j h0 hj=>?_⟩,by omega⟩,?_⟩
  ·by_cases e:j=4
   ·subst e;exact hq
   ·exact hok j h0 (by omega)
  repeat'((conv=>whnf);first|intro _|apply aI|with_reducible exact vM rfl|exact⟨⟩|apply nM|apply fM)
  all_goals((try apply vM);(try simp only[vq]at*);try omega)
 ·repeat'((conv=>whnf);first|(intro hq;(try simp only[vw]at hq);try first|exact absurd hq (by decide)|exfalso;omega)|apply aI|with_reducible exact vM rfl|exact⟨⟩|apply nM|apply fM)
  all_goals((try apply vM);(try simp only[vq]at*);try omega)
  all_goals(try omega)
  ·subst hq
   refine Sup.of (congrArg (PV.int .i64) ?_);exact(hn.2.2.2.2:aQ (nmG 5)=5).symm
  refine⟨5+1,[],⟨⟨by omega,fun j h0 hj=>?_⟩,by omega⟩,?_⟩
  ·by_cases e:j=5
   ·subst e;exact hq
   ·exact hok j h0 (by omega)
  repeat'((conv=>whnf);first|intro _|apply aI|with_reducible exact vM rfl|exact⟨⟩|apply nM|apply fM)
  all_goals((try apply vM);(try simp only[vq]at*);try omega)
 ·rw[Le hok]
  repeat'((conv=>whnf);first|(intro hq;(try simp only[vw]at hq);try first|exact absurd hq (by decide)|exfalso;omega)|apply aI|with_reducible exact vM rfl|exact⟨⟩|apply nM|apply fM)
  all_goals((try apply vM);(try simp only[vq]at*);try omega)
  exact Sup.of rfl
end Go.Eng.YtcechbdgokjmgaaGreatDoor
