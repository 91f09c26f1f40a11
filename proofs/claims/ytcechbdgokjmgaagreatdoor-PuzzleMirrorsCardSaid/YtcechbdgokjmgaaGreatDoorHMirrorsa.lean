/- Contracts of functions of the program: what each returns. Their conditions stand in them. -/
import Derived.ProofKit
import Derived.OpenShut
import Derived.Deep.Grids
import Derived.LaidMore
import Derived.Stop.Joined
import Derived.Stop.LaidErr
import Derived.Lib.LaidTab
import Derived.MakeChecks
import Derived.Lay
import Derived.Shelf.Small.Wraps
import Derived.Shelf.Strconv.Atoi
import Derived.Shelf.Strings.Search3
import Derived.Shelf.Strings.Count
import Derived.Shelf.Strings.Prefix
import Derived.Shelf.Strings.Split
import Derived.Shelf.Strings.OnBuilder
import Derived.Shelf.LaysM
import Derived.Shelf.Strconv.Itoa3
import Derived.Shelf.Sort.Plain
import Derived.Lib.AppendIntMem
import Derived.Lib.ItoaLen
import Derived.Lib.TrailingZeros
import Derived.Lib.BitFns
import Derived.Test.YtcechbdgokjmgaaGreatDoorCards
import Derived.Test.YtcechbdgokjmgaaGreatDoorTie
import Derived.Test.YtcechbdgokjmgaaGreatDoorProg
import Derived.Test.YtcechbdgokjmgaaGreatDoorEe
open Array renaming getD_eq_getD_getElem?→ahW,getElem?_eq_none→ahQ,ext→ai5,length_toList→ais
open BitVec renaming ofInt→ah8,testBit_toNat→ajZ,getLsbD_and→aj0
open Bool renaming eq_iff_iff→ajU,and_false→aj3,false_and→aj9,false_or→akr,true_or→aks,true_and→akz
open Classical renaming not_not→aiK
open Int renaming toNat_natCast→aiV,one_mul→ajY,toNat→akf,natCast_add→akg,lt_of_lt_of_le→akh
open List renaming getD_eq_getElem?_getD→ahZ,mem_of_mem_take→ajG,length_take→aiG,getElem?_take_of_lt→ajH,getElem?_eq_getElem→ah4,mem_iff_getElem→ajI,flatten_cons→ajJ,length_append→ai7,getElem?_eq_none→ajK,append_nil→ajL,getElem?_eq_some_iff→ajz,mem_cons_of_mem→ajx,mem_cons_self→ajM,map_cons→ajN,length_cons→ahK,length_map→ajO,take_add_one→ajQ,map_append→ajR,length_nil→ahG,take_length→ajS,getElem_of_mem→ah3,mem_append→ah0,mem_filter→aj2,pairwise_cons→ajh,mem_cons→ajg,foldl_append→akc,getElem_mem→akd,range→ahX,find?_eq_none→akl,mem_range→ajF,range_eq_range'→ajs,range'_append_1→akm,find?_some→akn,any_eq_true→ako,any_eq_false→akp,getElem?_map→aiO,drop_length→akq,take→akt,drop→aku,drop_zero→akv,mem_singleton→akx,length_filter_le→aky,all_eq_true→ajp,length_eq_zero_iff→ai6,mem_flatten→akA
open Nat renaming eq_zero_or_pos→aiC,mul_one→aip,le_refl→ahO,zero_le→aiD,zero_add→aic,succ_mul→ahN,mul_add→ajP,le_trans→ajC,testBit_two_pow→ajT,lt_pow_two_of_testBit→ajV,eq_of_testBit_eq→ajW,pow_le_pow_right→ajX,testBit_lt_two_pow→aj1,testBit_two_pow_mul_add→aj4,pow_succ→aj5,two_pow_pos→aj6,testBit_div_two_pow→aj7,testBit_two_pow_mul→aj8,testBit_two_pow_sub_one→akb,div_div_eq_div_mul→ake,mul_comm→aie,mul_assoc→aki,mul_mod_right→akj,mul_div_cancel_left→akk,sub_zero→akw
open Option renaming bind_some→ajf
namespace Go.Eng
open Go.RowKit Go.ChangeShapes Go.WideShapes
set_option linter.unusedSimpArgs false
set_option linter.unusedVariables false
def lS (W:World):Imm:=fun b j=>(rd W b j).isSome
inductive Lf where
 |int (k:IntKind)
 |str
 |ints (k:IntKind)
 |rows (k:IntKind)
 |bool
 |bools
instance:Inhabited Lf:=⟨.str⟩
def aej:Lf→PV→Prop
 |.int k,p=>∃n,p=.int k n∧(Lit.int k n).wf=true
 |.str,p=>∃s,p=.str s∧s.size≤maxLen
 |.ints k,p=>∃xs,p=.isl (.ints k xs) .none∧(∀n∈xs,(Lit.int k n).wf=true)∧xs.length≤maxLen
 |.rows k,p=>∃xss:List (List Int),p=.isl (.rows k xss) .none∧(∀x∈xss,(∀n∈x,(Lit.int k n).wf=true)∧x.length≤maxLen)∧xss.length≤maxLen
 |.bool,p=>∃b:Bool,p=.bp b∧True
 |.bools,p=>∃xs:List Bool,p=.isl (.bools xs) .none∧xs.length≤maxLen
def wU (v:Value):Prop:=∀a n c,v=.slice (some a) n c→a.spot=none
theorem Ho {P:Program} {w:World} {r:Reach} {base:Nat} {t:TypeId} {v:Value} (h:Cell.okWide P w r base t v):wU v:=by
 rintro a n c rfl
 unfold Cell.okWide at h;split at h<;>try(rename_i e1 e2;cases e2)
 unfold Cell.ok at h;split at h<;>try(rename_i e1 e2;cases e2)
 ·exact h.2.2.2.1
 ·exact h.elim
theorem Kt {P:Program} {w:World} {r:Reach} {base:Nat} {t:TypeId} {cs:Array Value} (h:Row.okWide P w r base t cs):∀i,wU (cs.toList.getD i undef):=by
 obtain⟨ts,_,_,h⟩:=h;intro i;rw[ahZ];cases hv:cs.toList[i]? with
 |none=>rintro a n c he;cases he
 |some v=>
  obtain⟨u,_,hu⟩:=h i v (by simpa using hv)
  simpa using Ho hu
section
variable {H:Type} (enc:TypeId × Value→H) (P:Program) (W:World)
def iG (t:TypeId) (ls:List Lf):Prop:=∀(fuel:Nat) (cs:List Value) (x:DataW H × List MemPlace),DataW.trod enc P W 0 (fun _=>true) true fuel t cs=some x→(∀i,wU (cs.getD i undef))→
 cs.length=ls.length∧∀i,i<ls.length→∃p,aej (ls.getD i default) p∧Rep (lS W) W noI p (cs.getD i undef)
def CU:List Field→Nat→List (List Lf)→Prop
 | [],_,[]=>True
 |f::fs,o,l::ls=>(f.offset=o∧P.cellsOf f.type=l.length∧iG enc P W f.type l)∧CU fs (o+l.length) ls
 |_,_,_=>False
end
section
variable {H:Type} {enc:TypeId × Value→H} {P:Program} {W:World}
theorem Et {t:TypeId} {k:IntKind} (ht:P.underlying t=some (.int k)):iG enc P W t [.int k]:=by
 intro fuel cs x h hs;obtain⟨n,rfl,_,hw⟩:=DataW.trod_int ht h;refine⟨rfl,fun i hi=>?_⟩;have:i=0:=by simp at hi;omega
 subst this;exact⟨.int k n,⟨n,rfl,hw⟩,.int _ _ _⟩
theorem Ow {t e:TypeId} {k:IntKind} (ht:P.underlying t=some (.slice e)) (he:P.underlying e=some (.int k)) (hc:P.cellsOf e=1):iG enc P W t [.ints k]:=by
 intro fuel cs x h hs;rcases open_ints ht he hc h with⟨rfl,_⟩|⟨a,len,cap,zs,rfl,_,hl,hm,hz,_,hcell,hwf⟩
 ·refine⟨rfl,fun i hi=>?_⟩
  have:i=0:=by simp at hi;omega
  subst this;exact⟨.isl (.ints k []) .none,⟨[],rfl,by simp,by simp⟩,.islnil _ _ _ rfl⟩
 ·refine⟨rfl,fun i hi=>?_⟩
  have:i=0:=by simp at hi;omega
  subst this;have hsp:a.spot=none:=hs 0 a len cap rfl;obtain⟨b,off,spot⟩:=a;simp only at hsp;subst hsp;simp only[ite_true]at hz;have hcell':∀i,i<cap→rd W b (off+i)=some (.int k (zs.getD i 0)):=fun i hi=>by
   have:=hcell i (by omega)
   rw[dX,fT]at this;exact this
  refine⟨.isl (.ints k (zs.take len)) .none,⟨_,rfl,fun n hn=>hwf n (ajG hn),by simp;omega⟩,?_⟩
  have hlen:(CL.ints k (zs.take len)).cnt=len:=by simp[CL.cnt];omega
  have hrep:=Rep.isl (S:=lS W) (w:=W) noI (.ints k (zs.take len)) .none b off cap (by rw[hlen];exact hl)
   (fun j hj=>by
    have hj':j<len:=by simp only[CL.ncell,aiG]at hj;omega
    show(rd W b (off+j)).isSome;rw[hcell' j (by omega)];rfl)
   (fun j hj=>by
    have hj':j<len:=by simp only[CL.ncell,aiG]at hj;omega
    have e1:rdv W b (off+j)=.int k (zs.getD j 0):=by unfold rdv;rw[hcell' j (by omega)];rfl
    have e2:(zs.take len).getD j 0=zs.getD j 0:=by simp only[ahZ,ajH hj']
    rw[e1];show Rep (lS W) W noI (.int k ((zs.take len).getD j 0)) _;rw[e2];exact .int _ _ _)
   (fun e=>by cases e) (fun k e=>by cases e)
  rw[hlen]at hrep;simpa using hrep
theorem Ox {t:TypeId} (ht:P.underlying t=some .bool):iG enc P W t [.bool]:=by
 intro fuel cs x h hs;obtain⟨n,rfl,_⟩:=DataW.trod_bool ht h;refine⟨rfl,fun i hi=>?_⟩;have:i=0:=by simp at hi;omega
 subst this;exact⟨.bp n,⟨n,rfl,trivial⟩,.bp _ _⟩
theorem U8 {t e:TypeId} {k:IntKind} (ht:P.underlying t=some (.slice e)) (he:P.underlying e=some (.int k)) (hc:P.cellsOf e=1) {fuel:Nat} {v:Value} {x:DataW H × List MemPlace}
 (h:DataW.trod enc P W 0 (fun _=>true) true fuel t [v]=some x):∃xs:List Int,Rep (lS W) W noI (.isl (.ints k xs) .none) v∧(∀n∈xs,(Lit.int k n).wf=true)∧xs.length≤maxLen:=by
 rcases open_ints ht he hc h with⟨hv,_⟩|⟨a,len,cap,zs,hv,_,hl,hm,hz,_,hcell,hwf⟩
 ·cases hv;exact⟨[],.islnil _ _ _ rfl,by simp,by simp⟩
 ·cases hv
  simp only[ite_true]at hz;rcases aiC cap with h0|h0
  ·have hl0:len=0:=by omega
   subst h0;subst hl0;exact⟨[],.islnil _ _ _ rfl,by simp,by simp⟩
  ·have hsp:a.spot=none:=by
    have h1:=hcell 0 (by omega)
    simpa [Addr.add]using World.cell?_spot h1
   obtain⟨b,off,spot⟩:=a;simp only at hsp;subst hsp;have hcell':∀i,i<cap→rd W b (off+i)=some (.int k (zs.getD i 0)):=fun i hi=>by
    have:=hcell i (by omega)
    rw[dX,fT]at this;exact this
   refine⟨zs.take len,?_,fun n hn=>hwf n (ajG hn),by simp;omega⟩
   have hlen:(CL.ints k (zs.take len)).cnt=len:=by simp[CL.cnt];omega
   have hrep:=Rep.isl (S:=lS W) (w:=W) noI (.ints k (zs.take len)) .none b off cap (by rw[hlen];exact hl)
    (fun j hj=>by
     have hj':j<len:=by simp only[CL.ncell,aiG]at hj;omega
     show(rd W b (off+j)).isSome;rw[hcell' j (by omega)];rfl)
    (fun j hj=>by
     have hj':j<len:=by simp only[CL.ncell,aiG]at hj;omega
     have e1:rdv W b (off+j)=.int k (zs.getD j 0):=by unfold rdv;rw[hcell' j (by omega)];rfl
     have e2:(zs.take len).getD j 0=zs.getD j 0:=by simp only[ahZ,ajH hj']
     rw[e1];show Rep (lS W) W noI (.int k ((zs.take len).getD j 0)) _;rw[e2];exact .int _ _ _)
    (fun e=>by cases e) (fun k e=>by cases e)
   rw[hlen]at hrep;exact hrep
theorem U9:∀(n:Nat) (Q:Nat→List Int→Prop),(∀i,i<n→∃p,Q i p)→∃ps:List (List Int),ps.length=n∧∀i,i<n→Q i (ps.getD i []):=by
 intro n;induction n with
 |zero=>intro Q _;exact⟨[],rfl,fun i hi=>by omega⟩
 |succ n ih=>
  intro Q h;obtain⟨p,hp⟩:=h 0 (by omega)
  obtain⟨ps,h1,h2⟩:=ih (fun i=>Q (i+1)) (fun i hi=>h (i+1) (by omega))
  refine⟨p::ps,by simp[h1],fun i hi=>?_⟩
  cases i with
  |zero=>exact hp
  |succ i=>exact h2 i (by omega)
theorem Va {a:Addr} {c1:List Value} (h:W.cells? 0 a 1=some c1):∃c,c1=[c]∧W.cell? a=some c:=by
 have e0:a.add 0=a:=by simp[Addr.add]
 unfold World.cells? at h;split at h
 ·simp only[List.range_succ,List.range_zero,List.nil_append,List.mapM_cons,List.mapM_nil,e0]at h
  cases hcc:W.cell? a with
  |none=>simp[hcc]at h
  |some c=>simp[hcc]at h;exact⟨c,h.symm,rfl⟩
 ·cases h
theorem Oy {t u e:TypeId} {k:IntKind} (ht:P.underlying t=some (.slice u)) (hu:P.underlying u=some (.slice e)) (he:P.underlying e=some (.int k)) (hcu:P.cellsOf u=1) (hc:P.cellsOf e=1):iG enc P W t [.rows k]:=by
 intro fuel cs x h hs;rcases DataW.trod_slice ht h with⟨rfl,_⟩|⟨a,len,cap,elems,rest,n,_,rfl,_,_,hl,hm,hlen,hel,hsp1,_⟩
 ·refine⟨rfl,fun i hi=>?_⟩
  have:i=0:=by simp at hi;omega
  subst this;exact⟨.isl (.rows k []) .none,⟨[],rfl,by simp,by simp⟩,.islnil _ _ _ rfl⟩
 refine⟨rfl,fun i hi=>?_⟩;have:i=0:=by simp at hi;omega
 subst this;have hspot:a.spot=none:=hs 0 a len cap rfl;obtain⟨b,off,spot⟩:=a;simp only at hspot;subst hspot;have key:∀j,j<len→∃xs:List Int,(rd W b (off+j)).isSome=true∧Rep (lS W) W noI (.isl (.ints k xs) .none) (rdv W b (off+j))∧(∀n∈xs,(Lit.int k n).wf=true)∧xs.length≤maxLen:=by
  intro j hj;have hE:=hel j hj;rw[hcu,aip]at hE;have hy:∃y,elems[j]? =some y:=⟨_,ah4 (by omega)⟩
  obtain⟨y,hy⟩:=hy;rw[hy]at hE;simp only[Option.bind_eq_some_iff]at hE;obtain⟨c1,hc1,hy1⟩:=hE;obtain⟨c,rfl,hcell⟩:=Va hc1;rw[dX,fT]at hcell;obtain⟨xs,h1,h2,h3⟩:=U8 hu he hc hy1;refine⟨xs,by rw[hcell];rfl,?_,h2,h3⟩
  unfold rdv;rw[hcell];exact h1
 obtain⟨xss,hxl,hxx⟩:=U9 len _ key;refine⟨.isl (.rows k xss) .none,⟨xss,rfl,fun x hx=>?_,by omega⟩,?_⟩
 ·obtain⟨j,hj,rfl⟩:=ajI.1 hx
  have:=hxx j (by omega)
  rw[ahZ,ah4 hj]at this;exact⟨this.2.2.1,this.2.2.2⟩
 have hcnt:(CL.rows k xss).cnt=len:=by simp[CL.cnt];omega
 have hrep:=Rep.isl (S:=lS W) (w:=W) noI (.rows k xss) .none b off cap (by rw[hcnt];exact hl)
  (fun j hj=>by
   have hj':j<len:=by simp only[CL.ncell]at hj;omega
   exact(hxx j hj').1)
  (fun j hj=>by
   have hj':j<len:=by simp only[CL.ncell]at hj;omega
   exact(hxx j hj').2.1)
  (fun e=>by cases e) (fun k e=>by cases e)
 rw[hcnt]at hrep;simpa using hrep
theorem Oz {l:List Lf} {ls:List (List Lf)} {i:Nat} (h:i<l.length):(l++ls.flatten).getD i default=l.getD i default:=by
 simp only[ahZ,List.getElem?_append_left h]
theorem Ku:∀{fs:List Field} {o:Nat} {lss:List (List Lf)},CU enc P W fs o lss→∀i,i<lss.flatten.length→
 ∃(k:Nat) (f:Field) (l:List Lf) (j:Nat),fs[k]? =some f∧f.offset+j=o+i∧P.cellsOf f.type=l.length∧iG enc P W f.type l∧j<l.length∧l.getD j default=lss.flatten.getD i default:=by
 intro fs;induction fs with
 |nil=>
  intro o lss h i hi;cases lss with
  |nil=>simp at hi
  |cons l ls=>exact h.elim
 |cons f fs ih=>
  intro o lss h i hi;cases lss with
  |nil=>exact h.elim
  |cons l ls=>
   obtain⟨⟨h1,h2,h3⟩,h4⟩:=h;rw[ajJ,ai7]at hi;by_cases hl:i<l.length
   ·exact⟨0,f,l,i,rfl,by omega,h2,h3,hl,by rw[ajJ,Oz hl]⟩
   ·obtain⟨k,f',l',j,a1,a2,a3,a4,a5,a6⟩:=ih h4 (i-l.length) (by omega)
    refine⟨k+1,f',l',j,a1,by omega,a3,a4,a5,?_⟩
    rw[a6,ajJ];simp only[ahZ,List.getElem?_append_right (by omega:l.length≤i)]
theorem Eu {cs:List Value} {o n j:Nat} (h:j<n):((cs.drop o).take n).getD j undef=cs.getD (o+j) undef:=by
 simp only[ahZ,ajH h,List.getElem?_drop]
theorem Rq {cs:List Value} (hs:∀i,wU (cs.getD i undef)) (o n:Nat):∀i,wU (((cs.drop o).take n).getD i undef):=by
 intro i;by_cases h:i<n
 ·rw[Eu h];exact hs _
 ·have:((cs.drop o).take n).getD i undef=undef:=by
   rw[ahZ,ajK (by simp;omega)];rfl
  rw[this];rintro a n c he;cases he
theorem qF {t:TypeId} {fs:Array Field} {lss:List (List Lf)} (ht:P.underlying t=some (.struct fs)) (hF:CU enc P W fs.toList 0 lss) (hc:P.cellsOf t=lss.flatten.length):iG enc P W t lss.flatten:=by
 intro fuel cs x h hs;obtain⟨xs,n,_,_,hl,hlen,hf⟩:=DataW.trod_struct ht h;refine⟨by rw[hl,hc],fun i hi=>?_⟩
 obtain⟨k,f,l,j,a1,a2,a3,a4,a5,a6⟩:=Ku hF i hi;have hfk:fs[k]? =some f:=by simpa using a1
 have hk:k<xs.length:=by rw[hlen];exact(Array.getElem?_eq_some_iff.1 hfk).1
 have h1:=hf k f hfk;rw[ah4 hk]at h1;obtain⟨_,h2⟩:=a4 _ _ _ h1 (Rq hs _ _);obtain⟨p,hp,hr⟩:=h2 j a5;rw[Eu (by omega)]at hr
 rw[a6]at hp;have:f.offset+j=i:=by omega
 rw[this]at hr;exact⟨p,hp,hr⟩
theorem aaJ {Q:Nat→PV→Prop}:∀(n:Nat) (Q:Nat→PV→Prop),(∀i,i<n→∃p,Q i p)→∃ps:List PV,ps.length=n∧∀i,i<n→Q i (aD ps i):=by
 intro n;induction n with
 |zero=>intro Q _;exact⟨[],rfl,fun i hi=>by omega⟩
 |succ n ih=>
  intro Q h;obtain⟨p,hp⟩:=h 0 (by omega)
  obtain⟨ps,h1,h2⟩:=ih (fun i=>Q (i+1)) (fun i hi=>h (i+1) (by omega))
  refine⟨p::ps,by simp[h1],fun i hi=>?_⟩
  cases i with
  |zero=>exact hp
  |succ i=>exact h2 i (by omega)
theorem Hq {t:TypeId} {ls:List Lf} {v:Value} {d:DataW H} {qs:List MemPlace} {r:Reach} {base:Nat} (ht:(∃fs,P.underlying t=some (.struct fs))∨∃n e,P.underlying t=some (.array n e)) (hO:iG enc P W t ls) (hval:Value.okWide P W r base t v) (hd:DataW.Trod enc P W 0 (fun _=>true) true t v d qs):
 ∃ps:List PV,ps.length=ls.length∧(∀i,i<ls.length→aej (ls.getD i default) (aD ps i))∧Rep (lS W) W noI (.agg ps) v:=by
 have hv:∃cs,v=.agg cs∧Row.okWide P W r base t cs:=by
  unfold Value.okWide at hval;rcases ht with⟨fs,ht⟩|⟨n,e,ht⟩<;>rw[ht]at hval<;>exact⟨hval.choose,hval.choose_spec.1,hval.choose_spec.2.2⟩
 obtain⟨cs,rfl,hrow⟩:=hv;obtain⟨fuel,hf⟩:=hd;have hcells:(Value.agg cs).cells.toList=cs.toList:=rfl;rw[hcells]at hf;obtain⟨h1,h2⟩:=hO _ _ _ hf (Kt hrow);obtain⟨ps,p1,p2⟩:=aaJ (Q:=fun _ _=>True) ls.length _ h2;refine⟨ps,p1,fun i hi=>(p2 i hi).1,.agg _ _ _ (by rw[p1,←h1];simp) fun i hi=>?_⟩
 have:=(p2 i (by omega)).2
 simpa [ahW,ahZ]using this
end
theorem Vb {P:Program} {g:FuncId} {args:List PV} {vs:Array Value} {W:World} (h:aF P g args (.bp true)) (hr:bF (lS W) W noI args vs) (hg:gB (lS W) W):
 Calls P g vs W fun e w'=>e=.returned (.bool true)∧Below W.heap.size W w':=by
 have:=(h.2 (lS W) W vs hg (fun _ _ h=>h) hr);refine callsIn_wide.1 (CallsIn.mono (F:=Fw none) this ?_)
 rintro e w' ⟨val,S',rfl,o⟩
 have hv:=o.rep;exact⟨by cases hv;rfl,⟨o.below.os,o.below.tape,o.below.output,o.below.size,o.same⟩⟩
section
variable {H:Type} {enc:TypeId × Value→H} {P:Program}
theorem E8 (hl:laidOutB P=true) {W W':World} {sp:Nat→Bool} (hB:Below W.heap.size W W'):∀{ts:List TypeId} {vs:List Value} {ds:List (DataW H)} {ps:List MemPlace},ts.all (fun t=>P.readableRec t&&decide (t<P.types.size))=true→
 DataW.TrodAll enc P W 0 (fun _=>true) true ts vs ds ps→(∀x∈ps,x.block<W.heap.size)→(∀x∈ps,sp x.block=true)→DataW.TrodAll enc P W' 0 sp true ts vs ds ps:=by
 intro ts;induction ts with
 |nil=>
  intro vs ds ps _ h _ _;cases vs<;>cases ds<;>first|exact h|exact h.elim
 |cons t ts ih=>
  intro vs ds ps ha h hlt hs;cases vs with
  |nil=>exact h.elim
  |cons v vs=>
   cases ds with
   |nil=>exact h.elim
   |cons d ds=>
    obtain⟨p,q,h1,h2,rfl⟩:=h;simp only[List.all_cons,Bool.and_eq_true,decide_eq_true_eq]at ha;refine⟨p,q,WideElems.Trod_stays hl ha.1.1 ha.1.2 h1 (fun x hx=>hB.same (hlt x (by simp[hx]))) (fun x hx=>hs x (by simp[hx])),ih ha.2 h2 (fun x hx=>hlt x (by simp[hx])) (fun x hx=>hs x (by simp[hx])),rfl⟩
theorem Vd {f:Func} {s:ChangeSpec} {W W':World} {args:Array Value} {ds gs:List (DataW H)} {before:List MemPlace} {tb:TypeId} (hl:laidOutB P=true) (hres:f.resultTypes= #[tb]) (htb:P.underlying tb=some .bool)
 (hread:f.params.toList.all (fun t=>P.readableRec t&&decide (t<P.types.size))=true) (hv:s.vars=[]) (hfn:s.fn H ds={results:=[.lit (.bool true)],args:=ds})
 (hW:DataW.Whole enc P f.params.toList s.vars false W args.toList ds gs before) (hB:Below W.heap.size W W'):s.post enc P f false true false false W args (.bool true) W':=by
 have hW':=hW;obtain⟨p,q,hA,hV,rfl,hfz,hnd⟩:=hW;rw[hv]at hV;obtain⟨rfl,rfl⟩:=trodVars_none hV;have hlt:∀x∈p,x.block<W.heap.size:=fun x hx=>by simpa using hW'.lt x (by simp[hx])
 refine⟨ds,[],p++[],[],p,[],hW',?_,?_,?_,hB.frame _,fun h=>by cases h⟩
 ·rw[ajL,hfn,hres]
  exact trodAll_mk1 (shut_bool htb true)
 ·rw[ajL,hfn]
  exact E8 hl hB hread hA hlt (fun x hx=>by simpa using hlt x hx)
 ·rw[ajL,hfn,hv]
  exact rfl
end
end Go.Eng
namespace Go.Eng.YtcechbdgokjmgaaGreatDoor
open Go.Proofs Go.Proofs.YtcechbdgokjmgaaGreatDoor Go.RowKit Go.ChangeShapes Go.WideShapes
set_option linter.unusedVariables false
theorem own:ownKnob Tryz.prog.godebug=none:=by kernel_rfl
theorem laidOut:laidOutB Tryz.prog=true:=by kernel_rfl
abbrev uQ:List (String × DataW Unit):=[("math/bits.deBruijn32tab",Rows.laid_math_bits_deBruijn32tab),("math/bits.deBruijn64tab",Rows.laid_math_bits_deBruijn64tab),("internal/strconv.uint64pow10",Rows.laid_internal_strconv_uint64pow10),("unicode/utf8.acceptRanges",Rows.laid_unicode_utf8_acceptRanges),("strconv.ErrRange",Rows.laid_strconv_ErrRange),("strconv.ErrSyntax",Rows.laid_strconv_ErrSyntax),("unicode/utf8.first",Rows.laid_unicode_utf8_first)]
theorem Ve (os:Os) (args:Array Value):laidMetH Tryz.prog uQ ((World.laidAll Tryz.prog os uQ).forCall (fun _ _=>0) ⟨#[],args,[]⟩).memory:=by
 rw[Go.MakeChecks.laidMetH_plain _ _ _ (by kernel_rfl)]
 exact laidMet_laidAll _ (by kernel_rfl) (by kernel_rfl)
theorem Hr {W:World} {name:String} {k:IntKind} {zs:List Int} {g:Nat} (hg:Tryz.prog.globalNamed name=some g) (h:Lib.TabIs Tryz.prog W name k zs):
 bsz W g=some (CL.ints k zs).ncell∧∀j,j<(CL.ints k zs).ncell→lS W g j∧Rep (lS W) W noI ((CL.ints k zs).get j) (rdv W g j):=by
 unfold Lib.TabIs World.var? at h;rw[hg,ajf]at h;split at h
 ·rename_i cs e f hb
  have h:=Option.some.inj h;subst h;refine⟨by simp[bsz,hb,CL.ncell],fun j hj=>?_⟩
  simp only[CL.ncell]at hj;have hr:rd W g j=some (.int k (zs.getD j 0)):=by simp[rd,hb,hj]
  refine⟨by show(rd W g j).isSome=true;rw[hr];rfl,?_⟩
  have:rdv W g j=.int k (zs.getD j 0):=by unfold rdv;rw[hr];rfl
  rw[this];exact .int _ _ _
 ·cases h
theorem aaK {W:World} (h:laidMetH Tryz.prog uQ W):gB (lS W) W:=by
 rw[Go.MakeChecks.laidMetH_plain _ _ _ (by kernel_rfl)]at h
 have t2:Lib.TabIs Tryz.prog W "math/bits.deBruijn32tab" .u8 sD:=Lib.tabIs_of_head (k:=.u8) (zs:=sD) (g:=0) (t:=285) (e:=5) (n:=32) (by kernel_rfl) (by kernel_rfl) (by kernel_rfl) (by kernel_rfl) (by kernel_rfl) (by kernel_rfl) h
 have t3:Lib.TabIs Tryz.prog W "math/bits.deBruijn64tab" .u8 FZ:=Lib.tabIs_of_head (k:=.u8) (zs:=FZ) (g:=7) (t:=323) (e:=5) (n:=64) (by kernel_rfl) (by kernel_rfl) (by kernel_rfl) (by kernel_rfl) (by kernel_rfl) (by kernel_rfl) h.tail
 have t0:Lib.TabIs Tryz.prog W "internal/strconv.uint64pow10" .u64 oh:=Lib.tabIs_of_head (k:=.u64) (zs:=oh) (g:=2) (t:=289) (e:=275) (n:=20) (by kernel_rfl) (by kernel_rfl) (by kernel_rfl) (by kernel_rfl) (by kernel_rfl) (by kernel_rfl) h.tail.tail
 intro g c hc;unfold xK at hc;split at hc
 ·cases hc;exact Hr (by kernel_rfl) t2
 ·cases hc;exact Hr (by kernel_rfl) t0
 ·cases hc;exact Hr (by kernel_rfl) t3
 ·cases hc
section
variable {H:Type} {enc:TypeId × Value→H} {W:World}
theorem o3:iG enc Tryz.prog W 3 [.int .i64]:=Et Tryz.underlying3
theorem o5:iG enc Tryz.prog W 5 [.int .u8]:=Et Tryz.underlying5
theorem o25:iG enc Tryz.prog W 25 [.ints .i64]:=Ow Tryz.underlying25 Tryz.underlying3 (by kernel_rfl)
theorem o22:iG enc Tryz.prog W 22 [.rows .i64]:=Oy Tryz.underlying22 Tryz.underlying25 Tryz.underlying3 (by kernel_rfl) (by kernel_rfl)
theorem o24:iG enc Tryz.prog W 24 [.int .i64,.rows .i64]:=
 qF (lss:=[[.int .i64],[.rows .i64]]) Tryz.underlying24 ⟨⟨rfl,by kernel_rfl,o3⟩,⟨rfl,by kernel_rfl,o22⟩,trivial⟩ (by kernel_rfl)
theorem o27:iG enc Tryz.prog W 27 [.int .i64,.rows .i64,.int .i64,.ints .i64]:=
 qF (lss:=[[.int .i64,.rows .i64],[.int .i64],[.ints .i64]]) Tryz.underlying27 ⟨⟨rfl,by kernel_rfl,o24⟩,⟨rfl,by kernel_rfl,o3⟩,⟨rfl,by kernel_rfl,o25⟩,trivial⟩ (by kernel_rfl)
theorem o4:iG enc Tryz.prog W 4 [.bool]:=Ox Tryz.underlying4
theorem ags:iG enc Tryz.prog W 127 [.ints .i64,.bool]:=
 qF (lss:=[[.ints .i64],[.bool]]) Tryz.underlying127 ⟨⟨rfl,by kernel_rfl,o25⟩,⟨rfl,by kernel_rfl,o4⟩,trivial⟩ (by kernel_rfl)
end
end Go.Eng.YtcechbdgokjmgaaGreatDoor
namespace Go.Proofs
open Go.Shelf
def Tryz.lays103_ren:Go.Shelf.Ren:=⟨fun|103=>229|210=>249|206=>270|n=>n,fun|9=>9|4=>4|24=>272|3=>3|n=>n,fun|n=>n⟩
theorem Tryz.lays103:Go.Proofs.Lays.n103 Tryz.prog Tryz.lays103_ren:={
 mixed:=by kernel_rfl
 f103:=Tryz.func229.trans (congrArg some (by kernel_rfl))
 f206:=Tryz.func270.trans (congrArg some (by kernel_rfl))
 f210:=Tryz.func249.trans (congrArg some (by kernel_rfl))
 t3:=Tryz.underlying3
 a3:=Tryz.isAgg3
 z3:=Tryz.sizeOf3
 v3:=Tryz.zeroValue3
 t4:=Tryz.underlying4
 a4:=Tryz.isAgg4
 z4:=Tryz.sizeOf4
 v4:=Tryz.zeroValue4
 t9:=Tryz.underlying9
 a9:=Tryz.isAgg9
 z9:=Tryz.sizeOf9
 v9:=Tryz.zeroValue9
 t24:=Tryz.underlying272
 a24:=Tryz.isAgg272
 z24:=Tryz.sizeOf272
 v24:=Tryz.zeroValue272}
open Go.RowKit in
theorem Tryz.strings_CutPrefix (s p:ByteArray) (w:World):
 Calls Tryz.prog 229 #[.string s,.string p] w fun e w'=>e=.returned (.tuple #[.string ⟨(Lib.trimPrefix s.data.toList p.data.toList).toArray⟩,.bool (Lib.hasPrefix s.data.toList p.data.toList)])∧w'=w:=Any.strings_CutPrefix Tryz.lays103 s p w
def Tryz.lays172_ren:Go.Shelf.Ren:=⟨fun|172=>230|244=>250|245=>251|247=>271|279=>272|280=>273|281=>274|282=>275|287=>283|316=>284|171=>129|205=>285|321=>287|322=>288|243=>171|246=>209|283=>233|284=>234|285=>235|286=>236|129=>253|317=>252|318=>254|319=>255|320=>256|337=>220|338=>276|n=>n,fun|9=>9|3=>3|75=>165|76=>166|4=>4|5=>5|167=>305|37=>161|0=>0|85=>306|2=>2|168=>308|53=>275|175=>317|46=>284|210=>321|127=>229|145=>329|143=>327|21=>21|171=>274|173=>278|212=>289|51=>154|20=>20|213=>290|232=>285|233=>323|80=>173|n=>n,fun|15=>5|16=>6|17=>2|18=>0|19=>7|n=>n⟩
theorem Tryz.lays172:Go.Proofs.Lays.n172 Tryz.prog Tryz.lays172_ren:={
 mixed:=by kernel_rfl
 f129:=Tryz.func253.trans (congrArg some (by kernel_rfl))
 f171:=Tryz.func129.trans (congrArg some (by kernel_rfl))
 f172:=Tryz.func230.trans (congrArg some (by kernel_rfl))
 f205:=Tryz.func285.trans (congrArg some (by kernel_rfl))
 f243:=Tryz.func171.trans (congrArg some (by kernel_rfl))
 f244:=Tryz.func250.trans (congrArg some (by kernel_rfl))
 f245:=Tryz.func251.trans (congrArg some (by kernel_rfl))
 f246:=Tryz.func209.trans (congrArg some (by kernel_rfl))
 f247:=Tryz.func271.trans (congrArg some (by kernel_rfl))
 f279:=Tryz.func272.trans (congrArg some (by kernel_rfl))
 f280:=Tryz.func273.trans (congrArg some (by kernel_rfl))
 f281:=Tryz.func274.trans (congrArg some (by kernel_rfl))
 f282:=Tryz.func275.trans (congrArg some (by kernel_rfl))
 f283:=Tryz.func233.trans (congrArg some (by kernel_rfl))
 f284:=Tryz.func234.trans (congrArg some (by kernel_rfl))
 f285:=Tryz.func235.trans (congrArg some (by kernel_rfl))
 f286:=Tryz.func236.trans (congrArg some (by kernel_rfl))
 f287:=Tryz.func283.trans (congrArg some (by kernel_rfl))
 f316:=Tryz.func284.trans (congrArg some (by kernel_rfl))
 f317:=Tryz.func252.trans (congrArg some (by kernel_rfl))
 f318:=Tryz.func254.trans (congrArg some (by kernel_rfl))
 f319:=Tryz.func255.trans (congrArg some (by kernel_rfl))
 f320:=Tryz.func256.trans (congrArg some (by kernel_rfl))
 f321:=Tryz.func287.trans (congrArg some (by kernel_rfl))
 f322:=Tryz.func288.trans (congrArg some (by kernel_rfl))
 f337:=Tryz.func220.trans (congrArg some (by kernel_rfl))
 f338:=Tryz.func276.trans (congrArg some (by kernel_rfl))
 t0:=Tryz.underlying0
 a0:=Tryz.isAgg0
 z0:=Tryz.sizeOf0
 v0:=Tryz.zeroValue0
 t2:=Tryz.underlying2
 a2:=Tryz.isAgg2
 z2:=Tryz.sizeOf2
 v2:=Tryz.zeroValue2
 t3:=Tryz.underlying3
 a3:=Tryz.isAgg3
 z3:=Tryz.sizeOf3
 v3:=Tryz.zeroValue3
 t4:=Tryz.underlying4
 a4:=Tryz.isAgg4
 z4:=Tryz.sizeOf4
 v4:=Tryz.zeroValue4
 t5:=Tryz.underlying5
 a5:=Tryz.isAgg5
 z5:=Tryz.sizeOf5
 v5:=Tryz.zeroValue5
 t9:=Tryz.underlying9
 a9:=Tryz.isAgg9
 z9:=Tryz.sizeOf9
 v9:=Tryz.zeroValue9
 t20:=Tryz.underlying20
 a20:=Tryz.isAgg20
 z20:=Tryz.sizeOf20
 v20:=Tryz.zeroValue20
 t21:=Tryz.underlying21
 a21:=Tryz.isAgg21
 z21:=Tryz.sizeOf21
 v21:=Tryz.zeroValue21
 t37:=Tryz.underlying161
 a37:=Tryz.isAgg161
 z37:=Tryz.sizeOf161
 v37:=Tryz.zeroValue161
 t46:=Tryz.underlying284
 a46:=Tryz.isAgg284
 z46:=Tryz.sizeOf284
 v46:=Tryz.zeroValue284
 t51:=Tryz.underlying154
 a51:=Tryz.isAgg154
 z51:=Tryz.sizeOf154
 v51:=Tryz.zeroValue154
 t53:=Tryz.underlying275
 a53:=Tryz.isAgg275
 z53:=Tryz.sizeOf275
 v53:=Tryz.zeroValue275
 t75:=Tryz.underlying165
 a75:=Tryz.isAgg165
 z75:=Tryz.sizeOf165
 v75:=Tryz.zeroValue165
 t76:=Tryz.underlying166
 a76:=Tryz.isAgg166
 z76:=Tryz.sizeOf166
 v76:=Tryz.zeroValue166
 t85:=Tryz.underlying306
 a85:=Tryz.isAgg306
 z85:=Tryz.sizeOf306
 v85:=Tryz.zeroValue306
 t127:=Tryz.underlying229
 a127:=Tryz.isAgg229
 z127:=Tryz.sizeOf229
 v127:=Tryz.zeroValue229
 t143:=Tryz.underlying327
 a143:=Tryz.isAgg327
 z143:=Tryz.sizeOf327
 v143:=Tryz.zeroValue327
 t145:=Tryz.underlying329
 a145:=Tryz.isAgg329
 z145:=Tryz.sizeOf329
 v145:=Tryz.zeroValue329
 t167:=Tryz.underlying305
 a167:=Tryz.isAgg305
 z167:=Tryz.sizeOf305
 v167:=Tryz.zeroValue305
 t168:=Tryz.underlying308
 a168:=Tryz.isAgg308
 z168:=Tryz.sizeOf308
 v168:=Tryz.zeroValue308
 t171:=Tryz.underlying274
 a171:=Tryz.isAgg274
 z171:=Tryz.sizeOf274
 v171:=Tryz.zeroValue274
 t173:=Tryz.underlying278
 a173:=Tryz.isAgg278
 z173:=Tryz.sizeOf278
 v173:=Tryz.zeroValue278
 t175:=Tryz.underlying317
 a175:=Tryz.isAgg317
 z175:=Tryz.sizeOf317
 v175:=Tryz.zeroValue317
 t210:=Tryz.underlying321
 a210:=Tryz.isAgg321
 z210:=Tryz.sizeOf321
 v210:=Tryz.zeroValue321
 t212:=Tryz.underlying289
 a212:=Tryz.isAgg289
 z212:=Tryz.sizeOf289
 v212:=Tryz.zeroValue289
 t213:=Tryz.underlying290
 a213:=Tryz.isAgg290
 z213:=Tryz.sizeOf290
 t232:=Tryz.underlying285
 a232:=Tryz.isAgg285
 z232:=Tryz.sizeOf285
 v232:=Tryz.zeroValue285
 t233:=Tryz.underlying323
 a233:=Tryz.isAgg323
 z233:=Tryz.sizeOf323
 v233:=Tryz.zeroValue323
 g15:=by kernel_rfl
 g16:=by kernel_rfl
 g17:=by kernel_rfl
 g18:=by kernel_rfl
 g19:=by kernel_rfl}
open Go.RowKit in
theorem Tryz.strconv_Atoi (s:ByteArray) (n:Int) (hl:s.size≤18) (h:Lib.atoi s.data.toList=some n) (w:World):
 Calls Tryz.prog 230 #[.string s] w fun e w'=>e=.returned (.tuple #[.int .i64 n,.nilIface])∧∃t,w'=Lib.bytesWorld w 5 t:=Any.strconv_Atoi Tryz.lays172 s n hl h w
def Tryz.lays143_ren:Go.Shelf.Ren:=⟨fun|143=>201|219=>228|217=>245|225=>246|224=>247|267=>248|266=>268|314=>269|n=>n,fun|9=>9|3=>3|4=>4|5=>5|46=>284|146=>303|51=>154|n=>n,fun|1=>1|n=>n⟩
theorem Tryz.lays143:Go.Proofs.Lays.n143 Tryz.prog Tryz.lays143_ren:={
 mixed:=by kernel_rfl
 f143:=Tryz.func201.trans (congrArg some (by kernel_rfl))
 f217:=Tryz.func245.trans (congrArg some (by kernel_rfl))
 f219:=Tryz.func228.trans (congrArg some (by kernel_rfl))
 f224:=Tryz.func247.trans (congrArg some (by kernel_rfl))
 f225:=Tryz.func246.trans (congrArg some (by kernel_rfl))
 f266:=Tryz.func268.trans (congrArg some (by kernel_rfl))
 f267:=Tryz.func248.trans (congrArg some (by kernel_rfl))
 f314:=Tryz.func269.trans (congrArg some (by kernel_rfl))
 t3:=Tryz.underlying3
 a3:=Tryz.isAgg3
 z3:=Tryz.sizeOf3
 v3:=Tryz.zeroValue3
 t4:=Tryz.underlying4
 a4:=Tryz.isAgg4
 z4:=Tryz.sizeOf4
 v4:=Tryz.zeroValue4
 t5:=Tryz.underlying5
 a5:=Tryz.isAgg5
 z5:=Tryz.sizeOf5
 v5:=Tryz.zeroValue5
 t9:=Tryz.underlying9
 a9:=Tryz.isAgg9
 z9:=Tryz.sizeOf9
 v9:=Tryz.zeroValue9
 t46:=Tryz.underlying284
 a46:=Tryz.isAgg284
 z46:=Tryz.sizeOf284
 v46:=Tryz.zeroValue284
 t51:=Tryz.underlying154
 a51:=Tryz.isAgg154
 z51:=Tryz.sizeOf154
 v51:=Tryz.zeroValue154
 t146:=Tryz.underlying303
 a146:=Tryz.isAgg303
 z146:=Tryz.sizeOf303
 v146:=Tryz.zeroValue303
 g1:=by kernel_rfl}
open Go.RowKit Go.Lib in
theorem Tryz.strings_Index_one (s:ByteArray) (c:UInt8) (w:World):
 Calls Tryz.prog 201 #[.string s,.string ⟨#[c]⟩] w fun e w'=>e=.returned (.int .i64 (Lib.indexByte s.data.toList c))∧w'=w:=Any.strings_Index_one Tryz.lays143 s c w
def Tryz.lays138_ren:Go.Shelf.Ren:=⟨fun|138=>200|195=>225|218=>227|143=>201|219=>228|217=>245|225=>246|224=>247|267=>248|266=>268|314=>269|n=>n,fun|9=>9|3=>3|4=>4|5=>5|0=>0|46=>284|146=>303|51=>154|n=>n,fun|1=>1|n=>n⟩
theorem Tryz.lays138:Go.Proofs.Lays.n138 Tryz.prog Tryz.lays138_ren:={
 mixed:=by kernel_rfl
 f138:=Tryz.func200.trans (congrArg some (by kernel_rfl))
 f143:=Tryz.func201.trans (congrArg some (by kernel_rfl))
 f195:=Tryz.func225.trans (congrArg some (by kernel_rfl))
 f217:=Tryz.func245.trans (congrArg some (by kernel_rfl))
 f218:=Tryz.func227.trans (congrArg some (by kernel_rfl))
 f219:=Tryz.func228.trans (congrArg some (by kernel_rfl))
 f224:=Tryz.func247.trans (congrArg some (by kernel_rfl))
 f225:=Tryz.func246.trans (congrArg some (by kernel_rfl))
 f266:=Tryz.func268.trans (congrArg some (by kernel_rfl))
 f267:=Tryz.func248.trans (congrArg some (by kernel_rfl))
 f314:=Tryz.func269.trans (congrArg some (by kernel_rfl))
 t0:=Tryz.underlying0
 a0:=Tryz.isAgg0
 z0:=Tryz.sizeOf0
 v0:=Tryz.zeroValue0
 t3:=Tryz.underlying3
 a3:=Tryz.isAgg3
 z3:=Tryz.sizeOf3
 v3:=Tryz.zeroValue3
 t4:=Tryz.underlying4
 a4:=Tryz.isAgg4
 z4:=Tryz.sizeOf4
 v4:=Tryz.zeroValue4
 t5:=Tryz.underlying5
 a5:=Tryz.isAgg5
 z5:=Tryz.sizeOf5
 v5:=Tryz.zeroValue5
 t9:=Tryz.underlying9
 a9:=Tryz.isAgg9
 z9:=Tryz.sizeOf9
 v9:=Tryz.zeroValue9
 t46:=Tryz.underlying284
 a46:=Tryz.isAgg284
 z46:=Tryz.sizeOf284
 v46:=Tryz.zeroValue284
 t51:=Tryz.underlying154
 a51:=Tryz.isAgg154
 z51:=Tryz.sizeOf154
 v51:=Tryz.zeroValue154
 t146:=Tryz.underlying303
 a146:=Tryz.isAgg303
 z146:=Tryz.sizeOf303
 v146:=Tryz.zeroValue303
 g1:=by kernel_rfl}
open Go.RowKit Go.Lib in
theorem Tryz.strings_Count_one (s:ByteArray) (c:UInt8) (w:World):
 Calls Tryz.prog 200 #[.string s,.string ⟨#[c]⟩] w fun e w'=>e=.returned (.int .i64 (Lib.countByte s.data.toList c))∧w'=w:=Any.strings_Count_one Tryz.lays138 s c w
def Tryz.lays100_ren:Go.Shelf.Ren:=⟨fun|100=>112|207=>159|n=>n,fun|9=>9|4=>4|3=>3|n=>n,fun|n=>n⟩
theorem Tryz.lays100:Go.Proofs.Lays.n100 Tryz.prog Tryz.lays100_ren:={
 mixed:=by kernel_rfl
 f100:=Tryz.func112.trans (congrArg some (by kernel_rfl))
 f207:=Tryz.func159.trans (congrArg some (by kernel_rfl))
 t3:=Tryz.underlying3
 a3:=Tryz.isAgg3
 z3:=Tryz.sizeOf3
 v3:=Tryz.zeroValue3
 t4:=Tryz.underlying4
 a4:=Tryz.isAgg4
 z4:=Tryz.sizeOf4
 v4:=Tryz.zeroValue4
 t9:=Tryz.underlying9
 a9:=Tryz.isAgg9
 z9:=Tryz.sizeOf9
 v9:=Tryz.zeroValue9}
open Go.RowKit Go.Lib in
theorem Tryz.strings_HasSuffix (s p:ByteArray) (w:World) (hs:s.size≤9223372036854775807):
 Calls Tryz.prog 112 #[.string s,.string p] w fun e w'=>e=.returned (.bool (Lib.hasSuffix s.data.toList p.data.toList))∧w'=w:=Any.strings_HasSuffix Tryz.lays100 s p w hs
def Tryz.lays102_ren:Go.Shelf.Ren:=⟨fun|102=>114|209=>161|207=>159|n=>n,fun|9=>9|4=>4|3=>3|n=>n,fun|n=>n⟩
theorem Tryz.lays102:Go.Proofs.Lays.n102 Tryz.prog Tryz.lays102_ren:={
 mixed:=by kernel_rfl
 f102:=Tryz.func114.trans (congrArg some (by kernel_rfl))
 f207:=Tryz.func159.trans (congrArg some (by kernel_rfl))
 f209:=Tryz.func161.trans (congrArg some (by kernel_rfl))
 t3:=Tryz.underlying3
 a3:=Tryz.isAgg3
 z3:=Tryz.sizeOf3
 v3:=Tryz.zeroValue3
 t4:=Tryz.underlying4
 a4:=Tryz.isAgg4
 z4:=Tryz.sizeOf4
 v4:=Tryz.zeroValue4
 t9:=Tryz.underlying9
 a9:=Tryz.isAgg9
 z9:=Tryz.sizeOf9
 v9:=Tryz.zeroValue9}
open Go.RowKit Go.Lib in
theorem Tryz.strings_TrimSuffix (s p:ByteArray) (w:World) (hs:s.size≤9223372036854775807):
 Calls Tryz.prog 114 #[.string s,.string p] w fun e w'=>e=.returned (.string ⟨(Lib.trimSuffix s.data.toList p.data.toList).toArray⟩)∧w'=w:=Any.strings_TrimSuffix Tryz.lays102 s p w hs
def Tryz.lays221_ren:Go.Shelf.Ren:=⟨fun|221=>160|268=>199|138=>200|143=>201|195=>225|197=>226|218=>227|219=>228|260=>244|217=>245|225=>246|224=>247|267=>248|266=>268|314=>269|n=>n,fun|9=>9|3=>3|31=>169|4=>4|0=>0|105=>269|21=>21|5=>5|46=>284|119=>299|139=>302|138=>301|146=>303|51=>154|n=>n,fun|1=>1|3=>3|4=>4|n=>n⟩
theorem Tryz.lays221:Go.Proofs.Lays.n221 Tryz.prog Tryz.lays221_ren:={
 mixed:=by kernel_rfl
 f138:=Tryz.func200.trans (congrArg some (by kernel_rfl))
 f143:=Tryz.func201.trans (congrArg some (by kernel_rfl))
 f195:=Tryz.func225.trans (congrArg some (by kernel_rfl))
 f197:=Tryz.func226.trans (congrArg some (by kernel_rfl))
 f217:=Tryz.func245.trans (congrArg some (by kernel_rfl))
 f218:=Tryz.func227.trans (congrArg some (by kernel_rfl))
 f219:=Tryz.func228.trans (congrArg some (by kernel_rfl))
 f221:=Tryz.func160.trans (congrArg some (by kernel_rfl))
 f224:=Tryz.func247.trans (congrArg some (by kernel_rfl))
 f225:=Tryz.func246.trans (congrArg some (by kernel_rfl))
 f260:=Tryz.func244.trans (congrArg some (by kernel_rfl))
 f266:=Tryz.func268.trans (congrArg some (by kernel_rfl))
 f267:=Tryz.func248.trans (congrArg some (by kernel_rfl))
 f268:=Tryz.func199.trans (congrArg some (by kernel_rfl))
 f314:=Tryz.func269.trans (congrArg some (by kernel_rfl))
 t0:=Tryz.underlying0
 a0:=Tryz.isAgg0
 z0:=Tryz.sizeOf0
 v0:=Tryz.zeroValue0
 t3:=Tryz.underlying3
 a3:=Tryz.isAgg3
 z3:=Tryz.sizeOf3
 v3:=Tryz.zeroValue3
 t4:=Tryz.underlying4
 a4:=Tryz.isAgg4
 z4:=Tryz.sizeOf4
 v4:=Tryz.zeroValue4
 t5:=Tryz.underlying5
 a5:=Tryz.isAgg5
 z5:=Tryz.sizeOf5
 v5:=Tryz.zeroValue5
 t9:=Tryz.underlying9
 a9:=Tryz.isAgg9
 z9:=Tryz.sizeOf9
 v9:=Tryz.zeroValue9
 t21:=Tryz.underlying21
 a21:=Tryz.isAgg21
 z21:=Tryz.sizeOf21
 v21:=Tryz.zeroValue21
 t31:=Tryz.underlying169
 a31:=Tryz.isAgg169
 z31:=Tryz.sizeOf169
 v31:=Tryz.zeroValue169
 t46:=Tryz.underlying284
 a46:=Tryz.isAgg284
 z46:=Tryz.sizeOf284
 v46:=Tryz.zeroValue284
 t51:=Tryz.underlying154
 a51:=Tryz.isAgg154
 z51:=Tryz.sizeOf154
 v51:=Tryz.zeroValue154
 t105:=Tryz.underlying269
 a105:=Tryz.isAgg269
 z105:=Tryz.sizeOf269
 v105:=Tryz.zeroValue269
 t119:=Tryz.underlying299
 a119:=Tryz.isAgg299
 z119:=Tryz.sizeOf299
 t138:=Tryz.underlying301
 a138:=Tryz.isAgg301
 z138:=Tryz.sizeOf301
 v138:=Tryz.zeroValue301
 t139:=Tryz.underlying302
 a139:=Tryz.isAgg302
 z139:=Tryz.sizeOf302
 v139:=Tryz.zeroValue302
 t146:=Tryz.underlying303
 a146:=Tryz.isAgg303
 z146:=Tryz.sizeOf303
 v146:=Tryz.zeroValue303
 g1:=by kernel_rfl
 g3:=by kernel_rfl
 g4:=by kernel_rfl}
open Go.RowKit Go.Lib in
theorem Tryz.genSplit_one (s:ByteArray) (c:UInt8) (w:World) (hs:s.size<4294967281):
 Calls Tryz.prog 160 #[.string s,.string ⟨#[c]⟩,.int .i64 (0:Nat),.int .i64 (-1)] w fun e w'=>
  e=.returned (.slice (some ⟨w.heap.size,0,none⟩) (Lib.splitB ⟨#[c]⟩ 0 (Lib.countB s ⟨#[c]⟩) s).length (Lib.countB s ⟨#[c]⟩+1))∧w'=w.alloc (.cells (Lib.cellsOf (Lib.splitB ⟨#[c]⟩ 0 (Lib.countB s ⟨#[c]⟩) s) (Lib.countB s ⟨#[c]⟩+1)) 9):=by
 have hcl:=Lib.countB_le ⟨#[c]⟩ (ahO 1) s.size s (ahO _);refine Any.strings_genSplit_core Tryz.lays221 (by kernel_rfl) s ⟨#[c]⟩ 0 (-1) (Lib.countB s ⟨#[c]⟩+1) w hs (ahO 1) (aiD _) (fun x d hx=>?_) ?_ (by decide) (by decide) (by rw[if_pos (by decide)];omega)
 ·refine(Tryz.strings_Index_one x c _).mono fun e w' ⟨he,hw⟩=>⟨?_,hw⟩
  rw[he];show _=Ending.returned (Value.int .i64 (Lib.index x.data.toList [c]));rw[Lib.index_one]
 ·refine(Tryz.strings_Count_one s c w).mono fun e w' ⟨he,hw⟩=>⟨?_,hw⟩
  rw[he];show _=Ending.returned (Value.int .i64 ((Lib.count s.data.toList [c]:Nat):Int));rw[Lib.count_one];rfl
def Tryz.lays156_ren:Go.Shelf.Ren:=⟨fun|156=>158|165=>198|166=>106|169=>110|240=>157|241=>224|276=>197|277=>243|n=>n,fun|31=>169|9=>9|3=>3|4=>4|0=>0|20=>20|72=>163|76=>166|70=>160|37=>161|75=>165|127=>229|164=>252|5=>5|80=>173|n=>n,fun|n=>n⟩
theorem Tryz.lays156:Go.Proofs.Lays.n156 Tryz.prog Tryz.lays156_ren:={
 mixed:=by kernel_rfl
 f156:=Tryz.func158.trans (congrArg some (by kernel_rfl))
 f165:=Tryz.func198.trans (congrArg some (by kernel_rfl))
 f166:=Tryz.func106.trans (congrArg some (by kernel_rfl))
 f169:=Tryz.func110.trans (congrArg some (by kernel_rfl))
 f240:=Tryz.func157.trans (congrArg some (by kernel_rfl))
 f241:=Tryz.func224.trans (congrArg some (by kernel_rfl))
 f276:=Tryz.func197.trans (congrArg some (by kernel_rfl))
 f277:=Tryz.func243.trans (congrArg some (by kernel_rfl))
 t0:=Tryz.underlying0
 a0:=Tryz.isAgg0
 z0:=Tryz.sizeOf0
 v0:=Tryz.zeroValue0
 t3:=Tryz.underlying3
 a3:=Tryz.isAgg3
 z3:=Tryz.sizeOf3
 v3:=Tryz.zeroValue3
 t4:=Tryz.underlying4
 a4:=Tryz.isAgg4
 z4:=Tryz.sizeOf4
 v4:=Tryz.zeroValue4
 t9:=Tryz.underlying9
 a9:=Tryz.isAgg9
 z9:=Tryz.sizeOf9
 v9:=Tryz.zeroValue9
 t20:=Tryz.underlying20
 a20:=Tryz.isAgg20
 z20:=Tryz.sizeOf20
 v20:=Tryz.zeroValue20
 t31:=Tryz.underlying169
 a31:=Tryz.isAgg169
 z31:=Tryz.sizeOf169
 v31:=Tryz.zeroValue169
 t37:=Tryz.underlying161
 a37:=Tryz.isAgg161
 z37:=Tryz.sizeOf161
 v37:=Tryz.zeroValue161
 t70:=Tryz.underlying160
 a70:=Tryz.isAgg160
 z70:=Tryz.sizeOf160
 v70:=Tryz.zeroValue160
 t72:=Tryz.underlying163
 a72:=Tryz.isAgg163
 z72:=Tryz.sizeOf163
 v72:=Tryz.zeroValue163
 t75:=Tryz.underlying165
 a75:=Tryz.isAgg165
 z75:=Tryz.sizeOf165
 v75:=Tryz.zeroValue165
 t76:=Tryz.underlying166
 a76:=Tryz.isAgg166
 z76:=Tryz.sizeOf166
 v76:=Tryz.zeroValue166
 t127:=Tryz.underlying229
 a127:=Tryz.isAgg229
 z127:=Tryz.sizeOf229
 v127:=Tryz.zeroValue229
 t164:=Tryz.underlying252
 a164:=Tryz.isAgg252
 z164:=Tryz.sizeOf252
 v164:=Tryz.zeroValue252}
theorem Tryz.Builder_Extra_156:Builder.Extra Tryz.prog Tryz.lays156_ren:={
 sizeBuilder:=by kernel_rfl
 liesBuilder:=by kernel_rfl
 t5:=Tryz.underlying5
 a5:=Tryz.isAgg5
 z5:=Tryz.sizeOf5
 v5:=Tryz.zeroValue5
 infoByte:=by kernel_rfl
 cellsByte:=by kernel_rfl
 sizeByte:=by kernel_rfl
 neB5:=by decide}
open Go.RowKit in
theorem Tryz.strings_Join_none (a:Option Addr) (c:Nat) (sep:ByteArray) (w:World):
 Calls Tryz.prog 158 #[.slice a 0 c,.string sep] w fun e w'=>e=.returned (.string ⟨#[]⟩)∧w'=w:=Any.strings_Join_none Tryz.lays156 Tryz.Builder_Extra_156 a c sep w
open Go.RowKit in
theorem Tryz.strings_Join (bk o c:Nat) (xs:List ByteArray) (sep:ByteArray) (w:World) (hcells:∀(j:Nat) x,xs[j]? =some x→w.cell? ⟨bk,o+j,none⟩=some (.string x)) (hbk:bk<w.heap.size) (hN:xs.length≤140737488355328) (hcap:xs.length≤c) (hlen:(Lib.join (xs.map (·.data.toList)) sep.data.toList).length≤140737488355328):
 Calls Tryz.prog 158 #[.slice (some ⟨bk,o,none⟩) xs.length c,.string sep] w fun e w'=>e=.returned (.string ⟨(Lib.join (xs.map (·.data.toList)) sep.data.toList).toArray⟩)∧Below w.heap.size w w':=Any.strings_Join Tryz.lays156 Tryz.Builder_Extra_156 bk o c xs sep w hcells hbk hN hcap hlen
def Tryz.laysM171_ren:Go.Shelf.Ren:=⟨fun|171=>129|243=>171|246=>209|283=>233|284=>234|285=>235|286=>236|129=>253|317=>252|318=>254|319=>255|320=>256|337=>220|338=>276|n=>n,fun|3=>3|9=>9|2=>2|4=>4|171=>274|0=>0|53=>275|37=>161|5=>5|173=>278|212=>289|51=>154|20=>20|213=>290|46=>284|232=>285|233=>323|n=>n,fun|17=>2|18=>0|19=>7|n=>n⟩
theorem Tryz.laysM171:Go.Proofs.LaysM.n171 Tryz.prog Tryz.laysM171_ren:={
 mixed:=by kernel_rfl
 f129:=Tryz.func253.trans (congrArg some (by kernel_rfl))
 f171:=Tryz.func129.trans (congrArg some (by kernel_rfl))
 f243:=Tryz.func171.trans (congrArg some (by kernel_rfl))
 f246:=Tryz.func209.trans (congrArg some (by kernel_rfl))
 f283:=Tryz.func233.trans (congrArg some (by kernel_rfl))
 f284:=Tryz.func234.trans (congrArg some (by kernel_rfl))
 f285:=Tryz.func235.trans (congrArg some (by kernel_rfl))
 f286:=Tryz.func236.trans (congrArg some (by kernel_rfl))
 f317:=Tryz.func252.trans (congrArg some (by kernel_rfl))
 f318:=Tryz.func254.trans (congrArg some (by kernel_rfl))
 f319:=Tryz.func255.trans (congrArg some (by kernel_rfl))
 f320:=Tryz.func256.trans (congrArg some (by kernel_rfl))
 f337:=Tryz.func220.trans (congrArg some (by kernel_rfl))
 f338:=Tryz.func276.trans (congrArg some (by kernel_rfl))
 t0:=Tryz.underlying0
 a0:=Tryz.isAgg0
 z0:=Tryz.sizeOf0
 v0:=Tryz.zeroValue0
 t2:=Tryz.underlying2
 a2:=Tryz.isAgg2
 z2:=Tryz.sizeOf2
 v2:=Tryz.zeroValue2
 t3:=Tryz.underlying3
 a3:=Tryz.isAgg3
 z3:=Tryz.sizeOf3
 v3:=Tryz.zeroValue3
 t4:=Tryz.underlying4
 a4:=Tryz.isAgg4
 z4:=Tryz.sizeOf4
 v4:=Tryz.zeroValue4
 t5:=Tryz.underlying5
 a5:=Tryz.isAgg5
 z5:=Tryz.sizeOf5
 v5:=Tryz.zeroValue5
 t9:=Tryz.underlying9
 a9:=Tryz.isAgg9
 z9:=Tryz.sizeOf9
 v9:=Tryz.zeroValue9
 t20:=Tryz.underlying20
 a20:=Tryz.isAgg20
 z20:=Tryz.sizeOf20
 v20:=Tryz.zeroValue20
 t37:=Tryz.underlying161
 a37:=Tryz.isAgg161
 z37:=Tryz.sizeOf161
 v37:=Tryz.zeroValue161
 t46:=Tryz.underlying284
 a46:=Tryz.isAgg284
 z46:=Tryz.sizeOf284
 v46:=Tryz.zeroValue284
 t51:=Tryz.underlying154
 a51:=Tryz.isAgg154
 z51:=Tryz.sizeOf154
 v51:=Tryz.zeroValue154
 t53:=Tryz.underlying275
 a53:=Tryz.isAgg275
 z53:=Tryz.sizeOf275
 v53:=Tryz.zeroValue275
 t171:=Tryz.underlying274
 a171:=Tryz.isAgg274
 z171:=Tryz.sizeOf274
 v171:=Tryz.zeroValue274
 t173:=Tryz.underlying278
 a173:=Tryz.isAgg278
 z173:=Tryz.sizeOf278
 v173:=Tryz.zeroValue278
 t212:=Tryz.underlying289
 a212:=Tryz.isAgg289
 z212:=Tryz.sizeOf289
 v212:=Tryz.zeroValue289
 t213:=Tryz.underlying290
 a213:=Tryz.isAgg290
 z213:=Tryz.sizeOf290
 t232:=Tryz.underlying285
 a232:=Tryz.isAgg285
 z232:=Tryz.sizeOf285
 v232:=Tryz.zeroValue285
 t233:=Tryz.underlying323
 a233:=Tryz.isAgg323
 z233:=Tryz.sizeOf323
 v233:=Tryz.zeroValue323
 g17:=by kernel_rfl
 g18:=by kernel_rfl
 g19:=by kernel_rfl
 i0:=by kernel_rfl
 i2:=by kernel_rfl
 i3:=by kernel_rfl
 i4:=by kernel_rfl
 i5:=by kernel_rfl
 i9:=by kernel_rfl
 i20:=by kernel_rfl
 i37:=by kernel_rfl
 i46:=by kernel_rfl
 i51:=by kernel_rfl
 i53:=by kernel_rfl
 i171:=by kernel_rfl
 i173:=by kernel_rfl
 i212:=by kernel_rfl
 i232:=by kernel_rfl
 i233:=by kernel_rfl
 m17:=by kernel_rfl
 m18:=by kernel_rfl
 m19:=by kernel_rfl}
open Go.RowKit Go.Sort Go.Lib in
theorem Tryz.strconv_Itoa (n:Int) (h0: -9223372036854775808≤n) (h1:n≤9223372036854775807) (w:World) (htab:Lib.TabIs Tryz.prog w "internal/strconv.uint64pow10" .u64 Lib.pow10Tab):
 Calls Tryz.prog 129 #[.int .i64 n] w fun e w'=>e=.returned (.string ⟨(Lib.itoa n).toArray⟩)∧∃k os,w'=grow (w.drewN k) os:=Any.strconv_Itoa Tryz.laysM171 n h0 h1 w htab
open Go.RowKit Go.Sort Go.Lib in
def Tryz.lays189_ren:Go.Shelf.Ren:=⟨fun|189=>219|125=>242|257=>241|128=>257|129=>253|294=>259|295=>260|296=>261|297=>262|298=>263|299=>264|216=>265|300=>266|301=>267|328=>277|329=>278|330=>279|331=>280|332=>281|215=>282|343=>286|n=>n,fun|28=>25|3=>3|46=>284|0=>0|51=>154|53=>275|4=>4|183=>293|182=>292|131=>234|5=>5|9=>9|218=>311|222=>315|228=>324|229=>63|n=>n,fun|n=>n⟩
theorem Tryz.lays189:Go.Proofs.Lays.n189 Tryz.prog Tryz.lays189_ren:={
 mixed:=by kernel_rfl
 f125:=Tryz.func242.trans (congrArg some (by kernel_rfl))
 f128:=Tryz.func257.trans (congrArg some (by kernel_rfl))
 f129:=Tryz.func253.trans (congrArg some (by kernel_rfl))
 f189:=Tryz.func219.trans (congrArg some (by kernel_rfl))
 f215:=Tryz.func282.trans (congrArg some (by kernel_rfl))
 f216:=Tryz.func265.trans (congrArg some (by kernel_rfl))
 f257:=Tryz.func241.trans (congrArg some (by kernel_rfl))
 f294:=Tryz.func259.trans (congrArg some (by kernel_rfl))
 f295:=Tryz.func260.trans (congrArg some (by kernel_rfl))
 f296:=Tryz.func261.trans (congrArg some (by kernel_rfl))
 f297:=Tryz.func262.trans (congrArg some (by kernel_rfl))
 f298:=Tryz.func263.trans (congrArg some (by kernel_rfl))
 f299:=Tryz.func264.trans (congrArg some (by kernel_rfl))
 f300:=Tryz.func266.trans (congrArg some (by kernel_rfl))
 f301:=Tryz.func267.trans (congrArg some (by kernel_rfl))
 f328:=Tryz.func277.trans (congrArg some (by kernel_rfl))
 f329:=Tryz.func278.trans (congrArg some (by kernel_rfl))
 f330:=Tryz.func279.trans (congrArg some (by kernel_rfl))
 f331:=Tryz.func280.trans (congrArg some (by kernel_rfl))
 f332:=Tryz.func281.trans (congrArg some (by kernel_rfl))
 f343:=Tryz.func286.trans (congrArg some (by kernel_rfl))
 t0:=Tryz.underlying0
 a0:=Tryz.isAgg0
 z0:=Tryz.sizeOf0
 v0:=Tryz.zeroValue0
 t3:=Tryz.underlying3
 a3:=Tryz.isAgg3
 z3:=Tryz.sizeOf3
 v3:=Tryz.zeroValue3
 t4:=Tryz.underlying4
 a4:=Tryz.isAgg4
 z4:=Tryz.sizeOf4
 v4:=Tryz.zeroValue4
 t5:=Tryz.underlying5
 a5:=Tryz.isAgg5
 z5:=Tryz.sizeOf5
 v5:=Tryz.zeroValue5
 t9:=Tryz.underlying9
 a9:=Tryz.isAgg9
 z9:=Tryz.sizeOf9
 v9:=Tryz.zeroValue9
 t28:=Tryz.underlying25
 a28:=Tryz.isAgg25
 z28:=Tryz.sizeOf25
 v28:=Tryz.zeroValue25
 t46:=Tryz.underlying284
 a46:=Tryz.isAgg284
 z46:=Tryz.sizeOf284
 v46:=Tryz.zeroValue284
 t51:=Tryz.underlying154
 a51:=Tryz.isAgg154
 z51:=Tryz.sizeOf154
 v51:=Tryz.zeroValue154
 t53:=Tryz.underlying275
 a53:=Tryz.isAgg275
 z53:=Tryz.sizeOf275
 v53:=Tryz.zeroValue275
 t131:=Tryz.underlying234
 a131:=Tryz.isAgg234
 z131:=Tryz.sizeOf234
 v131:=Tryz.zeroValue234
 t182:=Tryz.underlying292
 a182:=Tryz.isAgg292
 z182:=Tryz.sizeOf292
 v182:=Tryz.zeroValue292
 t183:=Tryz.underlying293
 a183:=Tryz.isAgg293
 z183:=Tryz.sizeOf293
 v183:=Tryz.zeroValue293
 t218:=Tryz.underlying311
 a218:=Tryz.isAgg311
 z218:=Tryz.sizeOf311
 v218:=Tryz.zeroValue311
 t222:=Tryz.underlying315
 a222:=Tryz.isAgg315
 z222:=Tryz.sizeOf315
 v222:=Tryz.zeroValue315
 t228:=Tryz.underlying324
 a228:=Tryz.isAgg324
 z228:=Tryz.sizeOf324
 v228:=Tryz.zeroValue324
 t229:=Tryz.underlying63
 a229:=Tryz.isAgg63
 z229:=Tryz.sizeOf63
 v229:=Tryz.zeroValue63}
open Go.Sort Go.RowKit in
theorem Tryz.slices_Sort_int (blk off cap:Nat) (zs:List Int) (w:World) (hH:Holds (Value.int .i64) w blk off zs.toArray) (hblk:blk<w.heap.size) (hsz:zs.length<4611686018427387904):
 Calls Tryz.prog 219 #[.slice (some ⟨blk,off,none⟩) zs.length cap] w fun e w'=>
  e=.returned (.tuple #[])∧∃n os,w'=grow (putRow (Value.int .i64) (Sort.ahead w n) blk off (zs.mergeSort fun x y=>decide (x≤y)).toArray) os:=Any.slices_Sort_int Tryz.lays189 blk off cap zs w hH hblk hsz
end Go.Proofs
namespace Go.Eng.YtcechbdgokjmgaaGreatDoor
open Go.Proofs
set_option linter.unusedSimpArgs false
set_option linter.unusedVariables false
set_option maxHeartbeats 0
set_option maxRecDepth 100000
theorem agt:te3.bytes=8:=by rfl
theorem agu:te4.bytes=1:=by rfl
theorem agv:te3.size=1:=by rfl
theorem agw:te4.size=1:=by rfl
theorem aek:Bf.size=1:=by rfl
theorem Bg:FD.size=4:=by rfl
theorem vn:(∀(cs:List PV),CL.cnt (.pv cs)=cs.length)∧(∀(cs:List PV),CL.ncell (.pv cs)=cs.length)∧(∀(k:IntKind) (xs:List Int),CL.cnt (.ints k xs)=xs.length)∧(∀(k:IntKind) (xs:List Int),CL.ncell (.ints k xs)=xs.length)∧(∀(xs:List Bool),CL.cnt (.bools xs)=xs.length)∧(∀(xs:List Bool),CL.ncell (.bools xs)=xs.length)∧(∀(xs:List ByteArray),CL.cnt (.strs xs)=xs.length)∧(∀(xs:List ByteArray),CL.ncell (.strs xs)=xs.length)∧(∀(k:IntKind) (xss:List (List Int)),CL.cnt (.rows k xss)=xss.length)∧(∀(k:IntKind) (xss:List (List Int)),CL.ncell (.rows k xss)=xss.length)∧(∀(m:Nat) (rs:List (List PV)),CL.cnt (.recs m rs)=rs.length)∧(∀(m:Nat) (rs:List (List PV)),CL.ncell (.recs m rs)=rs.length*m)∧(∀(n:Nat) (f:Nat→PV),CL.cnt (.gen n f)=n)∧(∀(n:Nat) (f:Nat→PV),CL.ncell (.gen n f)=n)∧(∀(m n:Nat) (f:Nat→List PV),CL.cnt (.genr m n f)=n)∧(∀(m n:Nat) (f:Nat→List PV),CL.ncell (.genr m n f)=n*m):=
 ⟨fun _=>rfl,fun _=>rfl,fun _ _=>rfl,fun _ _=>rfl,fun _=>rfl,fun _=>rfl,fun _=>rfl,fun _=>rfl,fun _ _=>rfl,fun _ _=>rfl,fun _ _=>rfl,fun _ _=>rfl,fun _ _=>rfl,fun _ _=>rfl,fun _ _ _=>rfl,fun _ _ _=>rfl⟩
theorem vp:((∀(cs:List PV),CL.cnt (.pv cs)=cs.length)∧(∀(cs:List PV),CL.ncell (.pv cs)=cs.length)∧(∀(k:IntKind) (xs:List Int),CL.cnt (.ints k xs)=xs.length)∧(∀(k:IntKind) (xs:List Int),CL.ncell (.ints k xs)=xs.length)∧(∀(xs:List Bool),CL.cnt (.bools xs)=xs.length)∧(∀(xs:List Bool),CL.ncell (.bools xs)=xs.length)∧(∀(xs:List ByteArray),CL.cnt (.strs xs)=xs.length)∧(∀(xs:List ByteArray),CL.ncell (.strs xs)=xs.length)∧(∀(k:IntKind) (xss:List (List Int)),CL.cnt (.rows k xss)=xss.length)∧(∀(k:IntKind) (xss:List (List Int)),CL.ncell (.rows k xss)=xss.length)∧(∀(m:Nat) (rs:List (List PV)),CL.cnt (.recs m rs)=rs.length)∧(∀(m:Nat) (rs:List (List PV)),CL.ncell (.recs m rs)=rs.length*m)∧(∀(n:Nat) (f:Nat→PV),CL.cnt (.gen n f)=n)∧(∀(n:Nat) (f:Nat→PV),CL.ncell (.gen n f)=n)∧(∀(m n:Nat) (f:Nat→List PV),CL.cnt (.genr m n f)=n)∧(∀(m n:Nat) (f:Nat→List PV),CL.ncell (.genr m n f)=n*m))∧Bf.size=1∧(∀n:Nat,((n:Int)).toNat=n)∧te3.bytes=8∧te4.bytes=1∧te3.size=1∧te4.size=1∧(∀n:Nat,n*1=n)∧(∀n:Nat,0+n=n)∧((false=true)=False)∧((true=false)=False):=
 ⟨vn,aek,aiV,agt,agu,agv,agw,aip,aic,by simp,by simp⟩
theorem vq:(∀(p:Prop) [Decidable p],(decide p=true)=p)∧(∀(p:Prop) [Decidable p],(decide p=false)=¬p)∧(∀b:Bool,(¬b=true)=(b=false))∧((!false)=true)∧((!true)=false)∧(∀p:Prop,(p∧p)=p)∧(∀p:Prop,(p∧True)=p)∧(∀p:Prop,(True∧p)=p)∧(∀(α:Type) (a:α) (l:List α),(a::l).length=l.length+1)∧(∀α:Type,([]:List α).length=0)∧((∀(cs:List PV),CL.cnt (.pv cs)=cs.length)∧(∀(cs:List PV),CL.ncell (.pv cs)=cs.length)∧(∀(k:IntKind) (xs:List Int),CL.cnt (.ints k xs)=xs.length)∧(∀(k:IntKind) (xs:List Int),CL.ncell (.ints k xs)=xs.length)∧(∀(xs:List Bool),CL.cnt (.bools xs)=xs.length)∧(∀(xs:List Bool),CL.ncell (.bools xs)=xs.length)∧(∀(xs:List ByteArray),CL.cnt (.strs xs)=xs.length)∧(∀(xs:List ByteArray),CL.ncell (.strs xs)=xs.length)∧(∀(k:IntKind) (xss:List (List Int)),CL.cnt (.rows k xss)=xss.length)∧(∀(k:IntKind) (xss:List (List Int)),CL.ncell (.rows k xss)=xss.length)∧(∀(m:Nat) (rs:List (List PV)),CL.cnt (.recs m rs)=rs.length)∧(∀(m:Nat) (rs:List (List PV)),CL.ncell (.recs m rs)=rs.length*m)∧(∀(n:Nat) (f:Nat→PV),CL.cnt (.gen n f)=n)∧(∀(n:Nat) (f:Nat→PV),CL.ncell (.gen n f)=n)∧(∀(m n:Nat) (f:Nat→List PV),CL.cnt (.genr m n f)=n)∧(∀(m n:Nat) (f:Nat→List PV),CL.ncell (.genr m n f)=n*m))∧Bf.size=1∧(∀n:Nat,((n:Int)).toNat=n)∧te3.bytes=8∧te4.bytes=1∧te3.size=1∧te4.size=1∧(∀n:Nat,n*1=n)∧(∀n:Nat,0+n=n)∧((false=true)=False)∧((true=false)=False):=
 ⟨fun p _=>decide_eq_true_eq,fun p _=>propext decide_eq_false_iff_not,fun b=>by simp,rfl,rfl,and_self,and_true,true_and,fun _ _ _=>rfl,fun _=>rfl,vp⟩
def fC:PSp:=fun xs K=>match xs with
 | [.bp h,.int .i64 e]=>K (.int .i64 (if h then e else 0))
 | [.bool h,.int .i64 e]=>K (.int .i64 (if h then e else 0))
 |_=>False
def aJ:List Int→Int
 | []=>0
 |x::r=>if x=0 then aJ r else x
theorem qG:∀(l:List Int),(∀i,i<l.length→l.getD i 0=0)→aJ l=0:=by
 intro l;induction l with
 |nil=>intro _;rfl
 |cons x r ih=>
  intro h;have h0:=h 0 (by simp)
  simp at h0;subst h0;exact ih fun i hi=>by simpa using h (i+1) (by simpa using hi)
theorem jq:∀(l:List Int) (k:Nat),k<l.length→(∀i,i<k→l.getD i 0=0)→l.getD k 0≠0→aJ l=l.getD k 0:=by
 intro l;induction l with
 |nil=>intro k hk;simp at hk
 |cons x r ih=>
  intro k hk h hne;cases k with
  |zero=>simp at hne;simp[aJ,hne]
  |succ k=>
   have h0:=h 0 (by omega)
   simp at h0;subst h0;have:=ih k (by simpa using hk) (fun i hi=>by simpa using h (i+1) (by omega)) (by simpa using hne)
   simp[aJ,this]
theorem Rs {go:List PV→Bool} {L:List PV} {i:Nat} {x:PV} (h:L[i]? =some x) (hg:GoTo go L i):Nxt go L (L.take i) x:=⟨i,(ajz.1 h).1,rfl,h,hg⟩
def itB (n:Int):ByteArray:=⟨(Go.Lib.itoa n).toArray⟩
def oO (n:Int):Prop:= -9223372036854775808≤n∧n≤9223372036854775807
theorem qH {n:Int} (h:oO n):(itB n).size≤21:=by
 have:=Go.Lib.itoa_length_le n h.1 h.2;simpa [itB,ByteArray.size]using this
theorem Rt {S:Imm} {w:World} (h:gB S w):Lib.TabIs Tryz.prog w "internal/strconv.uint64pow10" .u64 Lib.pow10Tab:=by
 obtain⟨h0,h1⟩:=h 2 _ rfl;have e:oh=Lib.pow10Tab:=by decide
 unfold Lib.TabIs World.var?;rw[show Tryz.prog.globalNamed "internal/strconv.uint64pow10" =some 2 from by kernel_rfl,ajf,←e]
 unfold bsz at h0;split at h0
 ·rename_i cs t f hb
  rw[hb];refine congrArg some (Array.ext_getElem? fun j=>?_);have hsz:cs.size=oh.length:=by simpa [CL.ncell]using h0
  rcases Nat.lt_or_ge j oh.length with hj|hj
  ·obtain⟨_,hr⟩:=h1 j (by simpa [CL.ncell]using hj)
   have h2:rd w 2 j=some cs[j]:=by simp[rd,hb,hsz,hj]
   have h3:rdv w 2 j=cs[j]:=by unfold rdv;rw[h2];rfl
   rw[h3]at hr;rw[Array.getElem?_eq_getElem (by omega)]
   have h4:(CL.ints .u64 oh).get j=.int .u64 (oh.getD j 0):=rfl;rw[h4]at hr;generalize cs[j]=y at hr
   cases hr
   simp[ahZ,hj]
  ·rw[ahQ (by omega),ahQ (by simpa using hj)]
 ·cases h0
theorem Ru (n:Int) (h:oO n):aF Tryz.prog 129 [.int .i64 n] (.str (itB n)):=by
 refine rG (enters' Tryz.func129 (by rfl) (by rfl)) fun S w vs hg himm hA=>?_
 have h0:=hA.2 0 (by simp)
 have hsz:vs.size=1:=hA.1.symm;simp only[aD]at h0;have hvs:vs= #[vs.getD 0 undef]:=by
  apply ai5 (by simp[hsz])
  intro i h1 h2;have:i=0:=by omega
  subst this;simp[ahW,h1]
 rw[hvs];generalize vs.getD 0 undef=v0 at h0
 cases h0
 refine⟨_,.str _ _,?_⟩;refine(Tryz.strconv_Itoa n h.1 h.2 w (Rt hg)).mono ?_
 rintro e w' ⟨rfl,k,os,rfl⟩
 exact⟨rfl,Lib.below_grow _ _ (ahO _) _ _⟩
def FE:PSp:=fun xs K=>match xs with
 | [.int .i64 n]=>VC (oO n)∧K (.str (itB n))
 |_=>False
theorem Lj:POK Tryz.prog 129 FE:=by
 intro xs K h;unfold FE at h;split at h
 ·exact⟨_,h.2,Ru _ h.1.get⟩
 ·exact h.elim
def joB (xs:List ByteArray) (sep:ByteArray):ByteArray:=⟨(Go.Lib.join (xs.map (·.data.toList)) sep.data.toList).toArray⟩
theorem Rv (xs:List ByteArray) (sep:ByteArray) (h:xs.length≤1000000) (hl:(joB xs sep).size≤140737488355328):aF Tryz.prog 158 [.isl (.strs xs) .none,.str sep] (.str (joB xs sep)):=by
 refine iR (enters' Tryz.func158 (by rfl) (by rfl)) fun S w vs himm hA=>?_
 have h0:=hA.2 0 (by simp)
 have h1:=hA.2 1 (by simp)
 have hsz:vs.size=2:=hA.1.symm;simp only[aD]at h0 h1;have hvs:vs= #[vs.getD 0 undef,vs.getD 1 undef]:=by
  apply ai5 (by simp[hsz])
  intro i h1 h2;have:i=0∨i=1:=by omega
  rcases this with rfl|rfl<;>simp[ahW,h1]
 rw[hvs];generalize vs.getD 0 undef=v0 at h0
 generalize vs.getD 1 undef=v1 at h1
 cases h1
 refine⟨.string (joB xs sep),.str _ _,?_⟩;rcases Rj himm h0 with⟨a,rfl,rfl⟩|⟨b,off,cap,rfl,hc,hcell,hb⟩
 ·refine(Tryz.strings_Join_none a 0 sep w).mono ?_
  rintro e w' ⟨rfl,rfl⟩
  exact⟨rfl,.refl _ _⟩
 ·rcases aiC xs.length with hz|hz
  ·obtain rfl:xs=[]:=List.eq_nil_of_length_eq_zero hz
   refine(Tryz.strings_Join_none (some ⟨b,off,none⟩) cap sep w).mono ?_
   rintro e w' ⟨rfl,rfl⟩
   exact⟨rfl,.refl _ _⟩
  ·refine(Tryz.strings_Join b off cap xs sep w hcell (hb hz) (by omega) hc (by simpa [joB,ByteArray.size]using hl)).mono ?_
   rintro e w' ⟨rfl,hB⟩
   exact⟨rfl,hB⟩
def OA:PSp:=fun xs K=>match xs with
 | [.isl (.strs xs) .none,.str sep]=>VC (xs.length≤1000000∧(joB xs sep).size≤140737488355328)∧K (.str (joB xs sep))
 |_=>False
theorem aaL:POK Tryz.prog 158 OA:=by
 intro xs K h;unfold OA at h;split at h
 ·exact⟨_,h.2,Rv _ _ h.1.get.1 h.1.get.2⟩
 ·exact h.elim
def kBl:ByteArray:=⟨#[32]⟩
theorem aaM {xs:List ByteArray} {b:Nat} (h:∀x∈xs,x.size≤b):Go.Lib.lens (xs.map (·.data.toList))≤xs.length*b:=by
 induction xs with
 |nil=>simp[Go.Lib.lens]
 |cons x xs ih=>
  have h1:=ih fun y hy=>h y (ajx _ hy);have h2:=h x (ajM ..);simp only[Go.Lib.lens,ajN,List.sum_cons,ahK]at h1⊢;have h3:x.data.toList.length=x.size:=by rw[ais];rfl
  rw[h3,ahN];omega
theorem Ht {xs:List ByteArray} {b:Nat} (h:∀x∈xs,x.size≤b):(joB xs kBl).size≤xs.length*(b+1):=by
 cases xs with
 |nil=>exact aiD _
 |cons x xs=>
  have h1:=aaM (xs:=xs) fun y hy=>h y (ajx _ hy);have h2:=h x (ajM ..);have h3:x.data.toList.length=x.size:=by rw[ais];rfl
  have e:(joB (x::xs) kBl).size=x.size+(xs.length+Go.Lib.lens (xs.map (·.data.toList))):=by
   show(List.toArray _).size=_;have e1:kBl.data.toList.length=1:=rfl;rw[List.size_toArray,ajN,Go.Lib.join_cons,ai7,Go.Lib.joinTail_length,ajO,e1,h3,Nat.one_mul]
  rw[e,ahK,ahN,ajP];omega
noncomputable def agx:CPT:=aA 158 (aB OA) noC
theorem aaN:aW Tryz.prog agx:=aj (ak aaL) aC
theorem OB (xs:List ByteArray) (h:xs.length≤1000000) (hl:(joB xs kBl).size≤140737488355328):aF Tryz.prog 107 [.isl (.strs xs) .none] (.str (joB xs kBl)):=by
 unfold kBl at*;refine av (md:=1) (rf:=[]) mixed au aaN Tryz.func107 (by rfl) (by rfl) (by rfl) ?_
 repeat'((conv=>whnf);first|intro _|apply aI|with_reducible exact vM rfl|exact⟨⟩|apply nM|apply fM)
 all_goals((try apply vM);(try simp only[vq]at*);try omega)
 all_goals first|exact⟨h,hl⟩|exact Sup.of rfl|exact fun h=>h
structure Vf (xs:List ByteArray) (n:Nat):Prop where
 len:xs.length≤n
 sz:∀x∈xs,x.size≤4000
def Bh:PSp:=fun xs K=>match xs with
 | [.isl (.strs ws) .none]=>VC (Vf ws 1000000)∧K (.str (joB ws kBl))
 |_=>False
theorem Hu:POK Tryz.prog 107 Bh:=by
 intro xs K hk;unfold Bh at hk;split at hk
 ·refine⟨_,hk.2,OB _ hk.1.get.len ?_⟩
  have h1:=Ht hk.1.get.sz;have h2:=hk.1.get.len;have:(4000+1)*1000000≤140737488355328:=by decide
  refine ajC h1 (ajC (Nat.mul_le_mul_right _ h2) ?_);decide
 ·exact hk.elim
def oC (l:List Int) (m:Nat):List ByteArray:=(l.take m).map itB
theorem Kv (l:List Int) (m:Nat) (h:m<l.length):oC l (m+1)=oC l m++[itB (l.getD m 0)]:=by
 unfold oC;rw[ajQ,ajR,ahZ,ah4 h];rfl
theorem Bj (l:List Int) (m:Nat) (h:m≤l.length):(oC l m).length=m:=by simp[oC];omega
noncomputable def agy:CPT:=aA 129 (aB FE) noC
theorem Ll:aW Tryz.prog agy:=aj (ak Lj) aC
structure Vg (l:List Int):Prop where
 len:l.length≤1000000
 num:∀i,i<l.length→oO (l.getD i 0)
theorem OC (l:List Int) (h:Vg l):aF Tryz.prog 108 [.isl (.ints .i64 l) .none] (.isl (.strs (l.map itB)) .none):=by
 obtain⟨hl,hn⟩:=h;refine av (md:=1) (rf:=[]) mixed au Ll Tryz.func108 (by rfl) (by rfl) (by rfl) ?_
 repeat'((conv=>whnf);first|intro _|apply aI|with_reducible exact vM rfl|exact⟨⟩|apply nM|apply fM)
 all_goals((try apply vM);(try simp only[vq]at*);try omega)
 conv=>whnf
 refine aM (X:=Nat) (fun i=>i≤l.length) (fun i=>[(8,.int .i64 i),(3,.isl (.strs (oC l i)) (.own 3)),(5,.any)]) (fun i=>[(3,.tok 1 i)]) (fun i=>l.length-i) 0 ⟨aK,mixed,au,Ll,aP⟩ (by rfl) (by omega) ?_ ?_
 ·repeat'((conv=>whnf);first|intro _|apply aI|with_reducible exact vM rfl|exact⟨⟩|apply nM|apply fM)
  all_goals((try apply vM);(try simp only[vq]at*);try omega)
 intro i hi;by_cases hlt:i<l.length
 ·have e0:=Bj l i hi
  have e1:=Kv l i hlt;have e2:=hn i hlt
  repeat'((conv=>whnf);first|intro _|apply aI|with_reducible exact vM rfl|exact⟨⟩|apply nM|apply fM)
  all_goals((try apply vM);(try simp only[vq]at*);try omega)
  all_goals(try exact e2)
  all_goals(try(simp only[ai7,ahK,ahG];omega))
  refine⟨i+1,[],⟨by omega,by omega⟩,?_⟩
  repeat'((conv=>whnf);first|intro _|apply aI|with_reducible exact vM rfl|exact⟨⟩|apply nM|apply fM)
  all_goals((try apply vM);(try simp only[vq]at*);try omega)
  all_goals(try(rw[e1]))
 ·have:l.length=i:=by omega
  subst this;have e0:=Bj l l.length (ahO _);have e3:oC l l.length=l.map itB:=by unfold oC;rw[ajS]
  repeat'((conv=>whnf);first|intro _|apply aI|with_reducible exact vM rfl|exact⟨⟩|apply nM|apply fM)
  all_goals((try apply vM);(try simp only[vq]at*);try omega)
  rw[e3];exact Sup.of rfl
def Hw:PSp:=fun xs K=>match xs with
 | [.isl (.ints .i64 l) .none]=>VC (Vg l)∧K (.isl (.strs (l.map itB)) .none)
 |_=>False
theorem Vh:POK Tryz.prog 108 Hw:=by
 intro xs K h;unfold Hw at h;split at h
 ·exact⟨_,h.2,OC _ h.1.get⟩
 ·exact h.elim
end Go.Eng.YtcechbdgokjmgaaGreatDoor
namespace Go.Eng.YtcechbdgokjmgaaGreatDoor
open Go.Proofs Go.RowKit
set_option linter.unusedSimpArgs false
set_option linter.unusedVariables false
set_option maxHeartbeats 0
set_option maxRecDepth 100000
def spl (c:UInt8):List UInt8→List (List UInt8)
 | []=>[[]]
 |x::r=>if x=c then []::spl c r else match spl c r with
  | []=>[]
  |a::t=>(x::a)::t
theorem Rx (c:UInt8):∀l,spl c l≠[]:=by
 intro l;induction l with
 |nil=>simp[spl]
 |cons x r ih=>
  unfold spl;split
  ·simp
  ·cases h:spl c r with
   |nil=>exact absurd h ih
   |cons a t=>simp
theorem OD (c:UInt8):∀(l:List UInt8),Go.Lib.splitK [c] 0 (l.count c) l=spl c l:=by
 intro l;induction l with
 |nil=>rfl
 |cons x r ih=>
  by_cases e:x=c
  ·subst e
   have hi:Go.Lib.index (x::r) [x]=0:=by rw[Go.Lib.index_one];simp[Go.Lib.indexByte]
   rw[List.count_cons_self];unfold Go.Lib.splitK;rw[hi,if_neg (by decide)]
   show []::Go.Lib.splitK [x] 0 (r.count x) r=_;rw[ih];unfold spl;rw[if_pos rfl];cases r<;>rfl
  ·rw[List.count_cons_of_ne e]
   have hs:spl c (x::r)=match spl c r with| []=>[]|a::t=>(x::a)::t:=by
    conv=>lhs;unfold spl
    rw[if_neg e]
   rw[hs,←ih];cases hk:r.count c with
   |zero=>rfl
   |succ k=>
    have hi:Go.Lib.index (x::r) [c]=if Go.Lib.index r [c]= -1 then-1 else Go.Lib.index r [c]+1:=by
     rw[Go.Lib.index_one,Go.Lib.index_one];conv=>lhs;unfold Go.Lib.indexByte
     simp[e]
    have hne:Go.Lib.index r [c]≠ -1:=fun h=>by
     rw[Go.Lib.index_one]at h;have:=Go.Lib.indexByte_none h;have hm:c∈r:=List.count_pos_iff.1 (by omega)
     obtain⟨i,hi,he⟩:=ah3 hm;exact this i (by rw[ah4 hi,he])
    have hge:=Go.Lib.indexByte_ge r c;rw[←Go.Lib.index_one]at hge;unfold Go.Lib.splitK;rw[hi,if_neg hne,if_neg (by simp;omega),if_neg (by simpa using hne)]
    obtain⟨n,hn⟩:∃n:Nat,Go.Lib.index r [c]=n:=⟨(Go.Lib.index r [c]).toNat,by omega⟩
    rw[hn];rfl
def dM (c:UInt8) (s:ByteArray):List ByteArray:=(spl c s.data.toList).map fun l=>⟨l.toArray⟩
theorem Bl (c:UInt8) (s:ByteArray):Go.Lib.splitB ⟨#[c]⟩ 0 (Go.Lib.countB s ⟨#[c]⟩) s=dM c s:=by
 have h:=Go.Lib.splitB_data ⟨#[c]⟩ 0 (Go.Lib.countB s ⟨#[c]⟩) s;have e:Go.Lib.countB s ⟨#[c]⟩=s.data.toList.count c:=Go.Lib.count_one c _;rw[e]at h⊢;unfold dM;rw[←OD,show Go.Lib.splitK [c] 0 (s.data.toList.count c) s.data.toList=Go.Lib.splitK (ByteArray.mk #[c]).data.toList 0 (s.data.toList.count c) s.data.toList from rfl,←h,List.map_map];conv=>lhs;rw[←List.map_id (Go.Lib.splitB _ _ _ _)]
 rfl
theorem Vi (s:ByteArray) (c:UInt8) (hs:s.size<4294967281):aF Tryz.prog 160 [.str s,.str ⟨#[c]⟩,.int .i64 0,.int .i64 (-1)] (.isl (.strs (dM c s)) .none):=by
 refine G7 (enters' Tryz.func160 (by rfl) (by rfl)) (.strs (dM c s)) fun S w vs himm hA=>?_
 have h0:=hA.2 0 (by simp)
 have h1:=hA.2 1 (by simp)
 have h2:=hA.2 2 (by simp)
 have h3:=hA.2 3 (by simp)
 have hsz:vs.size=4:=hA.1.symm;simp only[aD]at h0 h1 h2 h3;have hvs:vs= #[vs.getD 0 undef,vs.getD 1 undef,vs.getD 2 undef,vs.getD 3 undef]:=by
  apply ai5 (by simp[hsz])
  intro i h1 h2;have:i=0∨i=1∨i=2∨i=3:=by omega
  rcases this with rfl|rfl|rfl|rfl<;>simp[ahW,h1]
 rw[hvs];generalize vs.getD 0 undef=v0 at h0
 generalize vs.getD 1 undef=v1 at h1
 generalize vs.getD 2 undef=v2 at h2
 generalize vs.getD 3 undef=v3 at h3
 cases h0;cases h1;cases h2;cases h3
 have hlen:(dM c s).length=Go.Lib.countB s ⟨#[c]⟩+1:=by rw[←Bl];exact Go.Lib.splitB_all ⟨#[c]⟩ (ahO 1) 0 _ s rfl
 have hcl:=Tryz.genSplit_one s c w hs;rw[Bl]at hcl;refine⟨Go.Lib.cellsOf (dM c s) (Go.Lib.countB s ⟨#[c]⟩+1),9,Go.Lib.countB s ⟨#[c]⟩+1,?_,?_,fun j hj S' w'=>?_,hcl⟩
 ·simp only[CL.cnt];omega
 ·simp only[CL.ncell];rw[Go.Lib.cellsOf_size (by omega)];omega
 ·simp only[CL.ncell]at hj
  have:(Go.Lib.cellsOf (dM c s) (Go.Lib.countB s ⟨#[c]⟩+1)).getD j undef=.string ((dM c s).getD j .empty):=by
   rw[←hlen,Go.Lib.cellsOf_full];simp[ahW,ahZ,hj]
  rw[this];exact .str _ _
def Vj:PSp:=fun xs K=>match xs with
 | [.str s,.str sep,.int .i64 a,.int .i64 b]=>∃c:UInt8,VC (sep=⟨#[c]⟩∧a=0∧b= -1∧s.size<4294967281)∧K (.isl (.strs (dM c s)) .none)
 |_=>False
theorem ael:POK Tryz.prog 160 Vj:=by
 intro xs K hk;unfold Vj at hk;split at hk
 ·obtain⟨c,⟨rfl,rfl,rfl,h⟩,hk⟩:=hk
  exact⟨_,hk,Vi _ _ h⟩
 ·exact hk.elim
noncomputable def agz:CPT:=aA 160 (aB Vj) noC
theorem aaO:aW Tryz.prog agz:=aj (ak ael) aC
theorem OE (s:ByteArray) (c:UInt8) (hs:s.size<4294967281):aF Tryz.prog 113 [.str s,.str ⟨#[c]⟩] (.isl (.strs (dM c s)) .none):=by
 refine av (md:=1) (rf:=[]) mixed au aaO Tryz.func113 (by rfl) (by rfl) (by rfl) ?_
 repeat'((conv=>whnf);first|refine Exists.intro (c) ?_|(intro hq;(try simp only[vw]at hq);try first|exact absurd hq (by decide)|exfalso;omega)|apply aI|with_reducible exact vM rfl|exact⟨⟩|apply nM|apply fM)
 all_goals((try apply vM);(try simp only[vq]at*);try omega)
 all_goals first|exact hs|exact⟨rfl,rfl,rfl,hs⟩|exact Sup.of rfl|skip
def Bn:PSp:=fun xs K=>match xs with
 | [.str s,.str sep]=>∃c:UInt8,VC (sep=⟨#[c]⟩∧s.size<4294967281)∧K (.isl (.strs (dM c s)) .none)
 |_=>False
theorem Hy:POK Tryz.prog 113 Bn:=by
 intro xs K hk;unfold Bn at hk;split at hk
 ·obtain⟨c,⟨rfl,h⟩,hk⟩:=hk
  exact⟨_,hk,OE _ _ h⟩
 ·exact hk.elim
theorem zC {S:Imm} {w:World} {s p:ByteArray} {vs:Array Value} (h:bF S w noI [.str s,.str p] vs):vs= #[.string s,.string p]:=by
 obtain⟨v,u,rfl,h1,h2⟩:=G6 h;cases h1;cases h2;rfl
def Hz (s p:ByteArray):Bool:=Go.Lib.hasSuffix s.data.toList p.data.toList
theorem Vk (s p:ByteArray) (hs:s.size≤9223372036854775807):aF Tryz.prog 112 [.str s,.str p] (.bp (Hz s p)):=by
 refine iR (enters' Tryz.func112 (by rfl) (by rfl)) fun S w vs himm hA=>?_
 rw[zC hA];refine⟨_,.bp _ _,(Tryz.strings_HasSuffix s p w hs).mono ?_⟩
 rintro e w' ⟨rfl,rfl⟩
 exact⟨rfl,.refl _ _⟩
def Vl:PSp:=fun xs K=>match xs with
 | [.str s,.str p]=>VC (s.size≤9223372036854775807)∧K (.bp (Hz s p))
 |_=>False
theorem aem:POK Tryz.prog 112 Vl:=by
 intro xs K h;unfold Vl at h;split at h
 ·exact⟨_,h.2,Vk _ _ h.1.get⟩
 ·exact h.elim
def jO (s p:ByteArray):ByteArray:=⟨(Go.Lib.trimSuffix s.data.toList p.data.toList).toArray⟩
theorem Vm (s p:ByteArray) (hs:s.size≤9223372036854775807):aF Tryz.prog 114 [.str s,.str p] (.str (jO s p)):=by
 refine iR (enters' Tryz.func114 (by rfl) (by rfl)) fun S w vs himm hA=>?_
 rw[zC hA];refine⟨_,.str _ _,(Tryz.strings_TrimSuffix s p w hs).mono ?_⟩
 rintro e w' ⟨rfl,rfl⟩
 exact⟨rfl,.refl _ _⟩
def Vn:PSp:=fun xs K=>match xs with
 | [.str s,.str p]=>VC (s.size≤9223372036854775807)∧K (.str (jO s p))
 |_=>False
theorem aen:POK Tryz.prog 114 Vn:=by
 intro xs K h;unfold Vn at h;split at h
 ·exact⟨_,h.2,Vm _ _ h.1.get⟩
 ·exact h.elim
def kU (s p:ByteArray):ByteArray:=⟨(Go.Lib.trimPrefix s.data.toList p.data.toList).toArray⟩
def preB (s p:ByteArray):Bool:=Go.Lib.hasPrefix s.data.toList p.data.toList
theorem Vo (s p:ByteArray):aF Tryz.prog 229 [.str s,.str p] (.tup [.str (kU s p),.bp (preB s p)]):=by
 refine iR (enters' Tryz.func229 (by rfl) (by rfl)) fun S w vs himm hA=>?_
 rw[zC hA];refine⟨.tuple #[.string (kU s p),.bool (preB s p)],.tup _ _ _ rfl (fun i hi=>by
  match i,hi with
  |0,_=>exact .str _ _
  |1,_=>exact .bp _ _),(Tryz.strings_CutPrefix s p w).mono ?_⟩
 rintro e w' ⟨rfl,rfl⟩
 exact⟨rfl,.refl _ _⟩
def Vp:PSp:=fun xs K=>match xs with
 | [.str s,.str p]=>VC (True)∧K (.tup [.str (kU s p),.bp (preB s p)])
 |_=>False
theorem aeo:POK Tryz.prog 229 Vp:=by
 intro xs K h;unfold Vp at h;split at h
 ·exact⟨_,h.2,Vo _ _⟩
 ·exact h.elim
theorem Ry (s:ByteArray) (n:Int) (hl:s.size≤18) (h:Go.Lib.atoi s.data.toList=some n):aF Tryz.prog 230 [.str s] (.tup [.int .i64 n,.nili]):=by
 refine iR (enters' Tryz.func230 (by rfl) (by rfl)) fun S w vs himm hA=>?_
 obtain⟨v,rfl,h1⟩:=zu hA;cases h1
 refine⟨.tuple #[.int .i64 n,.nilIface],.tup _ _ _ rfl (fun i hi=>by
  match i,hi with
  |0,_=>exact .int _ _ _
  |1,_=>exact .nili _),(Tryz.strconv_Atoi s n hl h w).mono ?_⟩
 rintro e w' ⟨rfl,t,rfl⟩
 exact⟨rfl,⟨by unfold Lib.bytesWorld World.freeze;split<;>rfl,by unfold Lib.bytesWorld World.freeze;split<;>rfl,by unfold Lib.bytesWorld World.freeze;split<;>rfl,by rw[Lib.bytesWorld_size];omega,fun i hi=>Lib.bytesWorld_at_old w 5 t i hi⟩⟩
def OG:PSp:=fun xs K=>match xs with
 | [.str s]=>∃n:Int,VC (s.size≤18∧Go.Lib.atoi s.data.toList=some n)∧K (.tup [.int .i64 n,.nili])
 |_=>False
theorem aaP:POK Tryz.prog 230 OG:=by
 intro xs K hk;unfold OG at hk;split at hk
 ·obtain⟨n,⟨h1,h2⟩,hk⟩:=hk
  exact⟨_,hk,Ry _ _ h1 h2⟩
 ·exact hk.elim
end Go.Eng.YtcechbdgokjmgaaGreatDoor
namespace Go.Eng.YtcechbdgokjmgaaGreatDoor
set_option linter.unusedSimpArgs false
set_option linter.unusedVariables false
def mkA (a:Nat) (l:List Int):Nat:=l.foldl (fun a x=>a|||2 ^ x.toNat) a
def mk (l:List Int):Nat:=mkA 0 l
def InM (l:List Int):Prop:=∀x∈l,0≤x∧x≤31
theorem aaQ:∀(l:List Int) (a i:Nat),InM l→(mkA a l).testBit i=(a.testBit i||decide ((i:Int)∈l)):=by
 intro l;induction l with
 |nil=>intro a i _;simp[mkA]
 |cons x l ih=>
  intro a i h;have hx:=h x (by simp)
  have:mkA a (x::l)=mkA (a|||2 ^ x.toNat) l:=rfl;rw[this,ih _ _ (fun y hy=>h y (by simp[hy])),Nat.testBit_or,ajT]
  have e:decide (x.toNat=i)=decide ((i:Int)=x):=by by_cases e:x.toNat=i<;>simp<;>omega
  rw[e,Bool.or_assoc];congr 1;rw[ajU];simp
theorem Lm (i:Nat):(1:Nat).testBit i=decide (i=0):=by
 have:=ajT (n:=0) (m:=i);simp only[Nat.pow_zero]at this;rw[this,ajU];simp;omega
theorem dR {l:List Int} (h:InM l) (i:Nat):(mk l).testBit i=decide ((i:Int)∈l):=by
 unfold mk;rw[aaQ l 0 i h];simp
theorem iy {l:List Int} (h:InM l):mk l<4294967296:=by
 refine ajV (n:=32) _ fun i hi=>?_;rw[dR h];simp only[decide_eq_false_iff_not];intro hm;have:=h _ hm;omega
theorem aep {l:List Int} (h:∀x∈l,0≤x∧x≤16):mk l<131072:=by
 refine ajV (n:=17) _ fun i hi=>?_;rw[dR (fun x hx=>by have:=h x hx;omega)]
 simp only[decide_eq_false_iff_not];intro hm;have:=h _ hm;omega
theorem aer {l u:List Int} (hl:InM l) (hu:InM u) (h:∀x,x∈l↔x∈u):mk l=mk u:=by
 apply ajW;intro i;rw[dR hl,dR hu];simp[h]
theorem mk_inj {l u:List Int} (hl:InM l) (hu:InM u) (h:mk l=mk u) (x:Int):x∈l↔x∈u:=by
 have key:∀(l u:List Int),InM l→InM u→mk l=mk u→x∈l→x∈u:=fun l u hl hu h hx=>by
  have hb:=hl x hx;have h1:=dR hl x.toNat;rw[h,dR hu]at h1;have e:((x.toNat:Nat):Int)=x:=by omega
  rw[e]at h1;simpa [hx]using h1
 exact⟨key l u hl hu h,key u l hu hl h.symm⟩
theorem mk_one {x:Int}:mk [x]=2 ^ x.toNat:=by simp[mk,mkA]
theorem mk_zero {l:List Int} (hl:InM l):mk l=0↔l=[]:=by
 constructor
 ·intro h
  cases l with
  |nil=>rfl
  |cons x l=>exact absurd ((mk_inj hl (u:=[]) (fun x hx=>by simp at hx) h x).1 (by simp)) (by simp)
 ·rintro rfl;rfl
theorem lu (n:Nat) (h:n≤31):0≤(1:Int)*2 ^ n∧(1:Int)*2 ^ n≤4294967295∧n≤IntKind.u32.bits:=by
 have h1:(2:Nat) ^ n≤2 ^ 31:=ajX (by omega) h
 have h2:(1:Int)*2 ^ n=((2 ^ n:Nat):Int):=by rw[ajY];norm_cast
 have h3:IntKind.u32.bits=32:=rfl;obtain⟨q,hq⟩:∃q:Nat,2 ^ n=q:=⟨_,rfl⟩;rw[hq]at h1;rw[h2,hq];refine⟨by omega,by omega,by omega⟩
theorem zD (n:Nat) (h:n<4294967296):IntKind.u32.wrap (n:Int)=n:=by
 simp only[IntKind.wrap,IntKind.bits,IntKind.signed];simp;omega
theorem lY (m i:Nat) (h:m<4294967296):(ah8 IntKind.u32.bits (m:Int)).getLsbD i=(decide (i<32)&&m.testBit i):=by
 show(ah8 32 (m:Int)).getLsbD i=_;rw[BitVec.ofInt_natCast,BitVec.getLsbD_ofNat]
theorem FH {m n k:Nat} (hm:m<4294967296) (hn:n<4294967296) (h:∀i,i<32→k.testBit i=(m.testBit i&&n.testBit i)) (hk:k<4294967296):
 IntKind.u32.wrap ((ah8 IntKind.u32.bits (m:Int)&&& ah8 IntKind.u32.bits (n:Int)).toNat:Int)=k:=by
 have e:(ah8 IntKind.u32.bits (m:Int)&&& ah8 IntKind.u32.bits (n:Int)).toNat=k:=by
  apply ajW;intro i;rw[ajZ,aj0,lY m i hm,lY n i hn];by_cases hi:i<32
  ·rw[h i hi];simp[hi]
  ·rw[aj1 (x:=k) (i:=i) (by have:=ajX (n:=2) (by omega) (show 32≤i by omega);omega)];simp[hi]
 rw[e,zD _ hk]
theorem aes {m n k:Nat} (hm:m<4294967296) (hn:n<4294967296) (h:∀i,i<32→k.testBit i=(m.testBit i||n.testBit i)) (hk:k<4294967296):
 IntKind.u32.wrap ((ah8 IntKind.u32.bits (m:Int)|||ah8 IntKind.u32.bits (n:Int)).toNat:Int)=k:=by
 have e:(ah8 IntKind.u32.bits (m:Int)|||ah8 IntKind.u32.bits (n:Int)).toNat=k:=by
  apply ajW;intro i;rw[ajZ,BitVec.getLsbD_or,lY m i hm,lY n i hn];by_cases hi:i<32
  ·rw[h i hi];simp[hi]
  ·rw[aj1 (x:=k) (i:=i) (by have:=ajX (n:=2) (by omega) (show 32≤i by omega);omega)];simp[hi]
 rw[e,zD _ hk]
theorem afQ {m n k:Nat} (hm:m<4294967296) (hn:n<4294967296) (h:∀i,i<32→k.testBit i=(m.testBit i&&!n.testBit i)) (hk:k<4294967296):
 IntKind.u32.wrap ((ah8 IntKind.u32.bits (m:Int)&&& ~~~ah8 IntKind.u32.bits (n:Int)).toNat:Int)=k:=by
 have e:(ah8 IntKind.u32.bits (m:Int)&&& ~~~ah8 IntKind.u32.bits (n:Int)).toNat=k:=by
  apply ajW;intro i;rw[ajZ,aj0,BitVec.getLsbD_not,lY m i hm,lY n i hn];by_cases hi:i<32
  ·rw[h i hi];simp[hi,show i<IntKind.u32.bits from hi]
  ·rw[aj1 (x:=k) (i:=i) (by have:=ajX (n:=2) (by omega) (show 32≤i by omega);omega)];simp[hi]
 rw[e,zD _ hk]
theorem OH {l:List Int} {x:Int} (hl:InM l) (hx:0≤x∧x≤31):
 IntKind.u32.wrap ((ah8 IntKind.u32.bits (mk l:Int)|||ah8 IntKind.u32.bits (1*2 ^ x.toNat)).toNat:Int)=(mk (l++[x]):Nat):=by
 have hh:InM (l++[x]):=fun y hy=>by
  rcases ah0.1 hy with h|h
  ·exact hl y h
  ·simp at h;subst h;exact hx
 have hone:InM [x]:=fun y hy=>by simp at hy;subst hy;exact hx
 rw[ajY,show((2:Int) ^ x.toNat)=((mk [x]:Nat):Int) by rw[mk_one];norm_cast]
 refine aes (iy hl) (iy hone) (fun i hi=>?_) (iy hh);rw[dR hh,dR hl,dR hone];simp
theorem aeu {l u:List Int} (hl:InM l) (hu:InM u):
 IntKind.u32.wrap ((ah8 IntKind.u32.bits (mk l:Int)|||ah8 IntKind.u32.bits (mk u:Int)).toNat:Int)=(mk (l++u):Nat):=by
 have hh:InM (l++u):=fun y hy=>by
  rcases ah0.1 hy with h|h
  ·exact hl y h
  ·exact hu y h
 refine aes (iy hl) (iy hu) (fun i hi=>?_) (iy hh);rw[dR hh,dR hl,dR hu];simp
theorem Rz {l u:List Int} (hl:InM l) (hu:InM u):
 IntKind.u32.wrap ((ah8 IntKind.u32.bits (mk l:Int)&&& ~~~ah8 IntKind.u32.bits (mk u:Int)).toNat:Int)=(mk (l.filter fun y=>!decide (y∈u)):Nat):=by
 have hh:InM (l.filter fun y=>!decide (y∈u)):=fun y hy=>hl y (aj2.1 hy).1;refine afQ (iy hl) (iy hu) (fun i hi=>?_) (iy hh);rw[dR hh,dR hl,dR hu];simp
def dY (l:List Int) (x:Int):List Int:=l.filter fun y=>!decide (y=x)
theorem sM {l:List Int} {x:Int} (hl:InM l) (hx:0≤x∧x≤31):
 IntKind.u32.wrap ((ah8 IntKind.u32.bits (mk l:Int)&&& ~~~ah8 IntKind.u32.bits (1*2 ^ x.toNat)).toNat:Int)=(mk (dY l x):Nat):=by
 have hone:InM [x]:=fun y hy=>by simp at hy;subst hy;exact hx
 rw[ajY,show((2:Int) ^ x.toNat)=((mk [x]:Nat):Int) by rw[mk_one];norm_cast,Rz hl hone]
 simp[dY]
theorem RB {l:List Int} {x:Int} (hl:InM l) (hx:0≤x∧x≤31):
 IntKind.u32.wrap ((ah8 IntKind.u32.bits ((mk l:Int) / 2 ^ x.toNat)&&& ah8 IntKind.u32.bits 1).toNat:Int)=if x∈l then 1 else 0:=by
 have e:((mk l:Int) / 2 ^ x.toNat)=((mk l>>>x.toNat:Nat):Int):=by rw[Nat.shiftRight_eq_div_pow];norm_cast
 have h1:mk l>>>x.toNat<4294967296:=Nat.lt_of_le_of_lt (Nat.shiftRight_le _ _) (iy hl);rw[e,show(1:Int)=((1:Nat):Int)from rfl,FH (k:=if x∈l then 1 else 0) h1 (by omega) (fun i hi=>?_) (by split<;>omega)]
 ·split<;>rfl
 ·rw[Nat.testBit_shiftRight,dR hl,Lm]
  by_cases h0:i=0
  ·subst h0
   have:((x.toNat+0:Nat):Int)=x:=by omega
   rw[this];by_cases hm:x∈l<;>simp[hm]
  ·rw[show decide (i=0)=false by simp[h0],aj3]
   split
   ·rw[Lm];simp[h0]
   ·simp
structure Asc (l:List Int):Prop where mkAsc::
 pw:l.Pairwise (·< ·)
 rng:∀x∈l,1≤x∧x≤16
theorem Asc.inM {l:List Int} (h:Asc l):InM l:=fun x hx=>by have:=h.rng x hx;omega
theorem Asc.tail {x:Int} {l:List Int} (h:Asc (x::l)):Asc l:=⟨(ajh.1 h.pw).2,fun y hy=>h.rng y (by simp[hy])⟩
theorem Asc.head {x:Int} {l:List Int} (h:Asc (x::l)):∀y∈l,x<y:=(ajh.1 h.pw).1
theorem Asc.filter {l:List Int} (h:Asc l) (p:Int→Bool):Asc (l.filter p):=⟨h.pw.filter _,fun x hx=>h.rng x (aj2.1 hx).1⟩
theorem Asc.nil:Asc []:=⟨.nil,fun x hx=>by simp at hx⟩
theorem Asc.one {x:Int} (h:1≤x∧x≤16):Asc [x]:=⟨by simp,fun y hy=>by simp at hy;subst hy;exact h⟩
theorem Asc.out {l:List Int} (h:Asc l) (x:Int):Asc (dY l x):=h.filter _
theorem aaR:∀{l u:List Int},l.Pairwise (·< ·)→u.Pairwise (·< ·)→(∀x,x∈l↔x∈u)→l=u:=by
 intro l;induction l with
 |nil=>
  intro u _ _ h;cases u with
  |nil=>rfl
  |cons y u=>exact absurd ((h y).2 (by simp)) (by simp)
 |cons x l ih=>
  intro u hl hu h;cases u with
  |nil=>exact absurd ((h x).1 (by simp)) (by simp)
  |cons y u=>
   have hx:=(ajh.1 hl).1;have hy:=(ajh.1 hu).1;have e:x=y:=by
    rcases ajg.1 ((h x).1 (by simp))with e|h1
    ·exact e
    ·rcases ajg.1 ((h y).2 (by simp))with e|h2
     ·exact e.symm
     ·have:=hy x h1;have:=hx y h2;omega
   subst e;congr 1;refine ih (ajh.1 hl).2 (ajh.1 hu).2 fun z=>?_;constructor
   ·intro hz
    rcases ajg.1 ((h z).1 (by simp[hz]))with e|h1
    ·subst e;have:=hx z hz;omega
    ·exact h1
   ·intro hz
    rcases ajg.1 ((h z).2 (by simp[hz]))with e|h1
    ·subst e;have:=hy z hz;omega
    ·exact h1
theorem Asc.ext {l u:List Int} (hl:Asc l) (hu:Asc u) (h:mk l=mk u):l=u:=aaR hl.pw hu.pw (mk_inj hl.inM hu.inM h)
theorem uR {x:Int} {l:List Int} (h:Asc (x::l)):∃k,mk (x::l)=2 ^ (x.toNat+1)*k+2 ^ x.toNat∧mk l=2 ^ (x.toNat+1)*k:=by
 have hx:=h.rng x (by simp)
 refine⟨mk l / 2 ^ (x.toNat+1),?_,?_⟩
 ·apply ajW
  intro i;rw[dR h.inM,aj4 _ (by rw[aj5];have:=aj6 x.toNat;omega),ajT,aj7,dR h.tail.inM]
  split
  ·have:((i:Int)∈x::l)↔x.toNat=i:=by
    constructor
    ·intro hm
     rcases ajg.1 hm with e|hm
     ·omega
     ·have:=h.head _ hm;omega
    ·intro e;exact ajg.2 (.inl (by omega))
   simp only[this]
  ·rw[show i-(x.toNat+1)+(x.toNat+1)=i by omega]
   have:((i:Int)∈x::l)↔(i:Int)∈l:=by
    rw[ajg];constructor
    ·rintro(e|h)
     ·omega
     ·exact h
    ·exact .inr
   simp only[this]
 ·apply ajW
  intro i;rw[aj8,aj7,dR h.tail.inM i];by_cases hi:i≥x.toNat+1
  ·rw[show i-(x.toNat+1)+(x.toNat+1)=i by omega,dR h.tail.inM];simp[hi]
  ·have:(i:Int)∉l:=fun hm=>by have:=h.head _ hm;omega
   rw[decide_eq_false hi,aj9,decide_eq_false this]
theorem aaS {x:Int} {l:List Int} (h:Asc (x::l)):
 IntKind.u32.wrap ((ah8 IntKind.u32.bits (mk (x::l):Int)&&& ah8 IntKind.u32.bits ((mk (x::l):Int)-1)).toNat:Int)=(mk l:Nat):=by
 obtain⟨k,h1,h2⟩:=uR h;have hx:=h.rng x (by simp)
 have hp:=aj6 x.toNat;have hlt:=iy h.inM;have e:((mk (x::l):Int)-1)=((2 ^ (x.toNat+1)*k+(2 ^ x.toNat-1):Nat):Int):=by rw[h1];omega
 rw[e];refine FH hlt (by omega) (fun i hi=>?_) (iy h.tail.inM)
 rw[h1,h2,aj4 _ (by rw[aj5];omega),aj4 _ (by rw[aj5];omega),aj8,ajT,akb]
 by_cases hi:i<x.toNat+1
 ·rw[if_pos hi,if_pos hi,decide_eq_false (show¬(i≥x.toNat+1) by omega),aj9]
  by_cases e:x.toNat=i
  ·subst e;simp
  ·rw[decide_eq_false e,aj9]
 ·rw[if_neg hi,if_neg hi]
  simp;omega
theorem mk_pos {x:Int} {l:List Int} (h:Asc (x::l)):0<mk (x::l):=by
 obtain⟨k,h1,_⟩:=uR h;have hp:=aj6 x.toNat;omega
theorem aev {x:Int} {l:List Int} (h:Asc (x::l)):Go.Lib.ctz 32 (mk (x::l))=x.toNat:=by
 have hp:=mk_pos h;obtain⟨m,h1,h2⟩:=Go.Lib.ctzFrom_spec 32 (mk (x::l)) hp (iy h.inM);obtain⟨k,h3,_⟩:=uR h;unfold Go.Lib.ctz;rw[if_neg (by omega)]
 generalize Go.Lib.ctzFrom 32 (mk (x::l))=c at h1 h2
 have b1:∀i,(mk (x::l)).testBit i=(decide (i≥c)&&(2*m+1).testBit (i-c)):=fun i=>by rw[h1,aj8]
 have hx:=h.rng x (by simp)
 have b2:=b1 x.toNat;rw[dR h.inM]at b2;have e1:((x.toNat:Nat):Int)=x:=by omega
 rw[e1]at b2;simp at b2;have b3:=b1 c;rw[dR h.inM]at b3;simp at b3;rcases b3 with e|b3
 ·omega
 ·have:=h.head _ b3;omega
structure St where
 cs:List (List Int)
 ds:List Bool
def St.cd (s:St) (i:Nat):List Int:=s.cs.getD i []
def St.dc (s:St) (i:Nat):Bool:=s.ds.getD i false
def ms (cs:List (List Int)):List Int:=cs.map fun l=>((mk l:Nat):Int)
theorem dW (cs:List (List Int)):(ms cs).length=cs.length:=by simp[ms]
theorem gq {cs:List (List Int)} {i:Nat} (h:i<cs.length):(ms cs).getD i 0=(mk (cs.getD i []):Nat):=by
 simp[ms,ahZ,h]
structure CV (c:Int) (l:List Int):Prop where
 ne:1≤l.length
 len:l.length≤16
 rng:∀x∈l,0≤x∧x<c
 pw:l.Pairwise (·< ·)
structure aR (c:Int) (ls:List (List Int)) (sum:Int) (s:St):Prop where
 c1:1≤c∧c≤16
 ll:1≤ls.length∧ls.length≤128
 ln:∀i,i<ls.length→CV c (ls.getD i [])
 sm: -999999999≤sum∧sum≤999999999
 cl:(s.cs.length:Int)=c
 dl:(s.ds.length:Int)=c
 asc:∀i,i<s.cs.length→Asc (s.cd i)∧∀x∈s.cd i,x≤c
 dec:∀i,i<s.cs.length→s.dc i=true→(s.cd i).length=1
def hd0 (l:List Int):Int:=l.getD 0 0
def ls0 (l:List Int):Int:=l.getD (l.length-1) 0
def opn (s:St) (l:List Int) (but:Int):List Int:=l.filter fun x=>!(s.dc x.toNat)&&decide (x≠but)
def rst (s:St) (sum:Int) (l:List Int):Int:=l.foldl (fun a x=>if s.dc x.toNat then a-hd0 (s.cd x.toNat)else a) sum
theorem aaT (s:St) (l:List Int) (x but:Int):opn s (l++[x]) but=opn s l but++if !(s.dc x.toNat)&&decide (x≠but)then [x]else []:=by
 unfold opn;rw[List.filter_append,List.filter_cons,List.filter_nil]
theorem Lr (s:St) (sum:Int) (l:List Int) (x:Int):rst s sum (l++[x])=if s.dc x.toNat then rst s sum l-hd0 (s.cd x.toNat)else rst s sum l:=by
 unfold rst;rw[akc];rfl
theorem dH {l:List Int} {i:Nat} (h:i<l.length):l.take (i+1)=l.take i++[l.getD i 0]:=by
 rw[ajQ,ahZ,ah4 h];rfl
theorem iT {l:List Int} (h:1≤l.length):hd0 l∈l:=by
 cases l with
 |nil=>simp at h
 |cons x l=>simp[hd0]
theorem lZ {l:List Int} (h:1≤l.length):ls0 l∈l:=by
 unfold ls0;rw[ahZ,ah4 (show l.length-1<l.length by omega)]
 exact akd _
theorem Bo {l:List Int} (h:l.Pairwise (·< ·)):∀x∈l,hd0 l≤x:=by
 cases l with
 |nil=>intro x hx;simp at hx
 |cons y l=>
  intro x hx;rcases ajg.1 hx with rfl|hx
  ·simp[hd0]
  ·have:=(ajh.1 h).1 x hx;simp[hd0];omega
theorem qI {l:List Int} (h:l.Pairwise (·< ·)):∀x∈l,x≤ls0 l:=by
 intro x hx;obtain⟨i,hi,rfl⟩:=ah3 hx;unfold ls0;rw[ahZ,ah4 (show l.length-1<l.length by omega)]
 by_cases e:i=l.length-1
 ·subst e;simp
 ·have:=List.pairwise_iff_getElem.1 h i (l.length-1) hi (by omega) (by omega)
  simp;omega
theorem aR.at {c:Int} {ls:List (List Int)} {sum:Int} {s:St} (h:aR c ls sum s) {x:Int} (hx:0≤x∧x<c):x.toNat<s.cs.length∧x.toNat<s.ds.length:=by
 have:=h.cl;have:=h.dl;omega
theorem aR.num {c:Int} {ls:List (List Int)} {sum:Int} {s:St} (h:aR c ls sum s) {x:Int} (hx:0≤x∧x<c) (hd:s.dc x.toNat=true):1≤hd0 (s.cd x.toNat)∧hd0 (s.cd x.toNat)≤16∧s.cd x.toNat=[hd0 (s.cd x.toNat)]:=by
 have hi:=(h.at hx).1;have h1:=h.dec _ hi hd;obtain⟨y,hy⟩:=List.length_eq_one_iff.1 h1;have h2:=(h.asc _ hi).1.rng (hd0 (s.cd x.toNat)) (iT (by omega))
 refine⟨h2.1,h2.2,?_⟩;rw[hy];rfl
theorem HV {c:Int} {ls:List (List Int)} {sum:Int} {s:St} (h:aR c ls sum s) {l:List Int} (hl:∀x∈l,0≤x∧x<c):∀i,i≤l.length→sum-16*i≤rst s sum (l.take i)∧rst s sum (l.take i)≤sum:=by
 intro i;induction i with
 |zero=>intro _;simp[rst]
 |succ i ih=>
  intro hi;have ih:=ih (by omega)
  have hx:=hl (l.getD i 0) (by rw[ahZ,ah4 (show i<l.length by omega)];exact akd _)
  rw[dH (by omega),Lr]
  split
  ·rename_i hd
   have:=h.num hx hd;omega
  ·omega
def uS (s:St) (sum:Int) (l:List Int) (c x:Int):Bool:=decide ((opn s l c).length=0)&&decide (rst s sum l=x)
def uT (s:St) (c:Int):Bool:=decide ((s.cd c.toNat).length=1)
def oP (s:St) (c x:Int):Bool:=(ahX s.cs.length).all fun i=>decide ((i:Int)=c)||!decide (x∈s.cd i)
def qJ (s:St) (o:List Int):Int:=o.foldl (fun a y=>a+hd0 (s.cd y.toNat)) 0
def qK (s:St) (o:List Int):Int:=o.foldl (fun a y=>a+ls0 (s.cd y.toNat)) 0
def oQ (s:St) (sum:Int) (l:List Int) (c x:Int):Bool:=
 (opn s l c).any (fun y=>decide (s.cd y.toNat=[]))||(decide (rst s sum l-x<qJ s (opn s l c))||decide (qK s (opn s l c)<rst s sum l-x))
def chs (s:St):List Int→List Int→Int→Bool
 | [],_,sum=>decide (sum=0)
 |y::r,used,sum=>((s.cd y.toNat).filter fun x=>!decide (x∈used)).any fun x=>chs s r (used++[x]) (sum-x)
def rZ (s:St) (sum:Int) (l:List Int) (c x:Int):Bool:=decide ((opn s l c).length<4)&&!chs s (opn s l c) [x] (rst s sum l-x)
def brk (c:Int) (ls:List (List Int)) (sum:Int) (s:St):Bool:=
 (!(ahX c.toNat).all fun i=>s.cs.any fun l=>decide (((i:Int)+1)∈l))||s.cs.any (fun l=>decide (l=[]))||ls.any fun l=>decide ((opn s l (-1)).length=0)&&decide (rst s sum l≠0)
def jst (g:Nat) (s:St) (sum:Int) (l:List Int) (y x:Int):Bool:=
 match g with
 |1=>uS s sum l y x
 |2=>uT s y
 |3=>oP s y x
 |4=>oQ s sum l y x
 |5=>rZ s sum l y x
 |_=>false
def okJ (g:Nat) (s:St) (sum:Int) (l:List Int) (y x:Int):Bool:=!s.dc y.toNat&&(decide (x∈s.cd y.toNat)&&jst g s sum l y x)
def apl (g:Nat) (s:St) (y x:Int):St:=
 if g≤3 then⟨(s.cs.map fun l=>dY l x).set y.toNat [x],s.ds.set y.toNat true⟩else⟨s.cs.set y.toNat (dY (s.cd y.toNat) x),s.ds⟩
def don (s:St):Bool:=!s.ds.any fun b=>!b
end Go.Eng.YtcechbdgokjmgaaGreatDoor
namespace Go.Eng.YtcechbdgokjmgaaGreatDoor
open Go.Proofs
set_option linter.unusedSimpArgs false
set_option linter.unusedVariables false
set_option maxHeartbeats 0
set_option maxRecDepth 100000
theorem FI (x:Int) (h:0≤x∧x<4294967296):IntKind.u32.wrap ((ah8 IntKind.u32.bits x&&& ah8 IntKind.u32.bits 255).toNat:Int)=((x.toNat % 256:Nat):Int):=by
 obtain⟨n,rfl⟩:∃n:Nat,x=n:=⟨x.toNat,by omega⟩
 rw[show(255:Int)=((255:Nat):Int)from rfl,aiV];refine FH (by omega) (by omega) (fun i hi=>?_) (by omega)
 rw[show(256:Nat)=2 ^ 8 from rfl,Nat.testBit_mod_two_pow,show(255:Nat)=2 ^ 8-1 from rfl,akb,Bool.and_comm]
theorem CW:∀(f g x:Nat),Go.Lib.popAux (f+g) x=Go.Lib.popAux f x+Go.Lib.popAux g (x / 2 ^ f):=by
 intro f;induction f with
 |zero=>intro g x;simp[Go.Lib.popAux]
 |succ f ih=>
  intro g x;rw[show f+1+g=(f+g)+1 by omega,Go.Lib.popAux,Go.Lib.popAux,ih,ake,aj5,aie 2,Nat.add_assoc]
theorem CX:∀(f x:Nat),Go.Lib.popAux f (x % 2 ^ f)=Go.Lib.popAux f x:=by
 intro f;induction f with
 |zero=>intro x;simp[Go.Lib.popAux]
 |succ f ih=>
  intro x;have e1:x % 2 ^ (f+1) % 2=x % 2:=Nat.mod_mod_of_dvd x (by rw[aj5];exact Nat.dvd_mul_left 2 _)
  have e2:x % 2 ^ (f+1) / 2=x / 2 % 2 ^ f:=by
   rw[aj5,aie,Nat.mod_mul_right_div_self]
  rw[Go.Lib.popAux,Go.Lib.popAux,e1,e2,ih]
theorem Bp:∀(f x:Nat),Go.Lib.popAux f x≤f:=by
 intro f;induction f with
 |zero=>intro x;simp[Go.Lib.popAux]
 |succ f ih=>intro x;rw[Go.Lib.popAux];have:=ih (x / 2);omega
def wV (m:Int):Int:=(Go.Lib.popAux 32 m.toNat:Nat)
theorem RD (n:Nat) (h:n<4294967296):Go.Lib.popAux 32 n=Go.Lib.popAux 8 (n / 16777216)+Go.Lib.popAux 8 (n / 65536 % 256)+(Go.Lib.popAux 8 (n / 256 % 256)+Go.Lib.popAux 8 (n % 256)):=by
 rw[show(256:Nat)=2 ^ 8 from rfl,CX,CX,CX,show(32:Nat)=8+(8+(8+8))from rfl,CW,CW,CW,ake,ake];simp only[show 2 ^ 8*2 ^ 8=65536 from rfl,show 65536*2 ^ 8=16777216 from rfl];omega
theorem CY (n:Nat) (h:n<256):IntKind.u8.wrap (n:Int)=n:=by
 simp only[IntKind.wrap,IntKind.bits,IntKind.signed];simp;omega
theorem Vq (n:Nat) (h:n<1000):IntKind.i64.wrap (n:Int)=n:=by
 simp only[IntKind.wrap,IntKind.bits,IntKind.signed];simp;omega
theorem Vr (T:Array UInt8) (hT:∀j,j<256→(T.getD j 0).toNat=Go.Lib.popAux 8 j) (m:Int) (h:0≤m∧m<4294967296):
 IntKind.i64.wrap (IntKind.u8.wrap (IntKind.u8.wrap (IntKind.u8.wrap (((T.getD (m / 2 ^ akf 24).toNat 0).toNat:Int)+((T.getD (IntKind.u32.wrap ((ah8 IntKind.u32.bits (m / 2 ^ akf 16)&&& ah8 IntKind.u32.bits 255).toNat:Int)).toNat 0).toNat:Int))+
  ((T.getD (IntKind.u32.wrap ((ah8 IntKind.u32.bits (m / 2 ^ akf 8)&&& ah8 IntKind.u32.bits 255).toNat:Int)).toNat 0).toNat:Int))+((T.getD (IntKind.u32.wrap ((ah8 IntKind.u32.bits m&&& ah8 IntKind.u32.bits 255).toNat:Int)).toNat 0).toNat:Int)))=wV m:=by
 obtain⟨n,rfl⟩:∃n:Nat,m=n:=⟨m.toNat,by omega⟩
 have e24:((n:Int) / 2 ^ akf 24)=((n / 16777216:Nat):Int):=by norm_cast
 have e16:((n:Int) / 2 ^ akf 16)=((n / 65536:Nat):Int):=by norm_cast
 have e8:((n:Int) / 2 ^ akf 8)=((n / 256:Nat):Int):=by norm_cast
 rw[e24,e16,e8,FI _ (by omega),FI _ (by omega),FI _ (by omega)]
 simp only[aiV];rw[hT _ (by omega),hT _ (by omega),hT _ (by omega),hT _ (by omega)]
 have:=Bp 8 (n / 16777216);have:=Bp 8 (n / 65536 % 256);have:=Bp 8 (n / 256 % 256);have:=Bp 8 (n % 256);rw[←akg,CY _ (by omega),←akg,CY _ (by omega),←akg,CY _ (by omega),Vq _ (by omega)]
 unfold wV;rw[aiV,RD n (by omega)]
 omega
theorem RF (m:Int) (h:0≤m∧m<4294967296):aF Tryz.prog 237 [.int .u32 m] (.int .i64 (wV m)):=by
 have b:∀x:Int,(0≤x∧x<4294967296)→0≤IntKind.u32.wrap ((ah8 IntKind.u32.bits x&&& ah8 IntKind.u32.bits 255).toNat:Int)∧IntKind.u32.wrap ((ah8 IntKind.u32.bits x&&& ah8 IntKind.u32.bits 255).toNat:Int)<256:=fun x hx=>by rw[FI x hx];omega
 have e16:0≤m / 2 ^ akf 16∧m / 2 ^ akf 16<4294967296:=by rw[show(2:Int) ^ akf 16=65536 from rfl];omega
 have e8:0≤m / 2 ^ akf 8∧m / 2 ^ akf 8<4294967296:=by rw[show(2:Int) ^ akf 8=256 from rfl];omega
 have e24:0≤m / 2 ^ akf 24∧m / 2 ^ akf 24<256:=by rw[show(2:Int) ^ akf 24=16777216 from rfl];omega
 refine av (md:=2) (rf:=[]) mixed au aC Tryz.func237 (by rfl) (by rfl) (by rfl) ?_
 repeat'((conv=>whnf);first|intro _|apply aI|with_reducible exact vM rfl|exact⟨⟩|apply nM|apply fM)
 all_goals first
  |(refine Sup.of (congrArg (PV.int .i64) ?_);exact Vr _ (by decide+kernel) m h)
  |(refine akh (b:=256) ?_ (by decide+kernel);first|exact e24.2|exact(b _ e16).2|exact(b _ e8).2|exact(b _ h).2)
  |exact e24.1|exact(b _ e16).1|exact(b _ e8).1|exact(b _ h).1|exact h.1|decide
theorem Ev:∀(a n y:Nat),Go.Lib.popAux (a+n) (2 ^ a*y)=Go.Lib.popAux n y:=by
 intro a;induction a with
 |zero=>intro n y;simp
 |succ a ih=>
  intro n y;have e:2 ^ (a+1)*y=2*(2 ^ a*y):=by rw[aj5,aie (2 ^ a) 2,aki]
  rw[show a+1+n=(a+n)+1 by omega,Go.Lib.popAux,e,akj,akk _ (by omega),ih,aic]
theorem pop_mk {l:List Int} (h:Asc l):wV (mk l:Nat)=l.length:=by
 unfold wV;rw[aiV];induction l with
 |nil=>rfl
 |cons x l ih=>
  obtain⟨k,h1,h2⟩:=uR h;have hx:=h.rng x (by simp)
  have ih:=ih h.tail;rw[h2,aj5,aki,show 32=x.toNat+(31-x.toNat+1) by omega,Ev,Go.Lib.popAux,akj,akk _ (by omega)]at ih
  rw[h1,aj5,aki,show 2 ^ x.toNat*(2*k)+2 ^ x.toNat=2 ^ x.toNat*(2*k+1) by rw[ajP,aip],show 32=x.toNat+(31-x.toNat+1) by omega,Ev,Go.Lib.popAux,
   show(2*k+1) % 2=1 by omega,show(2*k+1) / 2=k by omega,ahK]
  omega
def fG (m:Int):Int:=(Go.Lib.bitLen m.toNat:Nat)
theorem yg (T:Array UInt8) (hT:∀j,j<256→(T.getD j 0).toNat=Go.Lib.bitLen j) (x:Int) (h:0≤x∧x<256):((T.getD x.toNat 0).toNat:Int)=fG x:=by
 rw[hT _ (by omega)];rfl
theorem yh (x:Int) (h:0≤x∧x<256):0≤fG x∧fG x≤8:=by
 have:=Go.Lib.bitLen_le8 ⟨x.toNat,by omega⟩
 unfold fG;simp only at this;omega
theorem Ls (k n:Nat) (h0:2 ^ k≤n) (h:n<4294967296):fG (n:Int)=(k:Int)+fG ((n / 2 ^ k:Nat):Int):=by
 have h2:(4294967296:Nat)<2 ^ 64:=by decide
 unfold fG;rw[aiV,aiV,Go.Lib.bitLen_shift k n h0 (by omega)]
 omega
theorem Lu (k K:Nat) (hK:2 ^ k=K) (x:Int) (h0:(K:Int)≤x) (h:x<4294967296):fG x=k+fG (x / K):=by
 obtain⟨n,rfl⟩:∃n:Nat,x=n:=⟨x.toNat,by omega⟩
 have:=Ls k n (by rw[hK];omega) (by omega)
 rw[this,hK];rfl
theorem Vs (m:Int) (h:0≤m∧m<4294967296):aF Tryz.prog 257 [.int .u32 m] (.int .i64 (fG m)):=by
 have p16:(2:Int) ^ akf 16=65536:=by decide
 have p8:(2:Int) ^ akf 8=256:=by decide
 have d16:akf 16≤IntKind.u32.bits:=by decide
 have d8:akf 8≤IntKind.u32.bits:=by decide
 have a1:65536≤m→fG m=16+fG (m / 65536):=fun h1=>Lu 16 65536 rfl m h1 h.2;have a2:∀x:Int,256≤x→x<4294967296→fG x=8+fG (x / 256):=fun x h1 h2=>Lu 8 256 rfl x h1 h2;refine av (md:=1) (rf:=[]) mixed au aC Tryz.func257 (by rfl) (by rfl) (by rfl) ?_
 repeat'((conv=>whnf);first|intro _|apply aI|with_reducible exact vM rfl|exact⟨⟩|apply nM|apply fM)
 all_goals((try apply vM);(try simp only[vq]at*);try omega)
 all_goals(try simp only[p16,p8]at*)
 all_goals(try first|exact d16|exact d8|omega|(refine akh (b:=256) (by omega) (by decide+kernel)))
 all_goals(try(rw[yg _ ?_ (m / 65536 / 256) (by omega)];rotate_left;(decide+kernel);(have:=yh (m / 65536 / 256) (by omega));first|omega|((refine Sup.of (congrArg (PV.int .i64) ?_));rw[a1 (by omega),a2 (m / 65536) (by omega) (by omega)];omega)))
 all_goals(try(rw[yg _ ?_ (m / 65536) (by omega)];rotate_left;(decide+kernel);(have:=yh (m / 65536) (by omega));first|omega|((refine Sup.of (congrArg (PV.int .i64) ?_));rw[a1 (by omega)])))
 all_goals(try(rw[yg _ ?_ (m / 256) (by omega)];rotate_left;(decide+kernel);(have:=yh (m / 256) (by omega));first|omega|((refine Sup.of (congrArg (PV.int .i64) ?_));rw[a2 m (by omega) (by omega)];omega)))
 all_goals(try(rw[yg _ ?_ (m) (by omega)];rotate_left;(decide+kernel);(have:=yh (m) (by omega));first|omega|((refine Sup.of (congrArg (PV.int .i64) ?_));omega)))
def Vt:PSp:=fun xs K=>match xs with
 | [.int .u32 m]=>VC (0≤m∧m<4294967296)∧K (.int .i64 (fG m))
 |_=>False
theorem aew:POK Tryz.prog 257 Vt:=by
 intro xs K h;unfold Vt at h;split at h
 ·exact⟨_,h.2,Vs _ h.1.get⟩
 ·exact h.elim
noncomputable def agA:CPT:=aA 257 (aB Vt) noC
theorem aaU:aW Tryz.prog agA:=aj (ak aew) aC
theorem Lv (m:Int) (h:0≤m∧m<4294967296):0≤fG m∧fG m≤64:=by
 have:∀f x,Go.Lib.bitLenAux f x≤f:=by
  intro f;induction f with
  |zero=>intro x;simp[Go.Lib.bitLenAux]
  |succ f ih=>intro x;rw[Go.Lib.bitLenAux];(split;omega;(have:=ih (x / 2);omega))
 have h2:=this 64 m.toNat;have h3:fG m=((Go.Lib.bitLenAux 64 m.toNat:Nat):Int):=rfl;omega
theorem aaV (m:Int) (h:0≤m∧m<4294967296):aF Tryz.prog 238 [.int .u32 m] (.int .i64 (32-fG m)):=by
 have:=Lv m h;refine av (md:=1) (rf:=[]) mixed au aaU Tryz.func238 (by rfl) (by rfl) (by rfl) ?_
 repeat'((conv=>whnf);first|intro _|apply aI|with_reducible exact vM rfl|exact⟨⟩|apply nM|apply fM)
 all_goals((try apply vM);(try simp only[vq]at*);try omega)
 all_goals exact Sup.of rfl
def lzP:PSp:=fun xs K=>match xs with
 | [.int .u32 m]=>VC (0≤m∧m<4294967296)∧K (.int .i64 (32-fG m))
 |_=>False
theorem afR:POK Tryz.prog 238 lzP:=by
 intro xs K h;unfold lzP at h;split at h
 ·exact⟨_,h.2,aaV _ h.1.get⟩
 ·exact h.elim
def OI:PSp:=fun xs K=>match xs with
 | [.int .u32 m]=>VC (0≤m∧m<4294967296)∧K (.int .i64 (wV m))
 |_=>False
theorem aaW:POK Tryz.prog 237 OI:=by
 intro xs K h;unfold OI at h;split at h
 ·exact⟨_,h.2,RF _ h.1.get⟩
 ·exact h.elim
def qL (m:Int):Int:=(Go.Lib.ctz 32 m.toNat:Nat)
theorem u32_neg (n:Nat) (h0:n≠0) (h:n<4294967296):IntKind.u32.wrap (0-(n:Int))=((4294967296-n:Nat):Int):=by
 simp only[IntKind.wrap,IntKind.bits,IntKind.signed];simp;omega
theorem aaX (m:Int) (h:0<m∧m<4294967296):∃k:Nat,k<32∧qL m=k∧IntKind.u32.wrap (IntKind.u32.wrap ((ah8 IntKind.u32.bits m&&& ah8 IntKind.u32.bits (IntKind.u32.wrap (0-m))).toNat:Int)*125613361) / 2 ^ akf 27=((2 ^ k*125613361 % 4294967296 / 134217728:Nat):Int):=by
 obtain⟨n,rfl⟩:∃n:Nat,m=n:=⟨m.toNat,by omega⟩
 obtain⟨h1,h2⟩:=Go.Lib.lowest_bit 32 n (by omega) (by omega)
 refine⟨Go.Lib.ctz 32 n,h2,by simp[qL],?_⟩
 have hp:2 ^ Go.Lib.ctz 32 n≤2 ^ 31:=ajX (by omega) (by omega)
 rw[u32_neg n (by omega) (by omega),FH (k:=2 ^ Go.Lib.ctz 32 n) (by omega) (by omega) (fun i hi=>by rw[←h1,Nat.testBit_and]) (by omega)]
 have e:((2 ^ Go.Lib.ctz 32 n:Nat):Int)*125613361=((2 ^ Go.Lib.ctz 32 n*125613361:Nat):Int):=by rw[Int.natCast_mul];rfl
 rw[e,show(2:Int) ^ akf 27=((134217728:Nat):Int) by decide]
 have w:∀q:Nat,IntKind.u32.wrap (q:Int)=((q % 4294967296:Nat):Int):=fun q=>by simp only[IntKind.wrap,IntKind.bits,IntKind.signed];simp
 rw[w,Int.natCast_ediv]
theorem aex:∀k:Nat,k<32→sD.getD (2 ^ k*125613361 % 4294967296 / 134217728) 0=(k:Int):=by decide+kernel
theorem RG (n:Int) (h:0≤n∧n<1000):IntKind.i64.wrap n=n:=by
 simp only[IntKind.wrap,IntKind.bits,IntKind.signed];simp;omega
theorem Vu:aF Tryz.prog 220 [.int .u32 0] (.int .i64 32):=by
 refine av (md:=2) (rf:=[]) mixed au aC Tryz.func220 (by rfl) (by rfl) (by rfl) ?_
 repeat'((conv=>whnf);first|(intro hq;(try simp only[vw]at hq);try first|exact absurd hq (by decide)|exfalso;omega)|apply aI|with_reducible exact vM rfl|exact⟨⟩|apply nM|apply fM)
 all_goals exact Sup.of rfl
theorem aaY (m q:Int) (k:Nat) (h0:¬m=0) (hk:k<32) (h1:IntKind.u32.wrap (IntKind.u32.wrap ((ah8 IntKind.u32.bits m&&& ah8 IntKind.u32.bits (IntKind.u32.wrap (0-m))).toNat:Int)*125613361)=q) (hq0:0≤q)
 (h2:q / 2 ^ akf 27=(k:Int)) (e:Int) (he:0≤e∧e<1000) (ht:sD.getD k 0=e):aF Tryz.prog 220 [.int .u32 m] (.int .i64 e):=by
 have e5:te5.size=1:=by rfl
 have d27:akf 27≤IntKind.u32.bits:=by decide
 have hl:sD.length=32:=rfl;refine av (md:=2) (rf:=[]) mixed au aC Tryz.func220 (by rfl) (by rfl) (by rfl) ?_
 repeat'((conv=>whnf);first|(intro hq;(try simp only[vw]at hq);try first|exact absurd hq (by decide)|exfalso;omega)|apply aI|with_reducible exact vM rfl|exact⟨⟩|apply nM|apply fM)
 all_goals first|exact h0|exact d27|(rw[h1];exact hq0)|(rw[h1,h2];omega)|(rw[h1,h2,e5,aiV];simp only[CL.ncell,hl];omega)|(refine Sup.of (congrArg (PV.int .i64) ?_);rw[h1,h2,e5,aiV,aip,aic,ht,RG _ he])|omega
theorem Vv (m:Int) (h:0≤m∧m<4294967296):aF Tryz.prog 220 [.int .u32 m] (.int .i64 (qL m)):=by
 by_cases h0:m=0
 ·subst h0
  exact Vu
 obtain⟨k,hk,h1,h2⟩:=aaX m (by omega)
 have hb:=Go.Lib.deBruijn32_at k hk;have ht:=aex k hk;rw[h1];refine aaY m _ _ h0 hb.1 rfl ?_ h2 _ (by omega) ht
 generalize IntKind.u32.wrap ((ah8 IntKind.u32.bits m&&& ah8 IntKind.u32.bits (IntKind.u32.wrap (0-m))).toNat:Int)*125613361=q
 simp only[IntKind.wrap,IntKind.bits,IntKind.signed];simp;omega
def Vw:PSp:=fun xs K=>match xs with
 | [.int .u32 m]=>VC (0≤m∧m<4294967296)∧K (.int .i64 (qL m))
 |_=>False
theorem aey:POK Tryz.prog 220 Vw:=by
 intro xs K h;unfold Vw at h;split at h
 ·exact⟨_,h.2,Vv _ h.1.get⟩
 ·exact h.elim
noncomputable def agB:CPT:=aA 220 (aB Vw) (aA 237 (aB OI) (aA 238 (aB lzP) noC))
theorem CZ:aW Tryz.prog agB:=aj (ak aey) (aj (ak aaW) (aj (ak afR) aC))
theorem OJ (m:Int) (h:0≤m∧m<4294967296):aF Tryz.prog 190 [.int .u32 m] (.int .i64 (qL m)):=by
 refine av (md:=1) (rf:=[]) mixed au CZ Tryz.func190 (by rfl) (by rfl) (by rfl) ?_
 repeat'((conv=>whnf);first|intro _|apply aI|with_reducible exact vM rfl|exact⟨⟩|apply nM|apply fM)
 all_goals((try apply vM);(try simp only[vq]at*);try omega)
 all_goals exact Sup.of rfl
theorem RH (m:Int) (h:0≤m∧m<4294967296):aF Tryz.prog 210 [.int .u32 m] (.int .i64 (wV m)):=by
 refine av (md:=1) (rf:=[]) mixed au CZ Tryz.func210 (by rfl) (by rfl) (by rfl) ?_
 repeat'((conv=>whnf);first|intro _|apply aI|with_reducible exact vM rfl|exact⟨⟩|apply nM|apply fM)
 all_goals((try apply vM);(try simp only[vq]at*);try omega)
 all_goals exact Sup.of rfl
theorem E9 (m:Int) (h:0≤m∧m<4294967296):aF Tryz.prog 211 [.int .u32 m] (.int .i64 (fG m-1)):=by
 have:=Lv m h;have e:(31:Int)-(32-fG m)=fG m-1:=by omega
 refine av (md:=1) (rf:=[]) mixed au CZ Tryz.func211 (by rfl) (by rfl) (by rfl) ?_
 repeat'((conv=>whnf);first|intro _|apply aI|with_reducible exact vM rfl|exact⟨⟩|apply nM|apply fM)
 all_goals((try apply vM);(try simp only[vq]at*);try omega)
 all_goals(rw[e];exact Sup.of rfl)
def C8 (m x:Int):Bool:=decide (IntKind.u32.wrap ((ah8 IntKind.u32.bits (m / 2 ^ x.toNat)&&& ah8 IntKind.u32.bits 1).toNat:Int)=1)
theorem RI (m x:Int) (h:0≤m) (hx:0≤x∧x≤31):aF Tryz.prog 156 [.int .u32 m,.int .i64 x] (.bp (C8 m x)):=by
 have e:IntKind.u32.bits=32:=rfl;refine av (md:=1) (rf:=[]) mixed au aC Tryz.func156 (by rfl) (by rfl) (by rfl) ?_
 repeat'((conv=>whnf);first|intro _|apply aI|with_reducible exact vM rfl|exact⟨⟩|apply nM|apply fM)
 all_goals((try apply vM);(try simp only[vq]at*);try omega)
 all_goals exact Sup.of rfl
def wW:PSp:=fun xs K=>match xs with
 | [.int .u32 m]=>VC (0≤m∧m<4294967296)∧K (.int .i64 (qL m))
 |_=>False
theorem zF:POK Tryz.prog 190 wW:=by
 intro xs K h;unfold wW at h;split at h
 ·exact⟨_,h.2,OJ _ h.1.get⟩
 ·exact h.elim
def OL:PSp:=fun xs K=>match xs with
 | [.int .u32 m]=>VC (0≤m∧m<4294967296)∧K (.int .i64 (wV m))
 |_=>False
theorem aaZ:POK Tryz.prog 210 OL:=by
 intro xs K h;unfold OL at h;split at h
 ·exact⟨_,h.2,RH _ h.1.get⟩
 ·exact h.elim
def wX:PSp:=fun xs K=>match xs with
 | [.int .u32 m]=>VC (0≤m∧m<4294967296)∧K (.int .i64 (fG m-1))
 |_=>False
theorem Kw:POK Tryz.prog 211 wX:=by
 intro xs K h;unfold wX at h;split at h
 ·exact⟨_,h.2,E9 _ h.1.get⟩
 ·exact h.elim
def FJ:PSp:=fun xs K=>match xs with
 | [.int .u32 m,.int .i64 x]=>VC (0≤m∧0≤x∧x≤31)∧K (.bp (C8 m x))
 |_=>False
theorem Lx:POK Tryz.prog 156 FJ:=by
 intro xs K h;unfold FJ at h;split at h
 ·exact⟨_,h.2,RI _ _ h.1.get.1 h.1.get.2⟩
 ·exact h.elim
theorem qM {l:List Int} (h:Asc l):0≤(mk l:Int)∧(mk l:Int)<131072:=by
 have:=aep (l:=l) (fun x hx=>by have:=h.rng x hx;omega)
 omega
theorem LA {l:List Int} (h:Asc l) {x:Int} (hx:0≤x∧x≤31):C8 (mk l) x=decide (x∈l):=by
 unfold C8;rw[RB h.inM hx];by_cases hm:x∈l<;>simp[hm]
theorem LB {x:Int} {l:List Int} (h:Asc (x::l)):qL (mk (x::l))=x:=by
 unfold qL;rw[aiV,aev h];have:=h.rng x (by simp)
 omega
theorem aa0 {l:List Int} (h:Asc l) {z:Int} (hz:z∈l) (hm:∀x∈l,x≤z):fG (mk l)=z+1:=by
 have hr:=h.rng z hz;have e:((z.toNat:Nat):Int)=z:=by omega
 have h1:2 ^ z.toNat≤mk l:=Nat.ge_two_pow_of_testBit (by rw[dR h.inM,e];simp[hz])
 have h2:mk l<2 ^ (z.toNat+1):=ajV _ fun i hi=>by
  rw[dR h.inM];simp only[decide_eq_false_iff_not];intro hm';have:=hm _ hm';omega
 have h3:=(qM h).2;rw[Ls z.toNat (mk l) h1 (by omega)]
 have h4:mk l / 2 ^ z.toNat=1:=by
  rw[Nat.div_eq_iff (aj6 _)];rw[aj5]at h2;omega
 rw[h4];have:fG ((1:Nat):Int)=1:=by decide
 omega
theorem wY {p:Nat→Bool} {n:Nat} (h:∀i,i<n→p i=false):(ahX n).find? p=none:=by
 simp only[akl,ajF];exact fun i hi=>by simp[h i hi]
theorem Ew {p:Nat→Bool} {n y:Nat} (hy:y<n) (hp:p y=true) (h:∀i,i<y→p i=false):(ahX n).find? p=some y:=by
 have e:ahX n=ahX y++(y::List.range' (y+1) (n-y-1)):=by
  rw[ajs,ajs,show n=y+(1+(n-y-1)) by omega,←akm,←akm]
  simp
 rw[e,List.find?_append,wY h];simp[hp]
def firstAt (p:Nat→Bool) (n:Nat):Int:=match(ahX n).find? p with
 |some i=>i
 |none=> -1
theorem kr {p:Nat→Bool} {n:Nat} (h:∀i,i<n→p i=false):firstAt p n= -1:=by unfold firstAt;rw[wY h]
theorem ku {p:Nat→Bool} {n y:Nat} (hy:y<n) (hp:p y=true) (h:∀i,i<y→p i=false):firstAt p n=y:=by unfold firstAt;rw[Ew hy hp h]
theorem iU {p:Nat→Bool} {n:Nat}:decide (0≤firstAt p n)=(ahX n).any p:=by
 unfold firstAt;cases h:(ahX n).find? p with
 |some i=>
  have:=akn h;have hm:=List.mem_of_find?_eq_some h;rw[ako.2 ⟨i,hm,this⟩];simp
 |none=>
  rw[akl]at h;rw[akp.2 (fun x hx=>h x hx)];simp
theorem oD {α:Type} (p:α→Bool) (d:α) (l:List α):(ahX l.length).any (fun i=>p (l.getD i d))=l.any p:=by
 rw[ajU,ako,ako];constructor
 ·rintro⟨i,hi,h⟩
  have hi:=ajF.1 hi;rw[ahZ,ah4 hi]at h;exact⟨l[i],akd hi,h⟩
 ·rintro⟨x,hx,h⟩
  obtain⟨i,hi,rfl⟩:=ah3 hx;exact⟨i,ajF.2 hi,by rw[ahZ,ah4 hi];exact h⟩
def FK:PSp:=fun xs K=>match xs with
 | [.isl (.ints .i64 l) .none,.fn (.func f) fs cs]=>VC (l.length≤2000000)∧∃p:Int→Bool,(∀x∈l,aF Tryz.prog f (fs++[.int .i64 x]++cs) (.bp (p x)))∧K (.int .i64 (firstAt (fun i=>p (l.getD i 0)) l.length))
 |_=>False
theorem RJ (l:List Int) (hl:l.length≤2000000) (f:Nat) (fs cs:List PV) (p:Int→Bool) (hp:∀x∈l,aF Tryz.prog f (fs++[.int .i64 x]++cs) (.bp (p x))):
 aF Tryz.prog 207 [.isl (.ints .i64 l) .none,.fn (.func f) fs cs] (.int .i64 (firstAt (fun i=>p (l.getD i 0)) l.length)):=by
 refine AZ 1 (enters' Tryz.func207 (by rfl) (by rfl)) rfl (by simp) fun S0 w0 us vs hu hv=>?_
 have hY:∀r,kS Tryz.prog r (xX S0 w0) (fnY f us vs fun xs K=>match xs with
  | [.int .i64 x]=>VC (x∈l)∧K (.bp (p x))
  |_=>False):=fun r=>Ra (fs:=fs) (cs:=cs) (fun S w hb=>⟨hu.mono hb.1 (.refl _),hv.mono hb.1 (.refl _)⟩) fun xs K hk=>by
  split at hk
  ·exact⟨_,hk.2,hp _ hk.1.get⟩
  ·exact hk.elim
 have W:Walk Tryz.prog none (xX S0 w0) tab.get noC _:=⟨uK,mixed,au,aC.up _,hY none⟩;refine wE uK mixed au (md:=1) (rf:=[]) (aC.up _) (hY none) Tryz.func207 (by rfl) (by rfl) ?_
 repeat'((conv=>whnf);first|intro _|apply aI|with_reducible exact vM rfl|exact⟨⟩|apply nM|apply fM)
 all_goals((try apply vM);(try simp only[vq]at*);try omega)
 conv=>whnf
 refine aM (X:=Nat) (fun i=>i≤l.length∧∀j,j<i→p (l.getD j 0)=false) (fun i=>[(8,.int .i64 i)]) (fun i=>[]) (fun i=>l.length-i) 0 W (by rfl) ⟨by omega,fun j hj=>by omega⟩ ?_ ?_
 ·repeat'((conv=>whnf);first|intro _|apply aI|with_reducible exact vM rfl|exact⟨⟩|apply nM|apply fM)
  all_goals((try apply vM);(try simp only[vq]at*);try omega)
 ·rintro i ⟨hi,hok⟩
  by_cases hlt:i<l.length
  ·have hm:l.getD i 0∈l:=by rw[ahZ,ah4 hlt];exact akd hlt
   repeat'((conv=>whnf);first|intro _|apply aI|with_reducible exact vM rfl|exact⟨⟩|apply nM|apply fM)
   all_goals((try apply vM);(try simp only[vq]at*);try omega)
   ·rw[ku hlt ‹p (l.getD i 0)=true› hok];exact Sup.of rfl
   ·refine⟨i+1,[],⟨⟨by omega,fun j hj=>?_⟩,by omega⟩,?_⟩
    ·by_cases e:j=i
     ·subst e;assumption
     ·exact hok j (by omega)
    ·repeat'((conv=>whnf);first|intro _|apply aI|with_reducible exact vM rfl|exact⟨⟩|apply nM|apply fM)
     all_goals((try apply vM);(try simp only[vq]at*);try omega)
  ·have:i=l.length:=by omega
   subst this;rw[kr hok]
   repeat'((conv=>whnf);first|intro _|apply aI|with_reducible exact vM rfl|exact⟨⟩|apply nM|apply fM)
   all_goals((try apply vM);(try simp only[vq]at*);try omega)
   exact Sup.of rfl
theorem LC:POK Tryz.prog 207 FK:=by
 intro xs K h;unfold FK at h;split at h
 ·obtain⟨⟨h1⟩,p,h2,hK⟩:=h
  exact⟨_,hK,RJ _ h1 _ _ _ p h2⟩
 ·exact h.elim
def OM:PSp:=fun xs K=>match xs with
 | [.isl (.ints .i64 l) .none,.fn (.func f) fs cs]=>VC (l.length≤2000000∧fu.inlF fs=true∧fu.inlF cs=true)∧∃p:Int→Bool,(∀x∈l,aF Tryz.prog f (fs++[.int .i64 x]++cs) (.bp (p x)))∧K (.bp (l.any p))
 |_=>False
theorem RL (l:List Int) (hl:l.length≤2000000) (f:Nat) (fs cs:List PV) (hfs:fu.inlF fs=true) (hcs:fu.inlF cs=true) (p:Int→Bool) (hp:∀x∈l,aF Tryz.prog f (fs++[.int .i64 x]++cs) (.bp (p x))):
 aF Tryz.prog 215 [.isl (.ints .i64 l) .none,.fn (.func f) fs cs] (.bp (l.any p)):=by
 have hc:aW Tryz.prog (aA 207 (aB FK) noC):=aj (ak LC) aC;refine av (md:=1) (rf:=[]) mixed au hc Tryz.func215 (by rfl) (by rfl) (by rfl) ?_
 repeat'((conv=>whnf);first|intro _|apply aI|with_reducible exact vM rfl|exact⟨⟩|apply nM|apply fM)
 conv=>whnf
 simp only[aB,rA,jE,uw,fu,hfs,hcs]
 repeat'((conv=>whnf);first|intro _|apply aI|with_reducible exact vM rfl|exact⟨⟩|apply nM|apply fM)
 all_goals((try apply vM);(try simp only[vq]at*);try omega)
 refine⟨p,hp,?_⟩
 repeat'((conv=>whnf);first|intro _|apply aI|with_reducible exact vM rfl|exact⟨⟩|apply nM|apply fM)
 all_goals((try apply vM);(try simp only[vq]at*);try omega)
 refine Sup.via ?_
 repeat'((conv=>whnf);first|intro _|apply aI|with_reducible exact vM rfl|exact⟨⟩|apply nM|apply fM)
 refine VC.mk ?_;rw[iU,oD]
theorem aa1:POK Tryz.prog 215 OM:=by
 intro xs K h;unfold OM at h;split at h
 ·obtain⟨⟨h1,h3,h4⟩,p,h2,hK⟩:=h
  exact⟨_,hK,RL _ h1 _ _ _ h3 h4 p h2⟩
 ·exact h.elim
theorem RN (l:List Bool) (hl:l.length≤2000000) (b:Bool):aF Tryz.prog 192 [.isl (.bools l) .none,.bp b] (.int .i64 (firstAt (fun i=>b==l.getD i false) l.length)):=by
 refine av (md:=1) (rf:=[]) mixed au aC Tryz.func192 (by rfl) (by rfl) (by rfl) ?_
 repeat'((conv=>whnf);first|intro _|apply aI|with_reducible exact vM rfl|exact⟨⟩|apply nM|apply fM)
 all_goals((try apply vM);(try simp only[vq]at*);try omega)
 conv=>whnf
 refine aM (X:=Nat) (fun i=>i≤l.length∧∀j,j<i→(b==l.getD j false)=false) (fun i=>[(8,.int .i64 i)]) (fun i=>[]) (fun i=>l.length-i) 0 ⟨aK,mixed,au,aC,aP⟩ (by rfl) ⟨by omega,fun j hj=>by omega⟩ ?_ ?_
 ·repeat'((conv=>whnf);first|intro _|apply aI|with_reducible exact vM rfl|exact⟨⟩|apply nM|apply fM)
  all_goals((try apply vM);(try simp only[vq]at*);try omega)
 ·rintro i ⟨hi,hok⟩
  by_cases hlt:i<l.length
  ·repeat'((conv=>whnf);first|intro _|apply aI|with_reducible exact vM rfl|exact⟨⟩|apply nM|apply fM)
   all_goals((try apply vM);(try simp only[vq]at*);try omega)
   ·rw[ku hlt ‹(b==l.getD i false)=true› hok];exact Sup.of rfl
   ·refine⟨i+1,[],⟨⟨by omega,fun j hj=>?_⟩,by omega⟩,?_⟩
    ·by_cases e:j=i
     ·subst e;assumption
     ·exact hok j (by omega)
    ·repeat'((conv=>whnf);first|intro _|apply aI|with_reducible exact vM rfl|exact⟨⟩|apply nM|apply fM)
     all_goals((try apply vM);(try simp only[vq]at*);try omega)
  ·have:i=l.length:=by omega
   subst this;rw[kr hok]
   repeat'((conv=>whnf);first|intro _|apply aI|with_reducible exact vM rfl|exact⟨⟩|apply nM|apply fM)
   all_goals((try apply vM);(try simp only[vq]at*);try omega)
   exact Sup.of rfl
def OO:PSp:=fun xs K=>match xs with
 | [.isl (.bools l) .none,.bp b]=>VC (l.length≤2000000)∧K (.int .i64 (firstAt (fun i=>b==l.getD i false) l.length))
 |_=>False
theorem aa2:POK Tryz.prog 192 OO:=by
 intro xs K h;unfold OO at h;split at h
 ·exact⟨_,h.2,RN _ h.1.get _⟩
 ·exact h.elim
theorem RO (l:List Bool) (hl:l.length≤2000000) (b:Bool):aF Tryz.prog 152 [.isl (.bools l) .none,.bp b] (.bp (l.any fun x=>b==x)):=by
 have hc:aW Tryz.prog (aA 192 (aB OO) noC):=aj (ak aa2) aC;refine av (md:=1) (rf:=[]) mixed au hc Tryz.func152 (by rfl) (by rfl) (by rfl) ?_
 repeat'((conv=>whnf);first|intro _|apply aI|with_reducible exact vM rfl|exact⟨⟩|apply nM|apply fM)
 all_goals((try apply vM);(try simp only[vq]at*);try omega)
 refine Sup.via ?_
 repeat'((conv=>whnf);first|intro _|apply aI|with_reducible exact vM rfl|exact⟨⟩|apply nM|apply fM)
 refine VC.mk ?_;rw[iU,oD (fun x=>b==x)]
def OP:PSp:=fun xs K=>match xs with
 | [.isl (.bools l) .none,.bp b]=>VC (l.length≤2000000)∧K (.bp (l.any fun x=>b==x))
 |_=>False
theorem aa3:POK Tryz.prog 152 OP:=by
 intro xs K h;unfold OP at h;split at h
 ·exact⟨_,h.2,RO _ h.1.get _⟩
 ·exact h.elim
theorem HY:∀(l:List Int) (a b:Int),l.Pairwise (·< ·)→(∀x∈l,a<x∧x≤b)→a≤b→(l.length:Int)≤b-a:=by
 intro l;induction l with
 |nil=>intro a b _ _ h;simp;omega
 |cons x l ih=>
  intro a b hp hr hab;have hx:=hr x (by simp)
  have:=ih x b (ajh.1 hp).2 (fun y hy=>⟨(ajh.1 hp).1 y hy,(hr y (by simp[hy])).2⟩) hx.2
  rw[ahK];omega
theorem LD {l:List Int} (h:Asc l):l.length≤16:=by
 have:=HY l 0 16 h.pw (fun x hx=>by have:=h.rng x hx;omega) (by omega)
 omega
theorem pV {l:List Int} {i:Nat} {x:PV} (hx:(l.map (PV.int .i64))[i]? =some x):i<l.length∧x=.int .i64 (l.getD i 0):=by
 rw[aiO]at hx;cases h:l[i]? with
 |none=>rw[h]at hx;cases hx
 |some y=>
  rw[h]at hx;cases hx
  exact⟨(ajz.1 h).1,by rw[ahZ,h];rfl⟩
theorem Vx {l:List Int} (h:Asc l) (k:Nat):Asc (l.drop k):=⟨h.pw.sublist (List.drop_sublist k l),fun x hx=>h.rng x (List.mem_of_mem_drop hx)⟩
theorem drop_cons {l:List Int} {k:Nat} (hk:k<l.length):l.drop k=l.getD k 0::l.drop (k+1):=by
 rw[List.drop_eq_getElem_cons hk,ahZ,ah4 hk];rfl
noncomputable def aez:CPT:=aA 190 (aB wW) noC
theorem LG:aW Tryz.prog aez:=aj (ak zF) aC
theorem kC (l:List Int) (h:Asc l):nX Tryz.prog 189 [] [.ip (.pv [.int .u32 (mk l:Nat)]) 0] 1 (l.map (PV.int .i64)):=by
 refine lQ (md:=1) (rf:=[]) mixed au Tryz.func189 (by rfl) (by rfl) (by rfl) fun G go b hY=>⟨_,LG,?_⟩
 obtain⟨L,hL⟩:∃L,L=l.map (PV.int .i64):=⟨_,rfl⟩;have hlen:L.length=l.length:=by simp[hL]
 have hget:∀i,i<l.length→L[i]? =some (.int .i64 (l.getD i 0)):=fun i hi=>by simp[hL,hi]
 rw[←hL]at hY⊢;have W:Walk Tryz.prog none kR tab.get aez (uM b 1 G go L):=⟨aK,mixed,au,LG,hY _ _⟩;have stop:∀i,i<l.length→GoTo go L i→go (L.take i++[.int .i64 (l.getD i 0)])=false→L.take i++[.int .i64 (l.getD i 0)]=iQ go [] L:=fun i hi hg h=>by
  rw[eu (hget i hi)]at h⊢;rw[wI (by omega) hg h]
 have cont:∀i,i<l.length→GoTo go L i→go (L.take i++[.int .i64 (l.getD i 0)])=true→GoTo go L (i+1):=fun i hi hg h=>hg.succ (by rw[←eu (hget i hi)];exact h)
 have done:GoTo go L l.length→L.take l.length=iQ go [] L:=fun hg=>by rw[zl (by omega) hg,←hlen];simp
 repeat'((conv=>whnf);first|intro _|apply aI|with_reducible exact vM rfl|exact⟨⟩|apply nM|apply fM)
 all_goals((try apply vM);(try simp only[vq]at*);try omega)
 conv=>whnf
 refine aM (X:=Nat) (fun k=>k≤l.length∧GoTo go L k) (fun k=>[(3,.int .u32 (mk (l.drop k):Nat))]) (fun k=>[(0,.ext G (L.take k))]) (fun k=>l.length-k) 0 W (by rfl) ⟨by omega,.zero⟩ ?_ ?_
 ·repeat'((conv=>whnf);first|intro _|apply aI|with_reducible exact vM rfl|exact⟨⟩|apply nM|apply fM)
  all_goals((try apply vM);(try simp only[vq]at*);try omega)
  all_goals simp
 intro k hk;obtain⟨hk1,hk3⟩:=hk;by_cases hlt:k<l.length
 ·have hA:=Vx h k
  have hr:=qM hA;have e:=drop_cons hlt;have hpos:0<mk (l.drop k):=by rw[e]at hA⊢;exact mk_pos hA
  have hlow:qL (mk (l.drop k))=l.getD k 0:=by rw[e]at hA⊢;exact LB hA
  have hrest:IntKind.u32.wrap ((ah8 IntKind.u32.bits (mk (l.drop k):Int)&&& ah8 IntKind.u32.bits ((mk (l.drop k):Int)-1)).toNat:Int)=(mk (l.drop (k+1)):Nat):=by rw[e]at hA⊢;exact aaS hA
  repeat'((conv=>whnf);first|(intro hq;(try simp only[vw]at hq);try first|exact absurd hq (by decide)|exfalso;omega)|apply aI|with_reducible exact vM rfl|exact⟨⟩|apply nM|apply fM)
  all_goals(try rw[hlow]at*)
  all_goals((try apply vM);(try simp only[vq]at*);try omega)
  ·exact Rs (hget k hlt) hk3
  ·exact stop k hlt hk3 (by rename_i hq;simpa using hq)
  ·refine⟨k+1,[],⟨⟨by omega,cont k hlt hk3 (by rename_i hq;simpa using hq)⟩,by omega⟩,?_⟩
   repeat'((conv=>whnf);first|intro _|apply aI|with_reducible exact vM rfl|exact⟨⟩|apply nM|apply fM)
   all_goals((try apply vM);(try simp only[vq]at*);try omega)
   all_goals exact eu (hget k hlt)
 ·have:l.length=k:=by omega
  subst this;have hz:mk (l.drop l.length)=0:=by rw[akq];rfl
  rw[hz]
  repeat'((conv=>whnf);first|(intro hq;(try simp only[vw]at hq);try first|exact absurd hq (by decide)|exfalso;omega)|apply aI|with_reducible exact vM rfl|exact⟨⟩|apply nM|apply fM)
  all_goals((try apply vM);(try simp only[vq]at*);try omega)
  exact done hk3
def hsN (l:List Int):Nat→List (Nat × AO):=fun i=>[(0,.cells (.pv [.isl (.ints .i64 (l.take i)) (.own 5)]) false),(5,.tok 1 i)]
theorem OQ (l:List Int) (h:Asc l):aF Tryz.prog 188 [.nils,.fn (.func 189) [] [.ip (.pv [.int .u32 (mk l:Nat)]) 0]] (.isl (.ints .i64 l) .none):=by
 have h16:=LD h;refine av (md:=1) (rf:=[]) mixed au aC Tryz.func188 (by rfl) (by rfl) (by rfl) ?_
 repeat'((conv=>whnf);first|intro _|apply aI|with_reducible exact vM rfl|exact⟨⟩|apply nM|apply fM)
 all_goals((try apply vM);(try simp only[vq]at*);try omega)
 conv=>whnf
 refine jo aK mixed au aC (fun r=>aP) (fs:=[]) (cs:=[.ip (.pv [.int .u32 (mk l:Nat)]) 0]) (l.map (PV.int .i64)) (fun _=>true) (hsN l) (by rfl) (by rfl) (by rfl) (kC l h) (by rfl) (by rfl) (by rfl) (by rfl) ?_ ?_ ?_
 ·repeat'((conv=>whnf);first|intro _|apply aI|with_reducible exact vM rfl|exact⟨⟩|apply nM|apply fM)
  all_goals((try apply vM);(try simp only[vq]at*);try omega)
 ·intro hall
  rw[ajO]
  repeat'((conv=>whnf);first|intro _|apply aI|with_reducible exact vM rfl|exact⟨⟩|apply nM|apply fM)
  all_goals((try apply vM);(try simp only[vq]at*);try omega)
  all_goals(try rw[ajS])
  all_goals exact Sup.of rfl
 ·intro i x hx hall lp
  have hx':i<l.length∧x=.int .i64 (l.getD i 0):=by
   rw[aiO]at hx;cases h:l[i]? with
   |none=>rw[h]at hx;cases hx
   |some y=>
    rw[h]at hx;cases hx
    have:=(ajz.1 h).1;exact⟨this,by rw[ahZ,h];rfl⟩
  obtain⟨hi,rfl⟩:=hx';have e1:(l.take i).length=i:=by rw[aiG];omega
  have e2:l.take i++[l.getD i 0]=l.take (i+1):=by
   rw[ajQ,ahZ,ah4 hi];rfl
  repeat'((conv=>whnf);first|intro _|apply aI|with_reducible exact vM rfl|exact⟨⟩|apply nM|apply fM)
  all_goals((try apply vM);(try simp only[vq]at*);try omega)
  all_goals(try(simp only[ai7,aiG,ahK,ahG];omega))
  refine⟨[],?_⟩
  repeat'((conv=>whnf);first|intro _|apply aI|with_reducible exact vM rfl|exact⟨⟩|apply nM|apply fM)
  all_goals((try apply vM);(try simp only[vq]at*);try omega)
  all_goals(try(rw[e2]))
def HZ:PSp:=fun xs K=>match xs with
 | [.nils,.fn (.func f) [] [.ip (.pv [.int .u32 m]) 0]]=>∃l,VC (f=189∧m=(mk l:Nat)∧Asc l)∧K (.isl (.ints .i64 l) .none)
 |_=>False
theorem Vy:POK Tryz.prog 188 HZ:=by
 intro xs K hk;unfold HZ at hk;split at hk
 ·obtain⟨l,⟨rfl,rfl,h⟩,hk⟩:=hk
  exact⟨_,hk,OQ _ h⟩
 ·exact hk.elim
noncomputable def agC:CPT:=aA 188 (Oj HZ) noC
theorem aa4:aW Tryz.prog agC:=aj (U4 Vy) aC
theorem RP (l:List Int) (h:Asc l):aF Tryz.prog 148 [.fn (.func 189) [] [.ip (.pv [.int .u32 (mk l:Nat)]) 0]] (.isl (.ints .i64 l) .none):=by
 refine av (md:=1) (rf:=[]) mixed au aa4 Tryz.func148 (by rfl) (by rfl) (by rfl) ?_
 repeat'((conv=>whnf);first|intro _|apply aI|with_reducible exact vM rfl|exact⟨⟩|apply nM|apply fM)
 refine⟨l,VC.mk ⟨rfl,rfl,h⟩,?_⟩
 repeat'((conv=>whnf);first|intro _|apply aI|with_reducible exact vM rfl|exact⟨⟩|apply nM|apply fM)
 all_goals((try apply vM);(try simp only[vq]at*);try omega)
 all_goals exact Sup.of rfl
def OT:PSp:=fun xs K=>match xs with
 | [.fn (.func f) [] [.ip (.pv [.int .u32 m]) 0]]=>∃l,VC (f=189∧m=(mk l:Nat)∧Asc l)∧K (.isl (.ints .i64 l) .none)
 |_=>False
theorem aa5:POK Tryz.prog 148 OT:=by
 intro xs K hk;unfold OT at hk;split at hk
 ·obtain⟨l,⟨rfl,rfl,h⟩,hk⟩:=hk
  exact⟨_,hk,RP _ h⟩
 ·exact hk.elim
theorem Fa (m:Int):aF Tryz.prog 149 [.int .u32 m] (.fn (.func 189) [] [.ip (.pv [.int .u32 m]) 0]):=by
 refine av (md:=1) (rf:=[]) mixed au aC Tryz.func149 (by rfl) (by rfl) (by rfl) ?_
 repeat'((conv=>whnf);first|intro _|apply aI|with_reducible exact vM rfl|exact⟨⟩|apply nM|apply fM)
 all_goals((try apply vM);(try simp only[vq]at*);try omega)
 all_goals exact Sup.of rfl
def Bq:PSp:=fun xs K=>match xs with
 | [.int .u32 m]=>VC (True)∧K (.fn (.func 189) [] [.ip (.pv [.int .u32 m]) 0])
 |_=>False
theorem Da:POK Tryz.prog 149 Bq:=by
 intro xs K h;unfold Bq at h;split at h
 ·exact⟨_,h.2,Fa _⟩
 ·exact h.elim
theorem RQ (l:List Int) (hl:l.length≤2000000) (b:Int):aF Tryz.prog 191 [.isl (.ints .u32 l) .none,.int .u32 b] (.int .i64 (firstAt (fun i=>decide (b=l.getD i 0)) l.length)):=by
 refine av (md:=1) (rf:=[]) mixed au aC Tryz.func191 (by rfl) (by rfl) (by rfl) ?_
 repeat'((conv=>whnf);first|intro _|apply aI|with_reducible exact vM rfl|exact⟨⟩|apply nM|apply fM)
 all_goals((try apply vM);(try simp only[vq]at*);try omega)
 conv=>whnf
 refine aM (X:=Nat) (fun i=>i≤l.length∧∀j,j<i→decide (b=l.getD j 0)=false) (fun i=>[(8,.int .i64 i)]) (fun i=>[]) (fun i=>l.length-i) 0 ⟨aK,mixed,au,aC,aP⟩ (by rfl) ⟨by omega,fun j hj=>by omega⟩ ?_ ?_
 ·repeat'((conv=>whnf);first|intro _|apply aI|with_reducible exact vM rfl|exact⟨⟩|apply nM|apply fM)
  all_goals((try apply vM);(try simp only[vq]at*);try omega)
 ·rintro i ⟨hi,hok⟩
  by_cases hlt:i<l.length
  ·repeat'((conv=>whnf);first|intro _|apply aI|with_reducible exact vM rfl|exact⟨⟩|apply nM|apply fM)
   all_goals((try apply vM);(try simp only[vq]at*);try omega)
   ·rename_i hq
    rw[ku (p:=fun i=>decide (b=l.getD i 0)) hlt (decide_eq_true hq) (fun j hj=>decide_eq_false (hok j hj))];exact Sup.of rfl
   ·refine⟨i+1,[],⟨⟨by omega,fun j hj=>?_⟩,by omega⟩,?_⟩
    ·by_cases e:j=i
     ·subst e;first|assumption|(apply decide_eq_false;assumption)
     ·first|exact hok j (by omega)|exact decide_eq_false (hok j (by omega))
    ·repeat'((conv=>whnf);first|intro _|apply aI|with_reducible exact vM rfl|exact⟨⟩|apply nM|apply fM)
     all_goals((try apply vM);(try simp only[vq]at*);try omega)
  ·have:i=l.length:=by omega
   subst this;rw[kr hok]
   repeat'((conv=>whnf);first|intro _|apply aI|with_reducible exact vM rfl|exact⟨⟩|apply nM|apply fM)
   all_goals((try apply vM);(try simp only[vq]at*);try omega)
   exact Sup.of rfl
def OU:PSp:=fun xs K=>match xs with
 | [.isl (.ints .u32 l) .none,.int .u32 b]=>VC (l.length≤2000000)∧K (.int .i64 (firstAt (fun i=>decide (b=l.getD i 0)) l.length))
 |_=>False
theorem aa6:POK Tryz.prog 191 OU:=by
 intro xs K h;unfold OU at h;split at h
 ·exact⟨_,h.2,RQ _ h.1.get _⟩
 ·exact h.elim
noncomputable def agD:CPT:=aA 191 (aB OU) noC
theorem aa7:aW Tryz.prog agD:=aj (ak aa6) aC
theorem RS (l:List Int) (hl:l.length≤2000000) (b:Int):aF Tryz.prog 150 [.isl (.ints .u32 l) .none,.int .u32 b] (.bp (l.any fun y=>decide (b=y))):=by
 refine av (md:=1) (rf:=[]) mixed au aa7 Tryz.func150 (by rfl) (by rfl) (by rfl) ?_
 repeat'((conv=>whnf);first|intro _|apply aI|with_reducible exact vM rfl|exact⟨⟩|apply nM|apply fM)
 all_goals((try apply vM);(try simp only[vq]at*);try omega)
 refine Sup.via ?_
 repeat'((conv=>whnf);first|intro _|apply aI|with_reducible exact vM rfl|exact⟨⟩|apply nM|apply fM)
 refine VC.mk ?_;rw[iU,oD (fun y=>decide (b=y))]
def OV:PSp:=fun xs K=>match xs with
 | [.isl (.ints .u32 l) .none,.int .u32 b]=>VC (l.length≤2000000)∧K (.bp (l.any fun y=>decide (b=y)))
 |_=>False
theorem aa8:POK Tryz.prog 150 OV:=by
 intro xs K h;unfold OV at h;split at h
 ·exact⟨_,h.2,RS _ h.1.get _⟩
 ·exact h.elim
def gQ (cs l:List Int) (i:Nat):Int:=(l.take i).foldl (fun s c=>s+cs.getD c.toNat 0) 0
theorem Br (cs l:List Int) (i:Nat) (h:i<l.length):gQ cs l (i+1)=gQ cs l i+cs.getD (l.getD i 0).toNat 0:=by
 unfold gQ;rw[ajQ,akc];simp[h]
theorem l5 {ls:List (List Int)} {i:Nat} (h:i<ls.length):ls.getD i []∈ls:=by
 rw[ahZ,ah4 h];exact akd _
theorem dx {l:List Int} {i:Nat} (h:i<l.length):l.getD i 0∈l:=by
 rw[ahZ,ah4 h];exact akd _
theorem OW (h:Bool) (e:Int):aF Tryz.prog 195 [.bp h,.int .i64 e] (.int .i64 (if h then e else 0)):=by
 refine av (md:=0) (rf:=[]) mixed au aC Tryz.func195 (by rfl) (by rfl) (by rfl) ?_
 repeat'((conv=>whnf);first|intro _|apply aI|with_reducible exact vM rfl|exact⟨⟩|apply nM|apply fM)
 all_goals all_goals(first|(refine Sup.of ?_;first|rfl|(simp[*,bI];done))|(refine Sup.via ?_;repeat'((conv=>whnf);first|intro _|apply aI|with_reducible exact vM rfl|exact⟨⟩|apply nM|apply fM);all_goals((try apply vM);(try simp only[vq]at*);try omega);all_goals(try(simp[CL.sub];done))))
theorem Ky (h:Bool) (e:Int):aF Tryz.prog 195 [.bool h,.int .i64 e] (.int .i64 (if h then e else 0)):=by
 cases h
 all_goals
  refine av (md:=0) (rf:=[]) mixed au aC Tryz.func195 (by rfl) (by rfl) (by rfl) ?_
  repeat'((conv=>whnf);first|intro _|apply aI|with_reducible exact vM rfl|exact⟨⟩|apply nM|apply fM)
  all_goals all_goals(first|(refine Sup.of ?_;first|rfl|(simp[*,bI];done))|(refine Sup.via ?_;repeat'((conv=>whnf);first|intro _|apply aI|with_reducible exact vM rfl|exact⟨⟩|apply nM|apply fM);all_goals((try apply vM);(try simp only[vq]at*);try omega);all_goals(try(simp[CL.sub];done))))
theorem qN:POK Tryz.prog 195 fC:=by
 intro xs K h;unfold fC at h;split at h
 ·exact⟨_,h,OW _ _⟩
 ·exact⟨_,h,Ky _ _⟩
 ·exact h.elim
structure FL (f l:List Int):Prop where
 len:l.length≤1000000
 at':∀c∈l,0≤c∧c<f.length
 bd:∀i,i≤l.length→ -1000000000000≤gQ f l i∧gQ f l i≤1000000000000
theorem RU (l f:List Int) (h:FL f l):aF Tryz.prog 232 [.isl (.ints .i64 l) .none,.isl (.ints .i64 f) .none] (.int .i64 (gQ f l l.length)):=by
 obtain⟨hl,hm,hb⟩:=h;refine av (md:=1) (rf:=[]) mixed au aC Tryz.func232 (by rfl) (by rfl) (by rfl) ?_
 repeat'((conv=>whnf);first|intro _|apply aI|with_reducible exact vM rfl|exact⟨⟩|apply nM|apply fM)
 all_goals((try apply vM);(try simp only[vq]at*);try omega)
 conv=>whnf
 refine aM (X:=Nat) (fun i=>i≤l.length) (fun i=>[(5,.int .i64 (gQ f l i)),(10,.int .i64 i)]) (fun _=>[]) (fun i=>l.length-i) 0 ⟨aK,mixed,au,aC,aP⟩ (by rfl) (by omega) ?_ ?_
 ·repeat'((conv=>whnf);first|intro _|apply aI|with_reducible exact vM rfl|exact⟨⟩|apply nM|apply fM)
  all_goals((try apply vM);(try simp only[vq]at*);try omega)
  all_goals(try rfl)
 intro i hi;by_cases hlt:i<l.length
 ·have key:=hm (l.getD i 0) (by simp[hlt])
  have hs:=hb (i+1) hlt;have hs0:=hb i hi;have e:=Br f l i hlt
  repeat'((conv=>whnf);first|intro _|apply aI|with_reducible exact vM rfl|exact⟨⟩|apply nM|apply fM)
  all_goals((try apply vM);(try simp only[vq]at*);try omega)
  refine⟨i+1,[],⟨by omega,by omega⟩,?_⟩
  repeat'((conv=>whnf);first|intro _|apply aI|with_reducible exact vM rfl|exact⟨⟩|apply nM|apply fM)
  all_goals((try apply vM);(try simp only[vq]at*);try omega)
  all_goals(try(rw[e]))
 ·have:i=l.length:=by omega
  subst this
  repeat'((conv=>whnf);first|intro _|apply aI|with_reducible exact vM rfl|exact⟨⟩|apply nM|apply fM)
  all_goals((try apply vM);(try simp only[vq]at*);try omega)
  all_goals(first|(refine Sup.of ?_;first|rfl|(simp[*,bI];done))|(refine Sup.via ?_;repeat'((conv=>whnf);first|intro _|apply aI|with_reducible exact vM rfl|exact⟨⟩|apply nM|apply fM);all_goals((try apply vM);(try simp only[vq]at*);try omega);all_goals(try(simp[CL.sub];done))))
def OX:PSp:=fun xs K=>match xs with
 | [.isl (.ints .i64 l) .none,.isl (.ints .i64 f) .none]=>VC (FL f l)∧K (.int .i64 (gQ f l l.length))
 |_=>False
theorem aa9:POK Tryz.prog 232 OX:=by
 intro xs K h;unfold OX at h;split at h
 ·exact⟨_,h.2,RU _ _ h.1.get⟩
 ·exact h.elim
def iH (f:List Int) (ls:List (List Int)) (m:Nat):List Int:=(ls.take m).map fun l=>gQ f l l.length
theorem OY (f:List Int) (ls:List (List Int)) (m:Nat) (h:m<ls.length):iH f ls (m+1)=iH f ls m++[gQ f (ls.getD m []) (ls.getD m []).length]:=by
 unfold iH;rw[ajQ,ajR,ahZ,ah4 h];rfl
theorem Ey (f:List Int) (ls:List (List Int)) (m:Nat) (h:m≤ls.length):(iH f ls m).length=m:=by simp[iH];omega
noncomputable def agE:CPT:=aA 232 (aB OX) noC
theorem LH:aW Tryz.prog agE:=aj (ak aa9) aC
theorem RV (c:Int) (ls:List (List Int)) (f:List Int) (hl:ls.length≤1000000) (h:∀i,i<ls.length→FL f (ls.getD i [])):aF Tryz.prog 206 [.agg [.int .i64 c,.isl (.rows .i64 ls) .none],.isl (.ints .i64 f) .none] (.isl (.ints .i64 (iH f ls ls.length)) .none):=by
 refine av (md:=1) (rf:=[]) mixed au LH Tryz.func206 (by rfl) (by rfl) (by rfl) ?_
 repeat'((conv=>whnf);first|intro _|apply aI|with_reducible exact vM rfl|exact⟨⟩|apply nM|apply fM)
 all_goals((try apply vM);(try simp only[vq]at*);try omega)
 conv=>whnf
 refine aM (X:=Nat) (fun i=>i≤ls.length) (fun i=>[(11,.int .i64 i),(5,.isl (.ints .i64 (iH f ls i)) (.own 3)),(7,.any)]) (fun i=>[(3,.tok 1 i)]) (fun i=>ls.length-i) 0 ⟨aK,mixed,au,LH,aP⟩ (by rfl) (by omega) ?_ ?_
 ·repeat'((conv=>whnf);first|intro _|apply aI|with_reducible exact vM rfl|exact⟨⟩|apply nM|apply fM)
  all_goals((try apply vM);(try simp only[vq]at*);try omega)
 intro i hi;by_cases hlt:i<ls.length
 ·have e0:=Ey f ls i hi
  have e1:=OY f ls i hlt;have e2:=h i hlt
  repeat'((conv=>whnf);first|intro _|apply aI|with_reducible exact vM rfl|exact⟨⟩|apply nM|apply fM)
  all_goals((try apply vM);(try simp only[vq]at*);try omega)
  all_goals(try exact e2)
  all_goals(try(simp only[ai7,ahK,ahG];omega))
  refine⟨i+1,[],⟨by omega,by omega⟩,?_⟩
  repeat'((conv=>whnf);first|intro _|apply aI|with_reducible exact vM rfl|exact⟨⟩|apply nM|apply fM)
  all_goals((try apply vM);(try simp only[vq]at*);try omega)
  all_goals(try(rw[e1]))
 ·have:ls.length=i:=by omega
  subst this
  repeat'((conv=>whnf);first|intro _|apply aI|with_reducible exact vM rfl|exact⟨⟩|apply nM|apply fM)
  all_goals((try apply vM);(try simp only[vq]at*);try omega)
  all_goals(refine Sup.via ?_;repeat'((conv=>whnf);first|intro _|apply aI|with_reducible exact vM rfl|exact⟨⟩|apply nM|apply fM);all_goals((try apply vM);(try simp only[vq]at*);try omega);all_goals(try(simp[CL.sub];done)))
structure sN (f:List Int) (ls:List (List Int)):Prop where
 len:1≤ls.length∧ls.length≤1000000
 all:∀i,i<ls.length→FL f (ls.getD i [])
def OZ:PSp:=fun xs K=>match xs with
 | [.agg [.int .i64 c,.isl (.rows .i64 ls) .none],.isl (.ints .i64 f) .none]=>VC (sN f ls)∧K (.isl (.ints .i64 (iH f ls ls.length)) .none)
 |_=>False
theorem abb:POK Tryz.prog 206 OZ:=by
 intro xs K h;unfold OZ at h;split at h
 ·exact⟨_,h.2,RV _ _ _ h.1.get.len.2 h.1.get.all⟩
 ·exact h.elim
def FM (all:List Int) (x:Int):Bool:=decide (x≠all.getD 0 0)
theorem Vz (all:List Int) (h:1≤all.length) (x:Int):aF Tryz.prog 208 ([]++[.int .i64 x]++[.ip (.pv [.isl (.ints .i64 all) .none]) 0]) (.bp (FM all x)):=by
 unfold FM;refine av (md:=0) (rf:=[]) mixed au aC Tryz.func208 (by rfl) (by rfl) (by rfl) ?_
 repeat'((conv=>whnf);first|intro _|apply aI|with_reducible exact vM rfl|exact⟨⟩|apply nM|apply fM)
 all_goals((try apply vM);(try simp only[vq]at*);try omega)
 all_goals(refine Sup.via ?_;repeat'((conv=>whnf);first|intro _|apply aI|with_reducible exact vM rfl|exact⟨⟩|apply nM|apply fM);all_goals((try apply vM);(try simp only[vq]at*);try omega))
 all_goals rfl
def pJ (all:List Int):Int:=firstAt (fun i=>FM all (all.getD i 0)) all.length
noncomputable def agF:CPT:=aA 206 (aB OZ) (aA 207 (aB FK) noC)
theorem abd:aW Tryz.prog agF:=aj (ak abb) (aj (ak LC) aC)
theorem H6 (c:Int) (ls:List (List Int)) (f:List Int) (h:sN f ls):aF Tryz.prog 169 [.agg [.int .i64 c,.isl (.rows .i64 ls) .none],.isl (.ints .i64 f) .none] (.int .i64 (pJ (iH f ls ls.length))):=by
 have e:=Ey f ls ls.length (ahO _);have h1:=h.len;refine av (md:=1) (rf:=[]) mixed au abd Tryz.func169 (by rfl) (by rfl) (by rfl) ?_
 repeat'((conv=>whnf);first|intro _|apply aI|with_reducible exact vM rfl|exact⟨⟩|apply nM|apply fM)
 all_goals((try apply vM);(try simp only[vq]at*);try omega)
 all_goals(try exact h)
 refine⟨FM (iH f ls ls.length),fun x _=>Vz _ (by omega) x,?_⟩
 repeat'((conv=>whnf);first|intro _|apply aI|with_reducible exact vM rfl|exact⟨⟩|apply nM|apply fM)
 all_goals((try apply vM);(try simp only[vq]at*);try omega)
 all_goals(refine Sup.via ?_;repeat'((conv=>whnf);first|intro _|apply aI|with_reducible exact vM rfl|exact⟨⟩|apply nM|apply fM);all_goals((try apply vM);(try simp only[vq]at*);try omega);all_goals(try(simp[CL.sub];done)))
 rfl
def zG:PSp:=fun xs K=>match xs with
 | [.agg [.int .i64 c,.isl (.rows .i64 ls) .none],.isl (.ints .i64 f) .none]=>VC (sN f ls)∧K (.int .i64 (pJ (iH f ls ls.length)))
 |_=>False
theorem O1:POK Tryz.prog 169 zG:=by
 intro xs K h;unfold zG at h;split at h
 ·exact⟨_,h.2,H6 _ _ _ h.1.get⟩
 ·exact h.elim
theorem Kz (l:List Int) (hl:l.length<1000000):aF Tryz.prog 193 [.isl (.ints .i64 l) .none] (.int .i64 (aJ l)):=by
 refine av (md:=1) (rf:=[]) mixed au aC Tryz.func193 (by rfl) (by rfl) (by rfl) ?_
 repeat'((conv=>whnf);first|intro _|apply aI|with_reducible exact vM rfl|exact⟨⟩|apply nM|apply fM)
 all_goals((try apply vM);(try simp only[vq]at*);try omega)
 conv=>whnf
 refine aM (X:=Nat) (fun i=>i≤l.length∧∀j,j<i→l.getD j 0=0) (fun i=>[(7,.int .i64 i)]) (fun _=>[]) (fun i=>l.length-i) 0 ⟨aK,mixed,au,aC,aP⟩ (by rfl) ⟨by omega,fun j hj=>by omega⟩ ?_ ?_
 ·repeat'((conv=>whnf);first|intro _|apply aI|with_reducible exact vM rfl|exact⟨⟩|apply nM|apply fM)
  all_goals((try apply vM);(try simp only[vq]at*);try omega)
 ·intro i hi
  obtain⟨hi,hz⟩:=hi
  repeat'((conv=>whnf);first|intro _|apply aI|with_reducible exact vM rfl|exact⟨⟩|apply nM|apply fM)
  all_goals((try apply vM);(try simp only[vq]at*);try omega)
  ·rename_i hne
   have:=jq l i (by omega) hz (by simpa using hne)
   rw[this];exact Sup.of rfl
  ·rename_i hne
   have hne:l.getD i 0=0:=by simpa using hne
   refine⟨i+1,[],⟨⟨by omega,fun j hj=>?_⟩,by omega⟩,?_⟩
   ·by_cases e:j=i
    ·subst e;exact hne
    ·exact hz j (by omega)
   ·repeat'((conv=>whnf);first|intro _|apply aI|with_reducible exact vM rfl|exact⟨⟩|apply nM|apply fM)
    all_goals((try apply vM);(try simp only[vq]at*);try omega)
  ·have:i=l.length:=by omega
   subst this;rw[qG l hz];exact Sup.of rfl
def pW:PSp:=fun xs K=>match xs with
 | [.isl (.ints .i64 l) .none]=>VC (l.length<1000000)∧K (.int .i64 (aJ l))
 |_=>False
theorem rH:POK Tryz.prog 193 pW:=by
 intro xs K h;unfold pW at h;split at h
 ·exact⟨_,h.2,Kz _ h.1.get⟩
 ·exact h.elim
def uU (lo hi x:Int):Bool:=decide (x<lo)||decide (hi<x)
theorem VA (lo hi x:Int):aF Tryz.prog 221 ([]++[.int .i64 x]++[.ip (.pv [.int .i64 lo]) 0,.ip (.pv [.int .i64 hi]) 0]) (.bp (uU lo hi x)):=by
 refine av (md:=1) (rf:=[]) mixed au aC Tryz.func221 (by rfl) (by rfl) (by rfl) ?_
 unfold uU
 repeat'((conv=>whnf);first|intro _|apply aI|with_reducible exact vM rfl|exact⟨⟩|apply nM|apply fM)
 ·rename_i hq
  rw[show(decide (x<lo))=false from hq,akr];exact Sup.of rfl
 ·rename_i hq
  rw[show(decide (x<lo))=true from hq,aks];all_goals(refine Sup.via ?_;repeat'((conv=>whnf);first|intro _|apply aI|with_reducible exact vM rfl|exact⟨⟩|apply nM|apply fM);all_goals((try apply vM);(try simp only[vq]at*);try omega);all_goals(try(simp[CL.sub];done)))
noncomputable def agG:CPT:=aA 215 (A9 OM) (aA 195 (aB fC) noC)
theorem abe:aW Tryz.prog agG:=aj (En aa1) (aj (ak qN) aC)
theorem RX (lo hi:Int) (l:List Int) (hl:l.length≤2000000):aF Tryz.prog 194 [.int .i64 lo,.int .i64 hi,.isl (.ints .i64 l) .none] (.int .i64 (if l.any (uU lo hi)then 3 else 0)):=by
 refine av (md:=1) (rf:=[]) mixed au abe Tryz.func194 (by rfl) (by rfl) (by rfl) ?_
 repeat'((conv=>whnf);first|intro _|apply aI|with_reducible exact vM rfl|exact⟨⟩|apply nM|apply fM)
 all_goals((try apply vM);(try simp only[vq]at*);try omega)
 ·exact⟨hl,rfl,rfl⟩
 refine⟨uU lo hi,fun x _=>VA lo hi x,?_⟩
 repeat'((conv=>whnf);first|intro _|apply aI|with_reducible exact vM rfl|exact⟨⟩|apply nM|apply fM)
 all_goals((try apply vM);(try simp only[vq]at*);try omega)
 all_goals(first|(refine Sup.of ?_;first|rfl|(simp[*,bI];done))|(refine Sup.via ?_;repeat'((conv=>whnf);first|intro _|apply aI|with_reducible exact vM rfl|exact⟨⟩|apply nM|apply fM);all_goals((try apply vM);(try simp only[vq]at*);try omega);all_goals(try(simp[CL.sub];done))))
def FN:PSp:=fun xs K=>match xs with
 | [.int .i64 lo,.int .i64 hi,.isl (.ints .i64 l) .none]=>VC (l.length≤2000000)∧K (.int .i64 (if l.any (uU lo hi)then 3 else 0))
 |_=>False
theorem LJ:POK Tryz.prog 194 FN:=by
 intro xs K h;unfold FN at h;split at h
 ·exact⟨_,h.2,RX _ _ _ h.1.get⟩
 ·exact h.elim
noncomputable def agH:CPT:=aA 194 (aB FN) noC
theorem abf:aW Tryz.prog agH:=aj (ak LJ) aC
def uV (l:List Int):Int:=if l.any (uU (-999999999) 999999999)then 3 else 0
theorem H7 (l:List Int) (hl:l.length≤2000000):aF Tryz.prog 203 [.isl (.ints .i64 l) .none] (.int .i64 (uV l)):=by
 refine av (md:=1) (rf:=[]) mixed au abf Tryz.func203 (by rfl) (by rfl) (by rfl) ?_
 unfold uV
 repeat'((conv=>whnf);first|intro _|apply aI|with_reducible exact vM rfl|exact⟨⟩|apply nM|apply fM)
 all_goals((try apply vM);(try simp only[vq]at*);try omega)
 all_goals(first|(refine Sup.of ?_;first|rfl|(simp[*,bI];done))|(refine Sup.via ?_;repeat'((conv=>whnf);first|intro _|apply aI|with_reducible exact vM rfl|exact⟨⟩|apply nM|apply fM);all_goals((try apply vM);(try simp only[vq]at*);try omega);all_goals(try(simp[CL.sub];done))))
def uW:PSp:=fun xs K=>match xs with
 | [.isl (.ints .i64 l) .none]=>VC (l.length≤2000000)∧K (.int .i64 (uV l))
 |_=>False
theorem Bt:POK Tryz.prog 203 uW:=by
 intro xs K h;unfold uW at h;split at h
 ·exact⟨_,h.2,H7 _ h.1.get⟩
 ·exact h.elim
theorem Bu {a b:List Int} (hl:a.length=b.length) (h:∀j,j<a.length→a.getD j 0=b.getD j 0):a=b:=by
 refine List.ext_getElem hl fun j h1 h2=>?_;have:=h j h1;rw[ahZ,ahZ,ah4 h1,ah4 h2]at this;exact this
theorem vJ (a b:List Int) (ha:a.length≤2000000):aF Tryz.prog 36 [.isl (.ints .i64 a) .none,.isl (.ints .i64 b) .none] (.bp (decide (a=b))):=by
 refine av (md:=1) (rf:=[]) mixed au aC Tryz.func36 (by rfl) (by rfl) (by rfl) ?_
 repeat'((conv=>whnf);first|intro _|apply aI|with_reducible exact vM rfl|exact⟨⟩|apply nM|apply fM)
 all_goals((try apply vM);(try simp only[vq]at*);try omega)
 ·rw[show decide (a=b)=false from by simp;rintro rfl;simp at*];all_goals(refine Sup.via ?_;repeat'((conv=>whnf);first|intro _|apply aI|with_reducible exact vM rfl|exact⟨⟩|apply nM|apply fM);all_goals((try apply vM);(try simp only[vq]at*);try omega);all_goals(try(simp[CL.sub];done)))
 have hl:a.length=b.length:=by omega
 conv=>whnf
 refine aM (X:=Nat) (fun i=>i≤a.length∧∀j,j<i→a.getD j 0=b.getD j 0) (fun i=>[(5,.int .i64 i)]) (fun i=>[]) (fun i=>a.length-i) 0 ⟨aK,mixed,au,aC,aP⟩ (by rfl) ⟨by omega,fun j h=>by omega⟩ ?_ ?_
 ·repeat'((conv=>whnf);first|intro _|apply aI|with_reducible exact vM rfl|exact⟨⟩|apply nM|apply fM)
  all_goals((try apply vM);(try simp only[vq]at*);try omega)
 ·rintro i ⟨hi,hok⟩
  by_cases hlt:i<a.length
  ·repeat'((conv=>whnf);first|intro _|apply aI|with_reducible exact vM rfl|exact⟨⟩|apply nM|apply fM)
   all_goals((try apply vM);(try simp only[vq]at*);try omega)
   ·rw[show decide (a=b)=false from by simp;rintro rfl;simp_all];all_goals(refine Sup.via ?_;repeat'((conv=>whnf);first|intro _|apply aI|with_reducible exact vM rfl|exact⟨⟩|apply nM|apply fM);all_goals((try apply vM);(try simp only[vq]at*);try omega);all_goals(try(simp[CL.sub];done)))
   ·refine⟨i+1,[],⟨⟨by omega,fun j hj=>?_⟩,by omega⟩,?_⟩
    ·by_cases e:j=i
     ·subst e;omega
     ·exact hok j (by omega)
    ·repeat'((conv=>whnf);first|intro _|apply aI|with_reducible exact vM rfl|exact⟨⟩|apply nM|apply fM)
     all_goals((try apply vM);(try simp only[vq]at*);try omega)
  ·have:i=a.length:=by omega
   subst this;rw[show decide (a=b)=true from by simp;exact Bu hl hok]
   repeat'((conv=>whnf);first|intro _|apply aI|with_reducible exact vM rfl|exact⟨⟩|apply nM|apply fM)
   all_goals((try apply vM);(try simp only[vq]at*);try omega)
   all_goals(refine Sup.via ?_;repeat'((conv=>whnf);first|intro _|apply aI|with_reducible exact vM rfl|exact⟨⟩|apply nM|apply fM);all_goals((try apply vM);(try simp only[vq]at*);try omega);all_goals(try(simp[CL.sub];done)))
def oG:PSp:=fun xs K=>match xs with
 | [.isl (.ints .i64 a) .none,.isl (.ints .i64 b) .none]=>VC (a.length≤2000000)∧K (.bp (decide (a=b)))
 |_=>False
theorem r9:POK Tryz.prog 36 oG:=by
 intro xs K h;unfold oG at h;split at h
 ·exact⟨_,h.2,vJ _ _ h.1.get⟩
 ·exact h.elim
theorem O4 (a b:List Int) (ha:a.length≤2000000):aF Tryz.prog 223 [.isl (.ints .i64 a) .none,.isl (.ints .i64 b) .none] (.bp (decide (a=b))):=by
 refine av (md:=1) (rf:=[]) mixed au aC Tryz.func223 (by rfl) (by rfl) (by rfl) ?_
 repeat'((conv=>whnf);first|intro _|apply aI|with_reducible exact vM rfl|exact⟨⟩|apply nM|apply fM)
 all_goals((try apply vM);(try simp only[vq]at*);try omega)
 ·rw[show decide (a=b)=false from by simp;rintro rfl;simp at*];all_goals(refine Sup.via ?_;repeat'((conv=>whnf);first|intro _|apply aI|with_reducible exact vM rfl|exact⟨⟩|apply nM|apply fM);all_goals((try apply vM);(try simp only[vq]at*);try omega);all_goals(try(simp[CL.sub];done)))
 have hl:a.length=b.length:=by omega
 conv=>whnf
 refine aM (X:=Nat) (fun i=>i≤a.length∧∀j,j<i→a.getD j 0=b.getD j 0) (fun i=>[(13,.int .i64 i)]) (fun i=>[]) (fun i=>a.length-i) 0 ⟨aK,mixed,au,aC,aP⟩ (by rfl) ⟨by omega,fun j h=>by omega⟩ ?_ ?_
 ·repeat'((conv=>whnf);first|intro _|apply aI|with_reducible exact vM rfl|exact⟨⟩|apply nM|apply fM)
  all_goals((try apply vM);(try simp only[vq]at*);try omega)
 ·rintro i ⟨hi,hok⟩
  by_cases hlt:i<a.length
  ·repeat'((conv=>whnf);first|intro _|apply aI|with_reducible exact vM rfl|exact⟨⟩|apply nM|apply fM)
   all_goals((try apply vM);(try simp only[vq]at*);try omega)
   ·rw[show decide (a=b)=false from by simp;rintro rfl;simp_all];all_goals(refine Sup.via ?_;repeat'((conv=>whnf);first|intro _|apply aI|with_reducible exact vM rfl|exact⟨⟩|apply nM|apply fM);all_goals((try apply vM);(try simp only[vq]at*);try omega);all_goals(try(simp[CL.sub];done)))
   ·refine⟨i+1,[],⟨⟨by omega,fun j hj=>?_⟩,by omega⟩,?_⟩
    ·by_cases e:j=i
     ·subst e;omega
     ·exact hok j (by omega)
    ·repeat'((conv=>whnf);first|intro _|apply aI|with_reducible exact vM rfl|exact⟨⟩|apply nM|apply fM)
     all_goals((try apply vM);(try simp only[vq]at*);try omega)
  ·have:i=a.length:=by omega
   subst this;rw[show decide (a=b)=true from by simp;exact Bu hl hok]
   repeat'((conv=>whnf);first|intro _|apply aI|with_reducible exact vM rfl|exact⟨⟩|apply nM|apply fM)
   all_goals((try apply vM);(try simp only[vq]at*);try omega)
   all_goals(refine Sup.via ?_;repeat'((conv=>whnf);first|intro _|apply aI|with_reducible exact vM rfl|exact⟨⟩|apply nM|apply fM);all_goals((try apply vM);(try simp only[vq]at*);try omega);all_goals(try(simp[CL.sub];done)))
def H8:PSp:=fun xs K=>match xs with
 | [.isl (.ints .i64 a) .none,.isl (.ints .i64 b) .none]=>VC (a.length≤2000000)∧K (.bp (decide (a=b)))
 |_=>False
theorem VB:POK Tryz.prog 223 H8:=by
 intro xs K h;unfold H8 at h;split at h
 ·exact⟨_,h.2,O4 _ _ h.1.get⟩
 ·exact h.elim
noncomputable def agI:CPT:=aA 36 (aB oG) noC
theorem LK:aW Tryz.prog agI:=aj (ak r9) aC
theorem H9 (ls:List (List Int)) (l:List Int) (hl:ls.length≤1000000∧∀x∈ls,x.length≤5000):aF Tryz.prog 165 [.isl (.rows .i64 ls) .none,.isl (.ints .i64 l) .none] (.bp (ls.any fun x=>decide (x=l))):=by
 refine av (md:=1) (rf:=[]) mixed au LK Tryz.func165 (by rfl) (by rfl) (by rfl) ?_
 repeat'((conv=>whnf);first|intro _|apply aI|with_reducible exact vM rfl|exact⟨⟩|apply nM|apply fM)
 all_goals((try apply vM);(try simp only[vq]at*);try omega)
 conv=>whnf
 refine aM (X:=Nat) (fun i=>i≤ls.length∧∀j,j<i→ls.getD j []≠l) (fun i=>[(5,.int .i64 i)]) (fun i=>[]) (fun i=>ls.length-i) 0 ⟨aK,mixed,au,LK,aP⟩ (by rfl) ⟨by omega,fun j h=>by omega⟩ ?_ ?_
 ·repeat'((conv=>whnf);first|intro _|apply aI|with_reducible exact vM rfl|exact⟨⟩|apply nM|apply fM)
  all_goals((try apply vM);(try simp only[vq]at*);try omega)
 ·rintro i ⟨hi,hok⟩
  by_cases hlt:i<ls.length
  ·have hm:=hl.2 _ (l5 hlt)
   repeat'((conv=>whnf);first|intro _|apply aI|with_reducible exact vM rfl|exact⟨⟩|apply nM|apply fM)
   all_goals((try apply vM);(try simp only[vq]at*);try omega)
   ·rename_i hq
    rw[show(ls.any fun x=>decide (x=l))=true from ako.2 ⟨_,l5 hlt,decide_eq_true hq⟩];all_goals(refine Sup.via ?_;repeat'((conv=>whnf);first|intro _|apply aI|with_reducible exact vM rfl|exact⟨⟩|apply nM|apply fM);all_goals((try apply vM);(try simp only[vq]at*);try omega);all_goals(try(simp[CL.sub];done)))
   ·refine⟨i+1,[],⟨⟨by omega,fun j hj=>?_⟩,by omega⟩,?_⟩
    ·by_cases e:j=i
     ·subst e;assumption
     ·exact hok j (by omega)
    ·repeat'((conv=>whnf);first|intro _|apply aI|with_reducible exact vM rfl|exact⟨⟩|apply nM|apply fM)
     all_goals((try apply vM);(try simp only[vq]at*);try omega)
  ·have:i=ls.length:=by omega
   subst this;rw[show(ls.any fun x=>decide (x=l))=false from akp.2 fun x hx=>by
    obtain⟨j,hj,rfl⟩:=ah3 hx;have:=hok j hj;rw[ahZ,ah4 hj]at this;simpa using this]
   repeat'((conv=>whnf);first|intro _|apply aI|with_reducible exact vM rfl|exact⟨⟩|apply nM|apply fM)
   all_goals((try apply vM);(try simp only[vq]at*);try omega)
   all_goals(refine Sup.via ?_;repeat'((conv=>whnf);first|intro _|apply aI|with_reducible exact vM rfl|exact⟨⟩|apply nM|apply fM);all_goals((try apply vM);(try simp only[vq]at*);try omega);all_goals(try(simp[CL.sub];done)))
def zH:PSp:=fun xs K=>match xs with
 | [.isl (.rows .i64 ls) .none,.isl (.ints .i64 l) .none]=>VC (ls.length≤1000000∧∀x∈ls,x.length≤5000)∧K (.bp (ls.any fun x=>decide (x=l)))
 |_=>False
theorem O5:POK Tryz.prog 165 zH:=by
 intro xs K h;unfold zH at h;split at h
 ·exact⟨_,h.2,H9 _ _ h.1.get⟩
 ·exact h.elim
def dD (f:Nat→Int) (n:Nat):Int:=match(ahX n).find? (fun i=>decide (f i≠0))with
 |some i=>f i
 |none=>0
theorem eU {f:Nat→Int} {n:Nat} (h:∀i,i<n→f i=0):dD f n=0:=by
 unfold dD;rw[wY (fun i hi=>by simpa using h i hi)]
theorem eX {f:Nat→Int} {n y:Nat} (hy:y<n) (hp:f y≠0) (h:∀i,i<y→f i=0):dD f n=f y:=by
 unfold dD;rw[Ew hy (by simpa using hp) (fun i hi=>by simpa using h i hi)]
theorem gJ {f:Nat→Int} {n:Nat} (h:dD f n=0):∀i,i<n→f i=0:=by
 intro i hi;unfold dD at h;cases hf:(ahX n).find? (fun i=>decide (f i≠0))with
 |some j=>
  rw[hf]at h;have:=akn hf;simp only[decide_eq_true_eq]at this;exact absurd h this
 |none=>
  rw[akl]at hf;simpa using hf i (by simpa using hi)
def bT (c:Int) (l:List Int) (k:Nat):Int:=if l.getD k 0<0∨c≤l.getD k 0 then 10 else if 0<k∧l.getD k 0≤l.getD (k-1) 0 then 11 else 0
def iI (c:Int) (ls:List (List Int)) (i:Nat):Int:=
 if(ls.getD i []).length=0 then 12 else if dD (bT c (ls.getD i [])) (ls.getD i []).length≠0 then dD (bT c (ls.getD i [])) (ls.getD i []).length
 else if(ls.take i).any (fun x=>decide (x=ls.getD i []))then 9 else 0
def fU (c:Int) (ls:List (List Int)):Int:=if c<1∨256<c then 3 else if 128<ls.length then 5 else dD (iI c ls) ls.length
structure bO (ls:List (List Int)):Prop where
 len:ls.length≤1000000
 all:∀x∈ls,x.length≤5000
theorem bO.at' {ls:List (List Int)} (h:bO ls) (i:Nat):(ls.getD i []).length≤5000:=by
 by_cases hi:i<ls.length
 ·exact h.all _ (l5 hi)
 ·rw[ahZ,ajK (by omega)];simp
theorem Ez {ls:List (List Int)} (h:bO ls) (i:Nat):(ls.take i).length≤1000000∧∀x∈ls.take i,x.length≤5000:=
 ⟨by have:=h.len;rw[aiG];omega,fun x hx=>h.all x (ajG hx)⟩
noncomputable def agJ:CPT:=aA 165 (aB zH) noC
theorem sO:aW Tryz.prog agJ:=aj (ak O5) aC
theorem RY (c:Int) (ls:List (List Int)) (h:bO ls):aF Tryz.prog 120 [.agg [.int .i64 c,.isl (.rows .i64 ls) .none]] (.int .i64 (fU c ls)):=by
 have h2:=h.len;unfold fU;by_cases hc:c<1∨256<c
 ·rw[if_pos hc]
  refine av (md:=1) (rf:=[]) mixed au sO Tryz.func120 (by rfl) (by rfl) (by rfl) ?_
  repeat'((conv=>whnf);first|(intro hq;(try simp only[vw]at hq);try first|exact absurd hq (by decide)|exfalso;omega)|apply aI|with_reducible exact vM rfl|exact⟨⟩|apply nM|apply fM)
  all_goals((try apply vM);(try simp only[vq]at*);try omega)
  all_goals first|exact Sup.of rfl|(exfalso;omega)
 rw[if_neg hc];by_cases hl:128<ls.length
 ·rw[if_pos hl]
  refine av (md:=1) (rf:=[]) mixed au sO Tryz.func120 (by rfl) (by rfl) (by rfl) ?_
  repeat'((conv=>whnf);first|(intro hq;(try simp only[vw]at hq);try first|exact absurd hq (by decide)|exfalso;omega)|apply aI|with_reducible exact vM rfl|exact⟨⟩|apply nM|apply fM)
  all_goals((try apply vM);(try simp only[vq]at*);try omega)
  all_goals first|exact Sup.of rfl|(exfalso;omega)
 rw[if_neg hl];refine av (md:=1) (rf:=[]) mixed au sO Tryz.func120 (by rfl) (by rfl) (by rfl) ?_
 repeat'((conv=>whnf);first|(intro hq;(try simp only[vw]at hq);try first|exact absurd hq (by decide)|exfalso;omega)|apply aI|with_reducible exact vM rfl|exact⟨⟩|apply nM|apply fM)
 all_goals((try apply vM);(try simp only[vq]at*);try omega)
 conv=>whnf
 refine aM (X:=Nat) (fun i=>i≤ls.length∧∀j,j<i→iI c ls j=0) (fun i=>[(3,.int .i64 i)]) (fun i=>[]) (fun i=>ls.length-i) 0 ⟨aK,mixed,au,sO,aP⟩ (by rfl) ⟨by omega,fun j hj=>by omega⟩ ?_ ?_
 ·repeat'((conv=>whnf);first|intro _|apply aI|with_reducible exact vM rfl|exact⟨⟩|apply nM|apply fM)
  all_goals((try apply vM);(try simp only[vq]at*);try omega)
 intro i ⟨hi,hok⟩;by_cases hlt:i<ls.length
 ·have e1:=h.at' i
  have e4:=Ez h i;obtain⟨l,hL⟩:∃l,ls.getD i []=l:=⟨_,rfl⟩;have eE:iI c ls i=if l.length=0 then 12 else if dD (bT c l) l.length≠0 then dD (bT c l) l.length else if(ls.take i).any (fun x=>decide (x=l))then 9 else 0:=by unfold iI;rw[hL]
  rw[hL]at e1
  repeat'((conv=>whnf);first|(intro hq;(try simp only[vw]at hq);try first|exact absurd hq (by decide)|exfalso;omega)|apply aI|with_reducible exact vM rfl|exact⟨⟩|apply nM|apply fM)
  all_goals((try apply vM);(try simp only[vq]at*);try omega)
  ·rename_i hq
   rw[hL]at hq;rw[if_pos (by omega)]at eE
   rw[eX hlt (by rw[eE];decide) hok,eE]
   exact Sup.of rfl
  rename_i hq;rw[hL]at hq⊢;rw[if_neg (by omega)]at eE
  conv=>whnf
  refine aM (X:=Nat) (fun k=>k≤l.length∧∀j,j<k→bT c l j=0) (fun k=>[(5,.int .i64 k)]) (fun k=>[]) (fun k=>l.length-k) 0 ⟨aK,mixed,au,sO,aP⟩ (by rfl) ⟨by omega,fun j hj=>by omega⟩ ?_ ?_
  ·repeat'((conv=>whnf);first|intro _|apply aI|with_reducible exact vM rfl|exact⟨⟩|apply nM|apply fM)
   all_goals((try apply vM);(try simp only[vq]at*);try omega)
   all_goals first|exact hL|exact hL.symm|skip
  intro k ⟨hk,hok2⟩;by_cases hkl:k<l.length
  ·have eS:bT c l k=if l.getD k 0<0∨c≤l.getD k 0 then 10 else if 0<k∧l.getD k 0≤l.getD (k-1) 0 then 11 else 0:=rfl
   have ek:((k:Int)-1).toNat=k-1:=by omega
   have fin:∀e,bT c l k=e→e≠0→dD (iI c ls) ls.length=e:=fun e a1 a2=>by
    have a3:dD (bT c l) l.length=e:=(eX hkl (by rw[a1];exact a2) hok2).trans a1
    have a4:iI c ls i=e:=by rw[eE,if_pos (by rw[a3];exact a2),a3]
    exact(eX hlt (by rw[a4];exact a2) hok).trans a4
   have nxt:bT c l k=0→∀j,j<k+1→bT c l j=0:=fun a j hj=>by
    by_cases e:j=k
    ·subst e;exact a
    ·exact hok2 j (by omega)
   repeat'((conv=>whnf);first|(intro hq;(try simp only[vw]at hq);try first|exact absurd hq (by decide)|exfalso;omega)|apply aI|with_reducible exact vM rfl|exact⟨⟩|apply nM|apply fM)
   all_goals((try apply vM);(try simp only[vq]at*);try omega)
   ·rw[fin 10 (by rw[eS,if_pos (by omega)]) (by decide)];exact Sup.of rfl
   ·rename_i hq
    rw[ek]at hq;rw[fin 11 (by rw[eS,if_neg (by omega),if_pos (by omega)]) (by decide)];exact Sup.of rfl
   ·rename_i hq
    rw[ek]at hq;refine⟨k+1,[],⟨⟨by omega,nxt (by rw[eS,if_neg (by omega),if_neg (by omega)])⟩,by omega⟩,?_⟩
    repeat'((conv=>whnf);first|(intro hq;(try simp only[vw]at hq);try first|exact absurd hq (by decide)|exfalso;omega)|apply aI|with_reducible exact vM rfl|exact⟨⟩|apply nM|apply fM)
   ·refine⟨k+1,[],⟨⟨by omega,nxt (by rw[eS,if_neg (by omega),if_neg (by omega)])⟩,by omega⟩,?_⟩
    repeat'((conv=>whnf);first|(intro hq;(try simp only[vw]at hq);try first|exact absurd hq (by decide)|exfalso;omega)|apply aI|with_reducible exact vM rfl|exact⟨⟩|apply nM|apply fM)
   ·rw[fin 10 (by rw[eS,if_pos (by omega)]) (by decide)];exact Sup.of rfl
  ·have a3:dD (bT c l) l.length=0:=eU (n:=l.length) (by rw[show l.length=k by omega];exact hok2)
   rw[if_neg (by rw[a3];simp)]at eE
   have et:akt (i-0) (aku 0 ls)=ls.take i:=by rw[akv,akw]
   repeat'((conv=>whnf);first|(intro hq;(try simp only[vw]at hq);try first|exact absurd hq (by decide)|exfalso;omega)|apply aI|with_reducible exact vM rfl|exact⟨⟩|apply nM|apply fM)
   all_goals((try apply vM);(try simp only[vq]at*);try omega)
   ·rw[et];exact e4
   ·rename_i hq
    rw[et]at hq;rw[if_pos hq]at eE;rw[eX hlt (by rw[eE];decide) hok,eE]
    exact Sup.of rfl
   ·rename_i hq
    rw[et]at hq;rw[if_neg (by rw[hq];decide)]at eE
    refine⟨i+1,[],⟨⟨by omega,fun j hj=>?_⟩,by omega⟩,?_⟩
    ·by_cases e:j=i
     ·subst e;exact eE
     ·exact hok j (by omega)
    repeat'((conv=>whnf);first|(intro hq;(try simp only[vw]at hq);try first|exact absurd hq (by decide)|exfalso;omega)|apply aI|with_reducible exact vM rfl|exact⟨⟩|apply nM|apply fM)
 ·rw[eU (n:=ls.length) (by rw[show ls.length=i by omega];exact hok)]
  repeat'((conv=>whnf);first|(intro hq;(try simp only[vw]at hq);try first|exact absurd hq (by decide)|exfalso;omega)|apply aI|with_reducible exact vM rfl|exact⟨⟩|apply nM|apply fM)
  exact Sup.of rfl
def FP:PSp:=fun xs K=>match xs with
 | [.agg [.int .i64 c,.isl (.rows .i64 ls) .none]]=>VC (bO ls)∧K (.int .i64 (fU c ls))
 |_=>False
theorem LM:POK Tryz.prog 120 FP:=by
 intro xs K h;unfold FP at h;split at h
 ·exact⟨_,h.2,RY _ _ h.1.get⟩
 ·exact h.elim
def O6:PSp:=fun xs K=>match xs with
 | [.isl (.rows .i64 l) .none,.fn (.func f) fs cs]=>VC (l.length≤2000000)∧∃p:List Int→Bool,(∀x∈l,aF Tryz.prog f (fs++[.isl (.ints .i64 x) .none]++cs) (.bp (p x)))∧K (.int .i64 (firstAt (fun i=>p (l.getD i [])) l.length))
 |_=>False
theorem RZ (l:List (List Int)) (hl:l.length≤2000000) (f:Nat) (fs cs:List PV) (p:List Int→Bool) (hp:∀x∈l,aF Tryz.prog f (fs++[.isl (.ints .i64 x) .none]++cs) (.bp (p x))):
 aF Tryz.prog 185 [.isl (.rows .i64 l) .none,.fn (.func f) fs cs] (.int .i64 (firstAt (fun i=>p (l.getD i [])) l.length)):=by
 refine AZ 1 (enters' Tryz.func185 (by rfl) (by rfl)) rfl (by simp) fun S0 w0 us vs hu hv=>?_
 have hY:∀r,kS Tryz.prog r (xX S0 w0) (fnY f us vs fun xs K=>match xs with
  | [.isl (.ints .i64 x) .none]=>VC (x∈l)∧K (.bp (p x))
  |_=>False):=fun r=>Ra (fs:=fs) (cs:=cs) (fun S w hb=>⟨hu.mono hb.1 (.refl _),hv.mono hb.1 (.refl _)⟩) fun xs K hk=>by
  split at hk
  ·exact⟨_,hk.2,hp _ hk.1.get⟩
  ·exact hk.elim
 have W:Walk Tryz.prog none (xX S0 w0) tab.get noC _:=⟨uK,mixed,au,aC.up _,hY none⟩;refine wE uK mixed au (md:=1) (rf:=[]) (aC.up _) (hY none) Tryz.func185 (by rfl) (by rfl) ?_
 repeat'((conv=>whnf);first|intro _|apply aI|with_reducible exact vM rfl|exact⟨⟩|apply nM|apply fM)
 all_goals((try apply vM);(try simp only[vq]at*);try omega)
 conv=>whnf
 refine aM (X:=Nat) (fun i=>i≤l.length∧∀j,j<i→p (l.getD j [])=false) (fun i=>[(8,.int .i64 i)]) (fun i=>[]) (fun i=>l.length-i) 0 W (by rfl) ⟨by omega,fun j hj=>by omega⟩ ?_ ?_
 ·repeat'((conv=>whnf);first|intro _|apply aI|with_reducible exact vM rfl|exact⟨⟩|apply nM|apply fM)
  all_goals((try apply vM);(try simp only[vq]at*);try omega)
 ·rintro i ⟨hi,hok⟩
  by_cases hlt:i<l.length
  ·have hm:l.getD i []∈l:=l5 hlt
   repeat'((conv=>whnf);first|intro _|apply aI|with_reducible exact vM rfl|exact⟨⟩|apply nM|apply fM)
   all_goals((try apply vM);(try simp only[vq]at*);try omega)
   ·rw[ku hlt ‹p (l.getD i [])=true› hok];exact Sup.of rfl
   ·refine⟨i+1,[],⟨⟨by omega,fun j hj=>?_⟩,by omega⟩,?_⟩
    ·by_cases e:j=i
     ·subst e;assumption
     ·exact hok j (by omega)
    ·repeat'((conv=>whnf);first|intro _|apply aI|with_reducible exact vM rfl|exact⟨⟩|apply nM|apply fM)
     all_goals((try apply vM);(try simp only[vq]at*);try omega)
  ·have:i=l.length:=by omega
   subst this;rw[kr hok]
   repeat'((conv=>whnf);first|intro _|apply aI|with_reducible exact vM rfl|exact⟨⟩|apply nM|apply fM)
   all_goals((try apply vM);(try simp only[vq]at*);try omega)
   exact Sup.of rfl
theorem abg:POK Tryz.prog 185 O6:=by
 intro xs K h;unfold O6 at h;split at h
 ·obtain⟨⟨h1⟩,p,h2,hK⟩:=h
  exact⟨_,hK,RZ _ h1 _ _ _ p h2⟩
 ·exact h.elim
def O7:PSp:=fun xs K=>match xs with
 | [.isl (.rows .i64 l) .none,.fn (.func f) fs cs]=>VC (l.length≤2000000∧fu.inlF fs=true∧fu.inlF cs=true)∧∃p:List Int→Bool,(∀x∈l,aF Tryz.prog f (fs++[.isl (.ints .i64 x) .none]++cs) (.bp (p x)))∧K (.bp (l.any p))
 |_=>False
theorem EA (l:List (List Int)) (hl:l.length≤2000000) (f:Nat) (fs cs:List PV) (hfs:fu.inlF fs=true) (hcs:fu.inlF cs=true) (p:List Int→Bool) (hp:∀x∈l,aF Tryz.prog f (fs++[.isl (.ints .i64 x) .none]++cs) (.bp (p x))):
 aF Tryz.prog 140 [.isl (.rows .i64 l) .none,.fn (.func f) fs cs] (.bp (l.any p)):=by
 have hc:aW Tryz.prog (aA 185 (aB O6) noC):=aj (ak abg) aC;refine av (md:=1) (rf:=[]) mixed au hc Tryz.func140 (by rfl) (by rfl) (by rfl) ?_
 repeat'((conv=>whnf);first|intro _|apply aI|with_reducible exact vM rfl|exact⟨⟩|apply nM|apply fM)
 conv=>whnf
 simp only[aB,rA,jE,uw,fu,hfs,hcs]
 repeat'((conv=>whnf);first|intro _|apply aI|with_reducible exact vM rfl|exact⟨⟩|apply nM|apply fM)
 all_goals((try apply vM);(try simp only[vq]at*);try omega)
 refine⟨p,hp,?_⟩
 repeat'((conv=>whnf);first|intro _|apply aI|with_reducible exact vM rfl|exact⟨⟩|apply nM|apply fM)
 all_goals((try apply vM);(try simp only[vq]at*);try omega)
 refine Sup.via ?_
 repeat'((conv=>whnf);first|intro _|apply aI|with_reducible exact vM rfl|exact⟨⟩|apply nM|apply fM)
 refine VC.mk ?_;rw[iU,oD]
theorem abh:POK Tryz.prog 140 O7:=by
 intro xs K h;unfold O7 at h;split at h
 ·obtain⟨⟨h1,h3,h4⟩,p,h2,hK⟩:=h
  exact⟨_,hK,EA _ h1 _ _ _ h3 h4 p h2⟩
 ·exact h.elim
noncomputable def afS:CPT:=aA 223 (aB H8) noC
theorem VD:aW Tryz.prog afS:=aj (ak VB) aC
theorem R6 (l x:List Int) (hx:x.length≤2000000):aF Tryz.prog 222 ([]++[.isl (.ints .i64 x) .none]++[.ip (.pv [.isl (.ints .i64 l) .none]) 0]) (.bp (decide (x=l))):=by
 refine av (md:=1) (rf:=[]) mixed au VD Tryz.func222 (by rfl) (by rfl) (by rfl) ?_
 repeat'((conv=>whnf);first|intro _|apply aI|with_reducible exact vM rfl|exact⟨⟩|apply nM|apply fM)
 all_goals((try apply vM);(try simp only[vq]at*);try omega)
 exact Sup.of rfl
noncomputable def afT:CPT:=aA 193 (aB pW) (aA 195 (aB fC) (aA 140 (A9 O7) noC))
theorem Ia:aW Tryz.prog afT:=aj (ak rH) (aj (ak qN) (aj (En abh) aC))
theorem Ib (c:Int) (ls:List (List Int)) (i:Nat) (h:bO ls) (hlt:i<ls.length):aF Tryz.prog 196 [.agg [.int .i64 c,.isl (.rows .i64 ls) .none],.int .i64 (i:Int)] (.int .i64 (iI c ls i)):=by
 have h2:=h.len;have e1:=h.at' i;have e4:=Ez h i;obtain⟨l,hL⟩:∃l,ls.getD i []=l:=⟨_,rfl⟩;have eE:iI c ls i=if l.length=0 then 12 else if dD (bT c l) l.length≠0 then dD (bT c l) l.length else if(ls.take i).any (fun x=>decide (x=l))then 9 else 0:=by unfold iI;rw[hL]
 rw[hL]at e1;refine av (md:=1) (rf:=[]) mixed au Ia Tryz.func196 (by rfl) (by rfl) (by rfl) ?_
 repeat'((conv=>whnf);first|intro _|apply aI|with_reducible exact vM rfl|exact⟨⟩|apply nM|apply fM)
 all_goals((try apply vM);(try simp only[vq]at*);try omega)
 ·rw[hL]at*
  rw[eE,if_pos (by omega)];exact Sup.of rfl
 rename_i h0;rw[hL]at h0⊢;rw[if_neg (by omega)]at eE
 conv=>whnf
 refine aM (X:=Nat) (fun k=>k≤l.length∧∀j,j<k→bT c l j=0) (fun k=>[(19,.int .i64 k)]) (fun k=>[]) (fun k=>l.length-k) 0 ⟨aK,mixed,au,Ia,aP⟩ (by rfl) ⟨by omega,fun j hj=>by omega⟩ ?_ ?_
 ·repeat'((conv=>whnf);first|intro _|apply aI|with_reducible exact vM rfl|exact⟨⟩|apply nM|apply fM)
  all_goals((try apply vM);(try simp only[vq]at*);try omega)
  all_goals first|exact hL|exact hL.symm|skip
 intro k ⟨hk,hok2⟩;by_cases hkl:k<l.length
 ·have eS:bT c l k=if l.getD k 0<0∨c≤l.getD k 0 then 10 else if 0<k∧l.getD k 0≤l.getD (k-1) 0 then 11 else 0:=rfl
  have ek:((k:Int)-1).toNat=k-1:=by omega
  have fin:∀e,bT c l k=e→e≠0→iI c ls i=e:=fun e a1 a2=>by
   have a3:dD (bT c l) l.length=e:=(eX hkl (by rw[a1];exact a2) hok2).trans a1
   rw[eE,if_pos (by rw[a3];exact a2),a3]
  have nxt:bT c l k=0→∀j,j<k+1→bT c l j=0:=fun a j hj=>by
   by_cases e:j=k
   ·subst e;exact a
   ·exact hok2 j (by omega)
  repeat'((conv=>whnf);first|intro _|apply aI|with_reducible exact vM rfl|exact⟨⟩|apply nM|apply fM)
  all_goals((try apply vM);(try simp only[vq]at*);try omega)
  ·rename_i hq
   refine Sup.of (congrArg (PV.int .i64) (fin _ ?_ hq).symm)
   (rw[eS];simp only[aJ,ek,if_true,if_false,ite_true,ite_false];(repeat' split)<;>(first|rfl|omega))
  ·rename_i hq
   refine⟨k+1,[],⟨⟨by omega,nxt (Eq.trans ?_ (aiK.1 hq))⟩,by omega⟩,?_⟩
   ·(rw[eS];simp only[aJ,ek,if_true,if_false,ite_true,ite_false];(repeat' split)<;>(first|rfl|omega))
   repeat'((conv=>whnf);first|intro _|apply aI|with_reducible exact vM rfl|exact⟨⟩|apply nM|apply fM)
  ·rename_i hq
   refine Sup.of (congrArg (PV.int .i64) (fin _ ?_ hq).symm)
   (rw[eS];simp only[aJ,ek,if_true,if_false,ite_true,ite_false];(repeat' split)<;>(first|rfl|omega))
  ·rename_i hq
   refine⟨k+1,[],⟨⟨by omega,nxt (Eq.trans ?_ (aiK.1 hq))⟩,by omega⟩,?_⟩
   ·(rw[eS];simp only[aJ,ek,if_true,if_false,ite_true,ite_false];(repeat' split)<;>(first|rfl|omega))
   repeat'((conv=>whnf);first|intro _|apply aI|with_reducible exact vM rfl|exact⟨⟩|apply nM|apply fM)
  ·rename_i hq
   refine Sup.of (congrArg (PV.int .i64) (fin _ ?_ hq).symm)
   (rw[eS];simp only[aJ,ek,if_true,if_false,ite_true,ite_false];(repeat' split)<;>(first|rfl|omega))
  ·rename_i hq
   refine⟨k+1,[],⟨⟨by omega,nxt (Eq.trans ?_ (aiK.1 hq))⟩,by omega⟩,?_⟩
   ·(rw[eS];simp only[aJ,ek,if_true,if_false,ite_true,ite_false];(repeat' split)<;>(first|rfl|omega))
   repeat'((conv=>whnf);first|intro _|apply aI|with_reducible exact vM rfl|exact⟨⟩|apply nM|apply fM)
  ·rename_i hq
   refine Sup.of (congrArg (PV.int .i64) (fin _ ?_ hq).symm)
   (rw[eS];simp only[aJ,ek,if_true,if_false,ite_true,ite_false];(repeat' split)<;>(first|rfl|omega))
  ·rename_i hq
   refine⟨k+1,[],⟨⟨by omega,nxt (Eq.trans ?_ (aiK.1 hq))⟩,by omega⟩,?_⟩
   ·(rw[eS];simp only[aJ,ek,if_true,if_false,ite_true,ite_false];(repeat' split)<;>(first|rfl|omega))
   repeat'((conv=>whnf);first|intro _|apply aI|with_reducible exact vM rfl|exact⟨⟩|apply nM|apply fM)
 ·have a3:dD (bT c l) l.length=0:=eU (n:=l.length) (by rw[show l.length=k by omega];exact hok2)
  rw[if_neg (by rw[a3];simp)]at eE
  have et:akt (i-0) (aku 0 ls)=ls.take i:=by rw[akv,akw]
  repeat'((conv=>whnf);first|intro _|apply aI|with_reducible exact vM rfl|exact⟨⟩|apply nM|apply fM)
  all_goals((try apply vM);(try simp only[vq]at*);try omega)
  ·rw[et];exact⟨by omega,rfl,rfl⟩
  rw[et];refine⟨fun x=>decide (x=l),fun x hx=>R6 l x (by have:=e4.2 x hx;omega),?_⟩
  rw[eE]
  repeat'((conv=>whnf);first|intro _|apply aI|with_reducible exact vM rfl|exact⟨⟩|apply nM|apply fM)
  all_goals((try apply vM);(try simp only[vq]at*);try omega)
  exact Sup.of rfl
theorem Fb {c:Int} {ls:List (List Int)} {i:Int} (h:bO ls) (h0:0≤i) (hlt:i<ls.length):aF Tryz.prog 196 [.agg [.int .i64 c,.isl (.rows .i64 ls) .none],.int .i64 i] (.int .i64 (iI c ls i.toNat)):=by
 have:=Ib c ls i.toNat h (by omega)
 rwa [Int.toNat_of_nonneg h0]at this
def zI:PSp:=fun xs K=>match xs with
 | [.agg [.int .i64 c,.isl (.rows .i64 ls) .none],.int .i64 i]=>VC (bO ls∧0≤i∧i<ls.length)∧K (.int .i64 (iI c ls i.toNat))
 |_=>False
theorem O8:POK Tryz.prog 196 zI:=by
 intro xs K h;unfold zI at h;split at h
 ·exact⟨_,h.2,Fb h.1.get.1 h.1.get.2.1 h.1.get.2.2⟩
 ·exact h.elim
noncomputable def agK:CPT:=aA 193 (aB pW) (aA 195 (aB fC) (aA 194 (aB FN) (aA 196 (aB zI) noC)))
theorem LP:aW Tryz.prog agK:=aj (ak rH) (aj (ak qN) (aj (ak LJ) (aj (ak O8) aC)))
theorem VE (c:Int) (ls:List (List Int)) (h:bO ls):aF Tryz.prog 153 [.agg [.int .i64 c,.isl (.rows .i64 ls) .none]] (.int .i64 (fU c ls)):=by
 have h2:=h.len;have hf:aJ [if [c].any (uU 1 256)then 3 else 0,if 128<(ls.length:Int)then 5 else 0]=if c<1∨256<c then 3 else if 128<ls.length then 5 else 0:=by
  simp only[aJ,List.any_cons,List.any_nil,Bool.or_false,uU,Bool.or_eq_true,decide_eq_true_eq]
  (repeat' split)<;>(first|rfl|omega)
 unfold fU;refine av (md:=1) (rf:=[]) mixed au LP Tryz.func153 (by rfl) (by rfl) (by rfl) ?_
 repeat'((conv=>whnf);first|intro _|apply aI|with_reducible exact vM rfl|exact⟨⟩|apply nM|apply fM)
 all_goals((try apply vM);(try simp only[vq]at*);try omega)
 ·rename_i hq
  rw[hf]at hq⊢;by_cases hc:c<1∨256<c
  ·rw[if_pos hc,if_pos hc];exact Sup.of rfl
  rw[if_neg hc]at hq⊢;by_cases hl:128<ls.length
  ·rw[if_neg hc,if_pos hl,if_pos hl];exact Sup.of rfl
  ·rw[if_neg hl]at hq;exact absurd rfl hq
 rename_i hq;have hq:=aiK.1 hq;rw[hf]at hq;have hc:¬(c<1∨256<c):=fun hc=>by rw[if_pos hc]at hq;cases hq
 rw[if_neg hc]at hq⊢;have hl:¬128<ls.length:=fun hl=>by rw[if_pos hl]at hq;cases hq
 rw[if_neg hl];conv=>whnf
 refine aM (X:=Nat) (fun i=>i≤ls.length∧∀j,j<i→iI c ls j=0) (fun i=>[(23,.int .i64 i)]) (fun i=>[]) (fun i=>ls.length-i) 0 ⟨aK,mixed,au,LP,aP⟩ (by rfl) ⟨by omega,fun j hj=>by omega⟩ ?_ ?_
 ·repeat'((conv=>whnf);first|intro _|apply aI|with_reducible exact vM rfl|exact⟨⟩|apply nM|apply fM)
  all_goals((try apply vM);(try simp only[vq]at*);try omega)
 intro i ⟨hi,hok⟩;by_cases hlt:i<ls.length
 ·repeat'((conv=>whnf);first|intro _|apply aI|with_reducible exact vM rfl|exact⟨⟩|apply nM|apply fM)
  all_goals((try apply vM);(try simp only[vq]at*);try omega)
  ·exact⟨h,by omega,by omega⟩
  ·rename_i hq
   rw[eX hlt hq hok];exact Sup.of rfl
  ·rename_i hq
   refine⟨i+1,[],⟨⟨by omega,fun j hj=>?_⟩,by omega⟩,?_⟩
   ·by_cases e:j=i
    ·subst e;exact aiK.1 hq
    ·exact hok j (by omega)
   repeat'((conv=>whnf);first|intro _|apply aI|with_reducible exact vM rfl|exact⟨⟩|apply nM|apply fM)
   all_goals((try apply vM);(try simp only[vq]at*);try omega)
 ·rw[eU (n:=ls.length) (by rw[show ls.length=i by omega];exact hok)]
  repeat'((conv=>whnf);first|intro _|apply aI|with_reducible exact vM rfl|exact⟨⟩|apply nM|apply fM)
  all_goals((try apply vM);(try simp only[vq]at*);try omega)
  exact Sup.of rfl
def Ic:PSp:=fun xs K=>match xs with
 | [.agg [.int .i64 c,.isl (.rows .i64 ls) .none]]=>VC (bO ls)∧K (.int .i64 (fU c ls))
 |_=>False
theorem Ie:POK Tryz.prog 153 Ic:=by
 intro xs K h;unfold Ic at h;split at h
 ·exact⟨_,h.2,VE _ _ h.1.get⟩
 ·exact h.elim
def uX (c:Int) (ls:List (List Int)) (f:List Int):Int:=aJ [fU c ls,if(f.length:Int)≠c then 2 else 0,uV f]
noncomputable def agL:CPT:=aA 193 (aB pW) (aA 195 (aB fC) (aA 153 (aB Ic) (aA 203 (aB uW) noC)))
theorem abj:aW Tryz.prog agL:=aj (ak rH) (aj (ak qN) (aj (ak Ie) (aj (ak Bt) aC)))
theorem Pb (c:Int) (ls:List (List Int)) (f:List Int) (h:bO ls) (hf:f.length≤2000000):aF Tryz.prog 168 [.agg [.int .i64 c,.isl (.rows .i64 ls) .none],.isl (.ints .i64 f) .none] (.int .i64 (uX c ls f)):=by
 unfold uX;refine av (md:=1) (rf:=[]) mixed au abj Tryz.func168 (by rfl) (by rfl) (by rfl) ?_
 repeat'((conv=>whnf);first|intro _|apply aI|with_reducible exact vM rfl|exact⟨⟩|apply nM|apply fM)
 all_goals((try apply vM);(try simp only[vq]at*);try omega)
 all_goals first|exact h|exact Sup.of rfl
def Ig:PSp:=fun xs K=>match xs with
 | [.agg [.int .i64 c,.isl (.rows .i64 ls) .none],.isl (.ints .i64 f) .none]=>VC (bO ls∧f.length≤2000000)∧K (.int .i64 (uX c ls f))
 |_=>False
theorem VF:POK Tryz.prog 168 Ig:=by
 intro xs K h;unfold Ig at h;split at h
 ·exact⟨_,h.2,Pb _ _ _ h.1.get.1 h.1.get.2⟩
 ·exact h.elim
noncomputable def agM:CPT:=aA 168 (aB Ig) (aA 169 (aB zG) noC)
theorem abk:aW Tryz.prog agM:=aj (ak VF) (aj (ak O1) aC)
theorem Fe (c:Int) (ls:List (List Int)) (f:List Int) (h:bO ls) (hf:f.length≤2000000) (he:uX c ls f=0) (hs:sN f ls):aF Tryz.prog 122 [.agg [.int .i64 c,.isl (.rows .i64 ls) .none],.isl (.ints .i64 f) .none] (.tup [.bp (decide (pJ (iH f ls ls.length)<0)),.int .i64 0]):=by
 refine av (md:=1) (rf:=[]) mixed au abk Tryz.func122 (by rfl) (by rfl) (by rfl) ?_
 repeat'((conv=>whnf);first|intro _|apply aI|with_reducible exact vM rfl|exact⟨⟩|apply nM|apply fM)
 all_goals((try apply vM);(try simp only[vq]at*);try omega)
 all_goals first|exact⟨h,by omega⟩|exact hs|exact Sup.of rfl|skip
theorem Pd (h:Bool) (e:Int):aF Tryz.prog 89 [.bp h,.int .i64 e] (.int .i64 (if h then e else 0)):=by
 refine av (md:=0) (rf:=[]) mixed au aC Tryz.func89 (by rfl) (by rfl) (by rfl) ?_
 repeat'((conv=>whnf);first|intro _|apply aI|with_reducible exact vM rfl|exact⟨⟩|apply nM|apply fM)
 all_goals all_goals(first|(refine Sup.of ?_;first|rfl|(simp[*,bI];done))|(refine Sup.via ?_;repeat'((conv=>whnf);first|intro _|apply aI|with_reducible exact vM rfl|exact⟨⟩|apply nM|apply fM);all_goals((try apply vM);(try simp only[vq]at*);try omega);all_goals(try(simp[CL.sub];done))))
theorem KA (h:Bool) (e:Int):aF Tryz.prog 89 [.bool h,.int .i64 e] (.int .i64 (if h then e else 0)):=by
 cases h
 all_goals
  refine av (md:=0) (rf:=[]) mixed au aC Tryz.func89 (by rfl) (by rfl) (by rfl) ?_
  repeat'((conv=>whnf);first|intro _|apply aI|with_reducible exact vM rfl|exact⟨⟩|apply nM|apply fM)
  all_goals all_goals(first|(refine Sup.of ?_;first|rfl|(simp[*,bI];done))|(refine Sup.via ?_;repeat'((conv=>whnf);first|intro _|apply aI|with_reducible exact vM rfl|exact⟨⟩|apply nM|apply fM);all_goals((try apply vM);(try simp only[vq]at*);try omega);all_goals(try(simp[CL.sub];done))))
theorem jr:POK Tryz.prog 89 fC:=by
 intro xs K h;unfold fC at h;split at h
 ·exact⟨_,h,Pd _ _⟩
 ·exact⟨_,h,KA _ _⟩
 ·exact h.elim
theorem KC (l:List Int) (hl:l.length<1000000):aF Tryz.prog 88 [.isl (.ints .i64 l) .none] (.int .i64 (aJ l)):=by
 refine av (md:=1) (rf:=[]) mixed au aC Tryz.func88 (by rfl) (by rfl) (by rfl) ?_
 repeat'((conv=>whnf);first|intro _|apply aI|with_reducible exact vM rfl|exact⟨⟩|apply nM|apply fM)
 all_goals((try apply vM);(try simp only[vq]at*);try omega)
 conv=>whnf
 refine aM (X:=Nat) (fun i=>i≤l.length∧∀j,j<i→l.getD j 0=0) (fun i=>[(7,.int .i64 i)]) (fun _=>[]) (fun i=>l.length-i) 0 ⟨aK,mixed,au,aC,aP⟩ (by rfl) ⟨by omega,fun j hj=>by omega⟩ ?_ ?_
 ·repeat'((conv=>whnf);first|intro _|apply aI|with_reducible exact vM rfl|exact⟨⟩|apply nM|apply fM)
  all_goals((try apply vM);(try simp only[vq]at*);try omega)
 ·intro i hi
  obtain⟨hi,hz⟩:=hi
  repeat'((conv=>whnf);first|intro _|apply aI|with_reducible exact vM rfl|exact⟨⟩|apply nM|apply fM)
  all_goals((try apply vM);(try simp only[vq]at*);try omega)
  ·rename_i hne
   have:=jq l i (by omega) hz (by simpa using hne)
   rw[this];exact Sup.of rfl
  ·rename_i hne
   have hne:l.getD i 0=0:=by simpa using hne
   refine⟨i+1,[],⟨⟨by omega,fun j hj=>?_⟩,by omega⟩,?_⟩
   ·by_cases e:j=i
    ·subst e;exact hne
    ·exact hz j (by omega)
   ·repeat'((conv=>whnf);first|intro _|apply aI|with_reducible exact vM rfl|exact⟨⟩|apply nM|apply fM)
    all_goals((try apply vM);(try simp only[vq]at*);try omega)
  ·have:i=l.length:=by omega
   subst this;rw[qG l hz];exact Sup.of rfl
def jJ:PSp:=fun xs K=>match xs with
 | [.isl (.ints .i64 l) .none]=>VC (l.length<1000000)∧K (.int .i64 (aJ l))
 |_=>False
theorem jh:POK Tryz.prog 88 jJ:=by
 intro xs K h;unfold jJ at h;split at h
 ·exact⟨_,h.2,KC _ h.1.get⟩
 ·exact h.elim
theorem Pe (h:Bool) (e:Int):aF Tryz.prog 183 [.bp h,.int .i64 e] (.int .i64 (if h then e else 0)):=by
 refine av (md:=0) (rf:=[]) mixed au aC Tryz.func183 (by rfl) (by rfl) (by rfl) ?_
 repeat'((conv=>whnf);first|intro _|apply aI|with_reducible exact vM rfl|exact⟨⟩|apply nM|apply fM)
 all_goals all_goals(first|(refine Sup.of ?_;first|rfl|(simp[*,bI];done))|(refine Sup.via ?_;repeat'((conv=>whnf);first|intro _|apply aI|with_reducible exact vM rfl|exact⟨⟩|apply nM|apply fM);all_goals((try apply vM);(try simp only[vq]at*);try omega);all_goals(try(simp[CL.sub];done))))
theorem KD (h:Bool) (e:Int):aF Tryz.prog 183 [.bool h,.int .i64 e] (.int .i64 (if h then e else 0)):=by
 cases h
 all_goals
  refine av (md:=0) (rf:=[]) mixed au aC Tryz.func183 (by rfl) (by rfl) (by rfl) ?_
  repeat'((conv=>whnf);first|intro _|apply aI|with_reducible exact vM rfl|exact⟨⟩|apply nM|apply fM)
  all_goals all_goals(first|(refine Sup.of ?_;first|rfl|(simp[*,bI];done))|(refine Sup.via ?_;repeat'((conv=>whnf);first|intro _|apply aI|with_reducible exact vM rfl|exact⟨⟩|apply nM|apply fM);all_goals((try apply vM);(try simp only[vq]at*);try omega);all_goals(try(simp[CL.sub];done))))
theorem Ih:POK Tryz.prog 183 fC:=by
 intro xs K h;unfold fC at h;split at h
 ·exact⟨_,h,Pe _ _⟩
 ·exact⟨_,h,KD _ _⟩
 ·exact h.elim
theorem KE (l:List Int) (hl:l.length<1000000):aF Tryz.prog 181 [.isl (.ints .i64 l) .none] (.int .i64 (aJ l)):=by
 refine av (md:=1) (rf:=[]) mixed au aC Tryz.func181 (by rfl) (by rfl) (by rfl) ?_
 repeat'((conv=>whnf);first|intro _|apply aI|with_reducible exact vM rfl|exact⟨⟩|apply nM|apply fM)
 all_goals((try apply vM);(try simp only[vq]at*);try omega)
 conv=>whnf
 refine aM (X:=Nat) (fun i=>i≤l.length∧∀j,j<i→l.getD j 0=0) (fun i=>[(7,.int .i64 i)]) (fun _=>[]) (fun i=>l.length-i) 0 ⟨aK,mixed,au,aC,aP⟩ (by rfl) ⟨by omega,fun j hj=>by omega⟩ ?_ ?_
 ·repeat'((conv=>whnf);first|intro _|apply aI|with_reducible exact vM rfl|exact⟨⟩|apply nM|apply fM)
  all_goals((try apply vM);(try simp only[vq]at*);try omega)
 ·intro i hi
  obtain⟨hi,hz⟩:=hi
  repeat'((conv=>whnf);first|intro _|apply aI|with_reducible exact vM rfl|exact⟨⟩|apply nM|apply fM)
  all_goals((try apply vM);(try simp only[vq]at*);try omega)
  ·rename_i hne
   have:=jq l i (by omega) hz (by simpa using hne)
   rw[this];exact Sup.of rfl
  ·rename_i hne
   have hne:l.getD i 0=0:=by simpa using hne
   refine⟨i+1,[],⟨⟨by omega,fun j hj=>?_⟩,by omega⟩,?_⟩
   ·by_cases e:j=i
    ·subst e;exact hne
    ·exact hz j (by omega)
   ·repeat'((conv=>whnf);first|intro _|apply aI|with_reducible exact vM rfl|exact⟨⟩|apply nM|apply fM)
    all_goals((try apply vM);(try simp only[vq]at*);try omega)
  ·have:i=l.length:=by omega
   subst this;rw[qG l hz];exact Sup.of rfl
def yj:PSp:=fun xs K=>match xs with
 | [.isl (.ints .i64 l) .none]=>VC (l.length<1000000)∧K (.int .i64 (aJ l))
 |_=>False
theorem EB:POK Tryz.prog 181 yj:=by
 intro xs K h;unfold yj at h;split at h
 ·exact⟨_,h.2,KE _ h.1.get⟩
 ·exact h.elim
theorem bG (l:List Int) (b:Int):b∈l↔∃i,i<l.length∧l.getD i 0=b:=by
 rw[ajI];constructor
 ·rintro⟨i,hi,e⟩;exact⟨i,hi,by rw[ahZ,ah4 hi];exact e⟩
 ·rintro⟨i,hi,e⟩;exact⟨i,hi,by rw[ahZ,ah4 hi]at e;exact e⟩
theorem vK (l:List Int) (b:Int) (i:Nat) (hi:i<l.length):b∈l.take (i+1)↔b∈l.take i∨b=l.getD i 0:=by
 have e:l.take (i+1)=l.take i++[l.getD i 0]:=by rw[ajQ,ahZ,ah4 hi];rfl
 rw[e,ah0,akx]
theorem R7 (l:List Int) (hl:l.length≤2000000) (b:Int):aF Tryz.prog 154 [.isl (.ints .i64 l) .none,.int .i64 b] (.int .i64 (firstAt (fun i=>decide (b=l.getD i 0)) l.length)):=by
 refine av (md:=1) (rf:=[]) mixed au aC Tryz.func154 (by rfl) (by rfl) (by rfl) ?_
 repeat'((conv=>whnf);first|intro _|apply aI|with_reducible exact vM rfl|exact⟨⟩|apply nM|apply fM)
 all_goals((try apply vM);(try simp only[vq]at*);try omega)
 conv=>whnf
 refine aM (X:=Nat) (fun i=>i≤l.length∧∀j,j<i→decide (b=l.getD j 0)=false) (fun i=>[(8,.int .i64 i)]) (fun i=>[]) (fun i=>l.length-i) 0 ⟨aK,mixed,au,aC,aP⟩ (by rfl) ⟨by omega,fun j hj=>by omega⟩ ?_ ?_
 ·repeat'((conv=>whnf);first|intro _|apply aI|with_reducible exact vM rfl|exact⟨⟩|apply nM|apply fM)
  all_goals((try apply vM);(try simp only[vq]at*);try omega)
 ·rintro i ⟨hi,hok⟩
  by_cases hlt:i<l.length
  ·repeat'((conv=>whnf);first|intro _|apply aI|with_reducible exact vM rfl|exact⟨⟩|apply nM|apply fM)
   all_goals((try apply vM);(try simp only[vq]at*);try omega)
   ·rename_i hq
    rw[ku (p:=fun i=>decide (b=l.getD i 0)) hlt (decide_eq_true hq) (fun j hj=>decide_eq_false (hok j hj))];exact Sup.of rfl
   ·refine⟨i+1,[],⟨⟨by omega,fun j hj=>?_⟩,by omega⟩,?_⟩
    ·by_cases e:j=i
     ·subst e;first|assumption|(apply decide_eq_false;assumption)
     ·first|exact hok j (by omega)|exact decide_eq_false (hok j (by omega))
    ·repeat'((conv=>whnf);first|intro _|apply aI|with_reducible exact vM rfl|exact⟨⟩|apply nM|apply fM)
     all_goals((try apply vM);(try simp only[vq]at*);try omega)
  ·have:i=l.length:=by omega
   subst this;rw[kr hok]
   repeat'((conv=>whnf);first|intro _|apply aI|with_reducible exact vM rfl|exact⟨⟩|apply nM|apply fM)
   all_goals((try apply vM);(try simp only[vq]at*);try omega)
   exact Sup.of rfl
def Pf:PSp:=fun xs K=>match xs with
 | [.isl (.ints .i64 l) .none,.int .i64 b]=>VC (l.length≤2000000)∧K (.int .i64 (firstAt (fun i=>decide (b=l.getD i 0)) l.length))
 |_=>False
theorem abl:POK Tryz.prog 154 Pf:=by
 intro xs K h;unfold Pf at h;split at h
 ·exact⟨_,h.2,R7 _ h.1.get _⟩
 ·exact h.elim
noncomputable def agN:CPT:=aA 154 (aB Pf) noC
theorem abm:aW Tryz.prog agN:=aj (ak abl) aC
theorem R8 (l:List Int) (hl:l.length≤2000000) (b:Int):aF Tryz.prog 94 [.isl (.ints .i64 l) .none,.int .i64 b] (.bp (decide (b∈l))):=by
 refine av (md:=1) (rf:=[]) mixed au abm Tryz.func94 (by rfl) (by rfl) (by rfl) ?_
 repeat'((conv=>whnf);first|intro _|apply aI|with_reducible exact vM rfl|exact⟨⟩|apply nM|apply fM)
 all_goals((try apply vM);(try simp only[vq]at*);try omega)
 refine Sup.via ?_
 repeat'((conv=>whnf);first|intro _|apply aI|with_reducible exact vM rfl|exact⟨⟩|apply nM|apply fM)
 refine VC.mk ?_;rw[iU,oD (fun y=>decide (b=y))];rw[ajU];simp[ako]
def Bv:PSp:=fun xs K=>match xs with
 | [.isl (.ints .i64 l) .none,.int .i64 b]=>VC (l.length≤2000000)∧K (.bp (decide (b∈l)))
 |_=>False
theorem Db:POK Tryz.prog 94 Bv:=by
 intro xs K h;unfold Bv at h;split at h
 ·exact⟨_,h.2,R8 _ h.1.get _⟩
 ·exact h.elim
noncomputable def cpG:CPT:=aA 89 (aB fC) noC
theorem aeA:aW Tryz.prog cpG:=aj (ak jr) aC
def jP (g:Int):Int:=if g<1∨5<g then 3 else 0
theorem Fg (g:Int):aF Tryz.prog 98 [.int .i64 g] (.int .i64 (jP g)):=by
 unfold jP;refine av (md:=1) (rf:=[]) mixed au aeA Tryz.func98 (by rfl) (by rfl) (by rfl) ?_
 repeat'((conv=>whnf);first|intro _|apply aI|with_reducible exact vM rfl|exact⟨⟩|apply nM|apply fM)
 all_goals refine Sup.of ?_
 all_goals simp_all[bI]
 all_goals(split<;>split<;>omega)
def rJ:PSp:=fun xs K=>match xs with
 | [.int .i64 g]=>VC (True)∧K (.int .i64 (jP g))
 |_=>False
theorem yR:POK Tryz.prog 98 rJ:=by
 intro xs K h;unfold rJ at h;split at h
 ·exact⟨_,h.2,Fg _⟩
 ·exact h.elim
def eP (c:Int) (ls:List (List Int)):Int:=aJ [fU c ls,if 16<c then 20 else 0,if ls.length=0 then 12 else 0]
noncomputable def agO:CPT:=aA 88 (aB jJ) (aA 89 (aB fC) (aA 153 (aB Ic) noC))
theorem abn:aW Tryz.prog agO:=aj (ak jh) (aj (ak jr) (aj (ak Ie) aC))
theorem Pg (c:Int) (ls:List (List Int)) (h:bO ls):aF Tryz.prog 93 [.agg [.int .i64 c,.isl (.rows .i64 ls) .none]] (.int .i64 (eP c ls)):=by
 unfold eP;refine av (md:=1) (rf:=[]) mixed au abn Tryz.func93 (by rfl) (by rfl) (by rfl) ?_
 repeat'((conv=>whnf);first|intro _|apply aI|with_reducible exact vM rfl|exact⟨⟩|apply nM|apply fM)
 all_goals((try apply vM);(try simp only[vq]at*);try omega)
 all_goals first|exact h|skip
 refine Sup.of (congrArg (PV.int .i64) ?_);simp only[decide_eq_true_eq,Int.natCast_eq_zero]
def Bw:PSp:=fun xs K=>match xs with
 | [.agg [.int .i64 c,.isl (.rows .i64 ls) .none]]=>VC (bO ls)∧K (.int .i64 (eP c ls))
 |_=>False
theorem Ii:POK Tryz.prog 93 Bw:=by
 intro xs K h;unfold Bw at h;split at h
 ·exact⟨_,h.2,Pg _ _ h.1.get⟩
 ·exact h.elim
noncomputable def agP:CPT:=aA 120 (aB FP) noC
theorem abo:aW Tryz.prog agP:=aj (ak LM) aC
theorem KF (c:Int) (ls:List (List Int)) (h:bO ls):aF Tryz.prog 51 [.agg [.int .i64 c,.isl (.rows .i64 ls) .none]] (.int .i64 (eP c ls)):=by
 unfold eP aJ aJ aJ aJ;refine av (md:=1) (rf:=[]) mixed au abo Tryz.func51 (by rfl) (by rfl) (by rfl) ?_
 repeat'((conv=>whnf);first|(intro hq;(try simp only[vw]at hq);try first|exact absurd hq (by decide)|exfalso;omega)|apply aI|with_reducible exact vM rfl|exact⟨⟩|apply nM|apply fM)
 all_goals((try apply vM);(try simp only[vq]at*);try omega)
 all_goals first|exact h|(refine Sup.of (congrArg (PV.int .i64) ?_);(repeat' split)<;>simp_all<;>omega)
def Dc:PSp:=fun xs K=>match xs with
 | [.agg [.int .i64 c,.isl (.rows .i64 ls) .none]]=>VC (bO ls)∧K (.int .i64 (eP c ls))
 |_=>False
theorem R9:POK Tryz.prog 51 Dc:=by
 intro xs K h;unfold Dc at h;split at h
 ·exact⟨_,h.2,KF _ _ h.1.get⟩
 ·exact h.elim
def gvE (c:Int) (gv:List Int) (i:Nat):Int:=if gv.getD i 0<0∨c<gv.getD i 0 then 3 else if 0<gv.getD i 0∧gv.getD i 0∈gv.take i then 9 else 0
def mK (c:Int) (ls:List (List Int)) (sum:Int) (gv:List Int):Int:=aJ [eP c ls,if sum< -999999999∨999999999<sum then 3 else 0,if(gv.length:Int)≠c then 2 else 0]
def pzE (c:Int) (ls:List (List Int)) (sum:Int) (gv:List Int):Int:=if mK c ls sum gv≠0 then mK c ls sum gv else dD (gvE c gv) gv.length
abbrev pzV (c:Int) (ls:List (List Int)) (sum:Int) (gv:List Int):PV:=.agg [.int .i64 c,.isl (.rows .i64 ls) .none,.int .i64 sum,.isl (.ints .i64 gv) .none]
noncomputable def agQ:CPT:=aA 88 (aB jJ) (aA 89 (aB fC) (aA 93 (aB Bw) (aA 94 (aB Bv) noC)))
theorem LQ:aW Tryz.prog agQ:=aj (ak jh) (aj (ak jr) (aj (ak Ii) (aj (ak Db) aC)))
theorem Ph (c:Int) (ls:List (List Int)) (sum:Int) (gv:List Int) (h:bO ls) (hg:gv.length≤5000):aF Tryz.prog 22 [pzV c ls sum gv] (.int .i64 (pzE c ls sum gv)):=by
 obtain⟨B,hB⟩:∃B,eP c ls=B:=⟨_,rfl⟩;have hE0:∀x,(x=if sum< -999999999∨999999999<sum then 3 else 0)→mK c ls sum gv=aJ [B,x,if(gv.length:Int)≠c then 2 else 0]:=fun x hx=>by rw[hx,←hB];rfl
 obtain⟨E,hE⟩:∃E,mK c ls sum gv=E:=⟨_,rfl⟩;unfold pzE;rw[hE]at hE0⊢;refine av (md:=1) (rf:=[]) mixed au LQ Tryz.func22 (by rfl) (by rfl) (by rfl) ?_
 repeat'((conv=>whnf);first|(intro hq;(try simp only[vw]at hq);try first|exact absurd hq (by decide)|exfalso;omega)|apply aI|with_reducible exact vM rfl|exact⟨⟩|apply nM|apply fM)
 all_goals((try apply vM);(try simp only[vq]at*);try omega)
 all_goals first|exact h|skip
 ·rename_i h1
  have e:=hE0 (if 999999999<sum then 3 else 0) (by simp[h1])
  rw[hB]at hq⊢;rw[←e]at hq⊢;rw[if_pos hq];exact Sup.of rfl
 rotate_left
 ·rename_i h1
  have e:=hE0 3 (by simp[h1])
  rw[hB]at hq⊢;rw[←e]at hq;rw[if_pos hq,e];exact Sup.of (by simp[bI])
 ·rename_i h1
  exfalso
  have hq:=aiK.1 hq;by_cases h2:eP c ls=0
  ·simp[aJ,h2]at hq
  ·simp[aJ,h2]at hq
 rename_i h1;have e:=hE0 (if 999999999<sum then 3 else 0) (by simp[h1])
 rw[hB,←e]at hq;rw[if_neg hq];conv=>whnf
 refine aM (X:=Nat) (fun i=>i≤gv.length∧∀j,j<i→gvE c gv j=0) (fun i=>[(39,.int .i64 i)]) (fun i=>[]) (fun i=>gv.length-i) 0 ⟨aK,mixed,au,LQ,aP⟩ (by rfl) ⟨by omega,fun j hj=>by omega⟩ ?_ ?_
 ·repeat'((conv=>whnf);first|intro _|apply aI|with_reducible exact vM rfl|exact⟨⟩|apply nM|apply fM)
  all_goals((try apply vM);(try simp only[vq]at*);try omega)
 intro i ⟨hi,hok⟩;by_cases hlt:i<gv.length
 ·have eS:gvE c gv i=if gv.getD i 0<0∨c<gv.getD i 0 then 3 else if 0<gv.getD i 0∧gv.getD i 0∈gv.take i then 9 else 0:=rfl
  have et:akt (i-0) (aku 0 gv)=gv.take i:=by rw[akv,akw]
  have fin:∀e,gvE c gv i=e→e≠0→dD (gvE c gv) gv.length=e:=fun e a1 a2=>(eX hlt (by rw[a1];exact a2) hok).trans a1
  have nxt:gvE c gv i=0→∀j,j<i+1→gvE c gv j=0:=fun a j hj=>by
   by_cases e:j=i
   ·subst e;exact a
   ·exact hok j (by omega)
  repeat'((conv=>whnf);first|(intro hq;(try simp only[vw]at hq);try first|exact absurd hq (by decide)|exfalso;omega)|apply aI|with_reducible exact vM rfl|exact⟨⟩|apply nM|apply fM)
  all_goals((try apply vM);(try simp only[vq]at*);try omega)
  all_goals first
   |(rw[et,aiG];omega)
   |(rw[aiG,List.length_drop];omega)
   |skip
  all_goals(try rw[et]at*)
  ·refine Sup.of (congrArg (PV.int .i64) (fin _ ?_ ?_).symm)
   ·clear fin nxt hok hE0
    rw[eS];simp only[aJ];(repeat' split)<;>simp_all<;>omega
   ·exact hq
  ·refine⟨i+1,[],⟨⟨by omega,nxt ?_⟩,by omega⟩,?_⟩
   ·refine Eq.trans ?_ (aiK.1 hq)
    clear fin nxt hok hE0;rw[eS];simp only[aJ];(repeat' split)<;>simp_all<;>omega
   ·repeat'((conv=>whnf);first|intro _|apply aI|with_reducible exact vM rfl|exact⟨⟩|apply nM|apply fM)
    all_goals((try apply vM);(try simp only[vq]at*);try omega)
  ·refine Sup.of (congrArg (PV.int .i64) (fin _ ?_ ?_).symm)
   ·clear fin nxt hok hE0
    rw[eS];simp only[aJ];(repeat' split)<;>simp_all<;>omega
   ·exact hq
  ·refine⟨i+1,[],⟨⟨by omega,nxt ?_⟩,by omega⟩,?_⟩
   ·refine Eq.trans ?_ (aiK.1 hq)
    clear fin nxt hok hE0;rw[eS];simp only[aJ];(repeat' split)<;>simp_all<;>omega
   ·repeat'((conv=>whnf);first|intro _|apply aI|with_reducible exact vM rfl|exact⟨⟩|apply nM|apply fM)
    all_goals((try apply vM);(try simp only[vq]at*);try omega)
  ·refine Sup.of (congrArg (PV.int .i64) (fin _ ?_ ?_).symm)
   ·rw[eS,if_pos (.inl (by assumption))];simp[aJ]
   ·simp[aJ]
 ·have:gv.length=i:=by omega
  rw[eU (n:=gv.length) (by rw[this];exact hok)]
  repeat'((conv=>whnf);first|intro _|apply aI|with_reducible exact vM rfl|exact⟨⟩|apply nM|apply fM)
  all_goals((try apply vM);(try simp only[vq]at*);try omega)
  exact Sup.of rfl
def mM:PSp:=fun xs K=>match xs with
 | [.agg [.int .i64 c,.isl (.rows .i64 ls) .none,.int .i64 sum,.isl (.ints .i64 gv) .none]]=>VC (bO ls∧gv.length≤5000)∧K (.int .i64 (pzE c ls sum gv))
 |_=>False
theorem lT:POK Tryz.prog 22 mM:=by
 intro xs K h;unfold mM at h;split at h
 ·exact⟨_,h.2,Ph _ _ _ _ h.1.get.1 h.1.get.2⟩
 ·exact h.elim
abbrev bdV (c:Int) (ls:List (List Int)) (sum:Int) (gv:List Int) (s:St):PV:=.ip (.pv [.int .i64 c,.isl (.rows .i64 ls) .none,.int .i64 sum,.isl (.ints .i64 gv) .none,.isl (.ints .u32 (ms s.cs)) .none,.isl (.bools s.ds) .none]) 0
noncomputable def agR:CPT:=aA 190 (aB wW) noC
theorem LU:aW Tryz.prog agR:=aj (ak zF) aC
theorem LV {l:List Int} (h:Asc l) (hl:1≤l.length):qL (mk l)=hd0 l:=by
 cases l with
 |nil=>simp at hl
 |cons x l=>exact LB h
theorem Sb (c:Int) (ls:List (List Int)) (sum:Int) (gv:List Int) (s:St) (h:aR c ls sum s) (k b:Int) (hk:0≤k∧k<ls.length):
 aF Tryz.prog 151 [bdV c ls sum gv s,.int .i64 k,.int .i64 b] (.tup [.isl (.ints .i64 (opn s (ls.getD k.toNat []) b)) .none,.int .i64 (rst s sum (ls.getD k.toNat []))]):=by
 have hln:=h.ln k.toNat (by omega)
 have hsm:=h.sm;have hll:=hln.len;have hlen:=dW s.cs;have hcl:=h.cl;have hdl:=h.dl;have hb:=HV h hln.rng;refine av (md:=1) (rf:=[]) mixed au LU Tryz.func151 (by rfl) (by rfl) (by rfl) ?_
 repeat'((conv=>whnf);first|intro _|apply aI|with_reducible exact vM rfl|exact⟨⟩|apply nM|apply fM)
 all_goals((try apply vM);(try simp only[vq]at*);try omega)
 conv=>whnf
 refine aM (X:=Nat) (fun i=>i≤(ls.getD k.toNat []).length) (fun i=>[(27,.int .i64 i),(8,.isl (.ints .i64 (opn s ((ls.getD k.toNat []).take i) b)) (.own 3)),(9,.int .i64 (rst s sum ((ls.getD k.toNat []).take i)))]) (fun i=>[(3,.tok 1 (opn s ((ls.getD k.toNat []).take i) b).length)]) (fun i=>(ls.getD k.toNat []).length-i) 0 ⟨aK,mixed,au,LU,aP⟩ (by rfl) (by omega) ?_ ?_
 ·repeat'((conv=>whnf);first|intro _|apply aI|with_reducible exact vM rfl|exact⟨⟩|apply nM|apply fM)
  all_goals((try apply vM);(try simp only[vq]at*);try omega)
  all_goals rfl
 intro i hi;by_cases hlt:i<(ls.getD k.toNat []).length
 ·have hx:=hln.rng ((ls.getD k.toNat []).getD i 0) (dx hlt)
  have hxs:=h.at hx;have hbi:=hb i (by omega)
  have ho:(opn s ((ls.getD k.toNat []).take i) b).length≤16:=ajC (aky _ _) (by rw[aiG];omega)
  have hm:(ms s.cs).getD ((ls.getD k.toNat []).getD i 0).toNat 0=(mk (s.cd ((ls.getD k.toNat []).getD i 0).toNat):Nat):=gq hxs.1;have hA:=h.asc _ hxs.1;have hr:=qM hA.1;have e1:=aaT s ((ls.getD k.toNat []).take i) ((ls.getD k.toNat []).getD i 0) b;have e2:=Lr s sum ((ls.getD k.toNat []).take i) ((ls.getD k.toNat []).getD i 0);rw[←dH hlt]at e1 e2;have hlo:s.dc ((ls.getD k.toNat []).getD i 0).toNat=true→qL (mk (s.cd ((ls.getD k.toNat []).getD i 0).toNat):Nat)=hd0 (s.cd ((ls.getD k.toNat []).getD i 0).toNat):=fun hd=>LV hA.1 (by rw[h.dec _ hxs.1 hd];omega)
  repeat'((conv=>whnf);first|(intro hq;(try simp only[vw]at hq);try first|exact absurd hq (by decide)|exfalso;omega)|apply aI|with_reducible exact vM rfl|exact⟨⟩|apply nM|apply fM)
  all_goals(try rw[hm])
  all_goals((try apply vM);(try simp only[vq]at*);try omega)
  all_goals(try rw[hm])
  all_goals(try(first|omega|(have h9:=h.num hx ‹_›;rw[hlo ‹_›];omega)|(rw[ai7,ahK,ahG];omega)))
  ·have hd:s.dc ((ls.getD k.toNat []).getD i 0).toNat=true:=hq
   rw[hd]at e1 e2;rw[if_pos rfl]at e2;rw[if_neg (by simp),ajL]at e1
   refine⟨i+1,[],⟨by omega,by omega⟩,?_⟩
   rw[e1,e2]
   repeat'((conv=>whnf);first|intro _|apply aI|with_reducible exact vM rfl|exact⟨⟩|apply nM|apply fM)
   all_goals((try apply vM);(try simp only[vq]at*);try omega)
   all_goals((try rw[hm]);rw[hlo hd])
  ·rename_i hd
   have hd:s.dc ((ls.getD k.toNat []).getD i 0).toNat=false:=hd;rw[hd]at e1 e2;rw[if_neg (by simp)]at e2
   rw[if_pos (by simpa using hq)]at e1
   refine⟨i+1,[],⟨by omega,by omega⟩,?_⟩
   rw[e1,e2,ai7]
   repeat'((conv=>whnf);first|intro _|apply aI|with_reducible exact vM rfl|exact⟨⟩|apply nM|apply fM)
   all_goals((try apply vM);(try simp only[vq]at*);try omega)
  ·rename_i hd
   have hd:s.dc ((ls.getD k.toNat []).getD i 0).toNat=false:=hd;rw[hd]at e1 e2;rw[if_neg (by simp)]at e2
   rw[if_neg (by simpa using hq),ajL]at e1
   refine⟨i+1,[],⟨by omega,by omega⟩,?_⟩
   rw[e1,e2]
   repeat'((conv=>whnf);first|intro _|apply aI|with_reducible exact vM rfl|exact⟨⟩|apply nM|apply fM)
   all_goals((try apply vM);(try simp only[vq]at*);try omega)
 ·have:i=(ls.getD k.toNat []).length:=by omega
  subst this;rw[ajS]
  repeat'((conv=>whnf);first|intro _|apply aI|with_reducible exact vM rfl|exact⟨⟩|apply nM|apply fM)
  all_goals((try apply vM);(try simp only[vq]at*);try omega)
  exact Sup.of rfl
def Bz:PSp:=fun xs K=>match xs with
 | [.ip (.pv [.int .i64 c,.isl (.rows .i64 ls) .none,.int .i64 sum,.isl (.ints .i64 gv) .none,.isl (.ints .u32 M) .none,.isl (.bools D) .none]) 0,.int .i64 k,.int .i64 b]=>∃s:St,VC (M=ms s.cs∧D=s.ds∧aR c ls sum s∧0≤k∧k<ls.length)∧K (.tup [.isl (.ints .i64 (opn s (ls.getD k.toNat []) b)) .none,.int .i64 (rst s sum (ls.getD k.toNat []))])
 |_=>False
theorem Df:POK Tryz.prog 151 Bz:=by
 intro xs K hk;unfold Bz at hk;split at hk
 ·obtain⟨s,⟨rfl,rfl,h,h1⟩,hk⟩:=hk
  exact⟨_,hk,Sb _ _ _ _ s h _ _ h1⟩
 ·exact hk.elim
abbrev ddV (r:ByteArray) (c x k:Int):PV:=.agg [.str r,.int .i64 c,.int .i64 x,.int .i64 k]
noncomputable def agS:CPT:=aA 151 (aB Bz) (aA 156 (aB FJ) (aA 190 (aB wW) (aA 210 (aB OL) (aA 211 (aB wX) noC))))
theorem pX:aW Tryz.prog agS:=aj (ak Df) (aj (ak Lx) (aj (ak zF) (aj (ak aaZ) (aj (ak Kw) aC))))
theorem Sc (c:Int) (ls:List (List Int)) (sum:Int) (gv:List Int) (s:St) (h:aR c ls sum s) (r:ByteArray) (y x k:Int) (hk:0≤k∧k<ls.length):
 aF Tryz.prog 172 [bdV c ls sum gv s,ddV r y x k] (.bp (uS s sum (ls.getD k.toNat []) y x)):=by
 unfold uS;refine av (md:=1) (rf:=[]) mixed au pX Tryz.func172 (by rfl) (by rfl) (by rfl) ?_
 repeat'((conv=>whnf);first|refine Exists.intro (s) ?_|(intro hq;(try simp only[vw]at hq);try first|exact absurd hq (by decide)|exfalso;omega)|apply aI|with_reducible exact vM rfl|exact⟨⟩|apply nM|apply fM)
 all_goals((try apply vM);(try simp only[vq]at*);try omega)
 ·exact⟨h,hk⟩
 ·rw[decide_eq_true (p:=(opn s (ls.getD k.toNat []) y).length=0) (by omega),akz];exact Sup.of rfl
 ·rw[decide_eq_false (p:=(opn s (ls.getD k.toNat []) y).length=0) (by omega),aj9];all_goals(refine Sup.via ?_;repeat'((conv=>whnf);first|intro _|apply aI|with_reducible exact vM rfl|exact⟨⟩|apply nM|apply fM);all_goals((try apply vM);(try simp only[vq]at*);try omega);all_goals(try(simp[CL.sub];done)))
theorem Sd (c:Int) (ls:List (List Int)) (sum:Int) (gv:List Int) (s:St) (h:aR c ls sum s) (r:ByteArray) (y x k:Int) (hy:0≤y∧y<c):
 aF Tryz.prog 173 [bdV c ls sum gv s,ddV r y x k] (.bp (uT s y)):=by
 have hxs:=h.at hy;have hm:(ms s.cs).getD y.toNat 0=(mk (s.cd y.toNat):Nat):=gq hxs.1;have hA:=(h.asc _ hxs.1).1;have hr:=qM hA;have hlen:=dW s.cs;unfold uT;refine av (md:=1) (rf:=[]) mixed au pX Tryz.func173 (by rfl) (by rfl) (by rfl) ?_
 repeat'((conv=>whnf);first|refine Exists.intro (s) ?_|(intro hq;(try simp only[vw]at hq);try first|exact absurd hq (by decide)|exfalso;omega)|apply aI|with_reducible exact vM rfl|exact⟨⟩|apply nM|apply fM)
 all_goals((try apply vM);(try simp only[vq]at*);try omega)
 all_goals(try rw[hm])
 all_goals(try omega)
 rw[pop_mk hA];refine Sup.of (congrArg PV.bp ?_);rw[decide_eq_decide];omega
theorem Pj (c:Int) (ls:List (List Int)) (sum:Int) (gv:List Int) (s:St) (h:aR c ls sum s) (r:ByteArray) (y x k:Int) (hx:1≤x∧x≤c):
 aF Tryz.prog 174 [bdV c ls sum gv s,ddV r y x k] (.bp (oP s y x)):=by
 have hlen:=dW s.cs;have hc:=h.c1;have hcl:=h.cl;refine av (md:=1) (rf:=[]) mixed au pX Tryz.func174 (by rfl) (by rfl) (by rfl) ?_
 repeat'((conv=>whnf);first|refine Exists.intro (s) ?_|(intro hq;(try simp only[vw]at hq);try first|exact absurd hq (by decide)|exfalso;omega)|apply aI|with_reducible exact vM rfl|exact⟨⟩|apply nM|apply fM)
 all_goals((try apply vM);(try simp only[vq]at*);try omega)
 conv=>whnf
 refine aM (X:=Nat) (fun i=>i≤s.cs.length∧∀j,j<i→(decide ((j:Int)=y)||!decide (x∈s.cd j))=true) (fun i=>[(12,.int .i64 i)]) (fun i=>[]) (fun i=>s.cs.length-i) 0 ⟨aK,mixed,au,pX,aP⟩ (by rfl) ⟨by omega,fun j hj=>by omega⟩ ?_ ?_
 ·repeat'((conv=>whnf);first|intro _|apply aI|with_reducible exact vM rfl|exact⟨⟩|apply nM|apply fM)
  all_goals((try apply vM);(try simp only[vq]at*);try omega)
 intro i ⟨hi,hok⟩;have nxt:(decide ((i:Int)=y)||!decide (x∈s.cd i))=true→∀j,j<i+1→(decide ((j:Int)=y)||!decide (x∈s.cd j))=true:=fun a j hj=>by
  by_cases e:j=i
  ·subst e;exact a
  ·exact hok j (by omega)
 by_cases hlt:i<s.cs.length
 ·have hm:(ms s.cs).getD i 0=(mk (s.cd i):Nat):=gq hlt
  have hA:=(h.asc _ hlt).1;have hr:=qM hA
  repeat'((conv=>whnf);first|refine Exists.intro (s) ?_|(intro hq;(try simp only[vw]at hq);try first|exact absurd hq (by decide)|exfalso;omega)|apply aI|with_reducible exact vM rfl|exact⟨⟩|apply nM|apply fM)
  all_goals((try apply vM);(try simp only[vq]at*);try omega)
  all_goals(try rw[hm]at hq)
  all_goals(try rw[hm])
  all_goals(try omega)
  ·rename_i h1
   rw[LA hA (by omega),decide_eq_true_eq]at hq
   have:oP s y x=false:=by
    unfold oP;rw[List.all_eq_false];exact⟨i,ajF.2 hlt,by simp[hq];exact h1⟩
   rw[this];all_goals(refine Sup.via ?_;repeat'((conv=>whnf);first|intro _|apply aI|with_reducible exact vM rfl|exact⟨⟩|apply nM|apply fM);all_goals((try apply vM);(try simp only[vq]at*);try omega);all_goals(try(simp[CL.sub];done)))
  ·rw[LA hA (by omega),decide_eq_false_iff_not]at hq
   refine⟨i+1,[],⟨⟨by omega,nxt (by simp[hq])⟩,by omega⟩,?_⟩
   repeat'((conv=>whnf);first|intro _|apply aI|with_reducible exact vM rfl|exact⟨⟩|apply nM|apply fM)
   all_goals((try apply vM);(try simp only[vq]at*);try omega)
  ·refine⟨i+1,[],⟨⟨by omega,nxt (by simp[aiK.1 hq])⟩,by omega⟩,?_⟩
   repeat'((conv=>whnf);first|intro _|apply aI|with_reducible exact vM rfl|exact⟨⟩|apply nM|apply fM)
   all_goals((try apply vM);(try simp only[vq]at*);try omega)
 ·have:oP s y x=true:=by
   unfold oP;rw[ajp];exact fun j hj=>hok j (by have:=ajF.1 hj;omega)
  rw[this]
  repeat'((conv=>whnf);first|refine Exists.intro (s) ?_|(intro hq;(try simp only[vw]at hq);try first|exact absurd hq (by decide)|exfalso;omega)|apply aI|with_reducible exact vM rfl|exact⟨⟩|apply nM|apply fM)
  all_goals((try apply vM);(try simp only[vq]at*);try omega)
  all_goals(refine Sup.via ?_;repeat'((conv=>whnf);first|intro _|apply aI|with_reducible exact vM rfl|exact⟨⟩|apply nM|apply fM);all_goals((try apply vM);(try simp only[vq]at*);try omega);all_goals(try(simp[CL.sub];done)))
theorem LW {s:St} {l:List Int} {b x:Int} (h:x∈opn s l b):x∈l:=(aj2.1 h).1
theorem LX {c:Int} {ls:List (List Int)} {sum:Int} {s:St} (h:aR c ls sum s) (f:List Int→Int) (hf:∀l,f l=hd0 l∨f l=ls0 l) {o:List Int} (ho:∀y∈o,0≤y∧y<c) (hn:∀y∈o,s.cd y.toNat≠[]):
 ∀i,i≤o.length→0≤(o.take i).foldl (fun a y=>a+f (s.cd y.toNat)) 0∧(o.take i).foldl (fun a y=>a+f (s.cd y.toNat)) 0≤16*i:=by
 intro i;induction i with
 |zero=>intro _;simp
 |succ i ih=>
  intro hi;have ih:=ih (by omega)
  have hy:=dx (show i<o.length by omega)
  have hxs:=h.at (ho _ hy);have hl:1≤(s.cd (o.getD i 0).toNat).length:=by
   rcases aiC (s.cd (o.getD i 0).toNat).length with h0|h0
   ·exact absurd (ai6.1 h0) (hn _ hy)
   ·exact h0
  have hA:=(h.asc _ hxs.1).1;have h1:=hA.rng _ (iT hl);have h2:=hA.rng _ (lZ hl);rw[dH (by omega),akc]
  simp only[List.foldl_cons,List.foldl_nil];rcases hf (s.cd (o.getD i 0).toNat)with e|e<;>rw[e]<;>omega
theorem abp {l:List Int} (h:Asc l) (hl:1≤l.length):fG (mk l)-1=ls0 l:=by
 rw[aa0 h (lZ hl) (qI h.pw)];omega
theorem Ij (c:Int) (ls:List (List Int)) (sum:Int) (gv:List Int) (s:St) (h:aR c ls sum s) (r:ByteArray) (y x k:Int) (hk:0≤k∧k<ls.length) (hx:1≤x∧x≤c):
 aF Tryz.prog 175 [bdV c ls sum gv s,ddV r y x k] (.bp (oQ s sum (ls.getD k.toNat []) y x)):=by
 obtain⟨o,hO⟩:∃o,opn s (ls.getD k.toNat []) y=o:=⟨_,rfl⟩;obtain⟨R,hR⟩:∃R,rst s sum (ls.getD k.toNat [])=R:=⟨_,rfl⟩;have hlen:=dW s.cs;have hc:=h.c1;have hcl:=h.cl;have hln:=h.ln k.toNat (by omega)
 have hll:=hln.len;have hsm:=h.sm;have hRb:=HV h hln.rng _ (ahO _);rw[ajS,hR]at hRb;have ho:∀z∈o,0≤z∧z<c:=fun z hz=>hln.rng z (by rw[←hO]at hz;exact LW hz)
 have hol:o.length≤16:=by rw[←hO];exact ajC (aky _ _) hll
 unfold oQ;rw[hO,hR];refine av (md:=1) (rf:=[]) mixed au pX Tryz.func175 (by rfl) (by rfl) (by rfl) ?_
 repeat'((conv=>whnf);first|refine Exists.intro (s) ?_|(intro hq;(try simp only[vw]at hq);try first|exact absurd hq (by decide)|exfalso;omega)|apply aI|with_reducible exact vM rfl|exact⟨⟩|apply nM|apply fM)
 all_goals((try apply vM);(try simp only[vq]at*);try omega)
 ·exact⟨h,hk⟩
 rw[hO,hR];conv=>whnf
 refine aM (X:=Nat) (fun i=>i≤o.length∧∀z∈o.take i,s.cd z.toNat≠[]) (fun i=>[(25,.int .i64 i),(7,.int .i64 (qJ s (o.take i))),(8,.int .i64 (qK s (o.take i)))]) (fun i=>[]) (fun i=>o.length-i) 0 ⟨aK,mixed,au,pX,aP⟩ (by rfl) ⟨by omega,by simp⟩ ?_ ?_
 ·repeat'((conv=>whnf);first|intro _|apply aI|with_reducible exact vM rfl|exact⟨⟩|apply nM|apply fM)
  all_goals((try apply vM);(try simp only[vq]at*);try omega)
  all_goals rfl
 intro i ⟨hi,hok⟩;have hoi:∀z∈o.take i,0≤z∧z<c:=fun z hz=>ho z (ajG hz);have b1:0≤qJ s (o.take i)∧qJ s (o.take i)≤16*i:=by
  have:=LX h hd0 (fun _=>.inl rfl) hoi hok (o.take i).length (ahO _);rw[ajS,show(o.take i).length=i by rw[aiG];omega]at this
  exact this
 have b2:0≤qK s (o.take i)∧qK s (o.take i)≤16*i:=by
  have:=LX h ls0 (fun _=>.inr rfl) hoi hok (o.take i).length (ahO _);rw[ajS,show(o.take i).length=i by rw[aiG];omega]at this
  exact this
 by_cases hlt:i<o.length
 ·have hy:=ho _ (dx hlt)
  have hxs:=h.at hy;have hm:(ms s.cs).getD (o.getD i 0).toNat 0=(mk (s.cd (o.getD i 0).toNat):Nat):=gq hxs.1;have hA:=(h.asc _ hxs.1).1;have hr:=qM hA;have t1:=dH hlt;have e1:qJ s (o.take (i+1))=qJ s (o.take i)+hd0 (s.cd (o.getD i 0).toNat):=by rw[t1];unfold qJ;rw[akc];rfl
  have e2:qK s (o.take (i+1))=qK s (o.take i)+ls0 (s.cd (o.getD i 0).toNat):=by rw[t1];unfold qK;rw[akc];rfl
  have hne:s.cd (o.getD i 0).toNat≠[]→1≤(s.cd (o.getD i 0).toNat).length:=fun h0=>by
   rcases aiC (s.cd (o.getD i 0).toNat).length with h1|h1
   ·exact absurd (ai6.1 h1) h0
   ·exact h1
  have hz:(mk (s.cd (o.getD i 0).toNat):Int)=0↔s.cd (o.getD i 0).toNat=[]:=by rw[←mk_zero hA.inM];omega
  repeat'((conv=>whnf);first|refine Exists.intro (s) ?_|(intro hq;(try simp only[vw]at hq);try first|exact absurd hq (by decide)|exfalso;omega)|apply aI|with_reducible exact vM rfl|exact⟨⟩|apply nM|apply fM)
  all_goals((try apply vM);(try simp only[vq]at*);try omega)
  all_goals(try rw[hm]at hq)
  all_goals(try rw[hm])
  ·have:(o.any fun y=>decide (s.cd y.toNat=[]))=true:=ako.2 ⟨_,dx hlt,by rw[decide_eq_true_eq];exact hz.1 hq⟩
   rw[this,aks];all_goals(refine Sup.via ?_;repeat'((conv=>whnf);first|intro _|apply aI|with_reducible exact vM rfl|exact⟨⟩|apply nM|apply fM);all_goals((try apply vM);(try simp only[vq]at*);try omega);all_goals(try(simp[CL.sub];done)))
  all_goals(have h1:=hne (fun h0=>hq (hz.2 h0));have q1:=LV hA h1;have q2:=abp hA h1;have q3:=hA.rng _ (iT h1);have q4:=hA.rng _ (lZ h1))
  all_goals(try(first|omega|(rw[hm];omega)))
  refine⟨i+1,[],⟨⟨by omega,fun z hz2=>?_⟩,by omega⟩,?_⟩
  ·rw[t1]at hz2
   rcases ah0.1 hz2 with h2|h2
   ·exact hok z h2
   ·rw[akx.1 h2];exact fun h0=>hq (hz.2 h0)
  ·rw[e1,e2]
   repeat'((conv=>whnf);first|intro _|apply aI|with_reducible exact vM rfl|exact⟨⟩|apply nM|apply fM)
   all_goals((try apply vM);(try simp only[vq]at*);try omega)
   all_goals(try rw[hm])
   all_goals(try omega)
 ·have:i=o.length:=by omega
  subst this;rw[ajS]at*;have hn:(o.any fun y=>decide (s.cd y.toNat=[]))=false:=by
   rw[akp];intro z hz h0;exact hok z hz (of_decide_eq_true h0)
  rw[hn,akr]
  repeat'((conv=>whnf);first|refine Exists.intro (s) ?_|(intro hq;(try simp only[vw]at hq);try first|exact absurd hq (by decide)|exfalso;omega)|apply aI|with_reducible exact vM rfl|exact⟨⟩|apply nM|apply fM)
  all_goals((try apply vM);(try simp only[vq]at*);try omega)
  all_goals(try omega)
  ·rename_i h9
   rw[decide_eq_false hq,akr];exact Sup.of rfl
  ·rw[decide_eq_true hq,aks];all_goals(refine Sup.via ?_;repeat'((conv=>whnf);first|intro _|apply aI|with_reducible exact vM rfl|exact⟨⟩|apply nM|apply fM);all_goals((try apply vM);(try simp only[vq]at*);try omega);all_goals(try(simp[CL.sub];done)))
def oH (f:St→Int→List Int→Int→Int→Bool):PSp:=fun xs K=>match xs with
 | [.ip (.pv [.int .i64 c,.isl (.rows .i64 ls) .none,.int .i64 sum,.isl (.ints .i64 gv) .none,.isl (.ints .u32 M) .none,.isl (.bools D) .none]) 0,.agg [.str r,.int .i64 y,.int .i64 x,.int .i64 k]]=>∃s:St,VC (M=ms s.cs∧D=s.ds∧aR c ls sum s∧(0≤k∧k<ls.length)∧(0≤y∧y<c)∧1≤x∧x≤c)∧K (.bp (f s sum (ls.getD k.toNat []) y x))
 |_=>False
def sP (f:St→Int→Int→Bool):PSp:=fun xs K=>match xs with
 | [.ip (.pv [.int .i64 c,.isl (.rows .i64 ls) .none,.int .i64 sum,.isl (.ints .i64 gv) .none,.isl (.ints .u32 M) .none,.isl (.bools D) .none]) 0,.agg [.str r,.int .i64 y,.int .i64 x,.int .i64 k]]=>∃s:St,VC (M=ms s.cs∧D=s.ds∧aR c ls sum s∧(0≤y∧y<c)∧1≤x∧x≤c)∧K (.bp (f s y x))
 |_=>False
theorem zJ {g:Nat} {f:St→Int→List Int→Int→Int→Bool} (hf:∀(c:Int) (ls:List (List Int)) (sum:Int) (gv:List Int) (s:St) (h:aR c ls sum s) (r:ByteArray) (y x k:Int) (hk:0≤k∧k<ls.length) (hy:0≤y∧y<c) (hx:1≤x∧x≤c),aF Tryz.prog g [bdV c ls sum gv s,ddV r y x k] (.bp (f s sum (ls.getD k.toNat []) y x))):POK Tryz.prog g (oH f):=by
 intro xs K hk;unfold oH at hk;split at hk
 ·obtain⟨s,⟨rfl,rfl,h,h1,h2,h3⟩,hk⟩:=hk
  exact⟨_,hk,hf _ _ _ _ s h _ _ _ _ h1 h2 h3⟩
 ·exact hk.elim
theorem Ik {g:Nat} {f:St→Int→Int→Bool} (hf:∀(c:Int) (ls:List (List Int)) (sum:Int) (gv:List Int) (s:St) (h:aR c ls sum s) (r:ByteArray) (y x k:Int) (hy:0≤y∧y<c) (hx:1≤x∧x≤c),aF Tryz.prog g [bdV c ls sum gv s,ddV r y x k] (.bp (f s y x))):POK Tryz.prog g (sP f):=by
 intro xs K hk;unfold sP at hk;split at hk
 ·obtain⟨s,⟨rfl,rfl,h,h2,h3⟩,hk⟩:=hk
  exact⟨_,hk,hf _ _ _ _ s h _ _ _ _ h2 h3⟩
 ·exact hk.elim
theorem abq:POK Tryz.prog 172 (oH uS):=zJ fun c ls sum gv s h r y x k hk hy hx=>Sc c ls sum gv s h r y x k hk
theorem abr:POK Tryz.prog 173 (sP fun s y x=>uT s y):=Ik fun c ls sum gv s h r y x k hy hx=>Sd c ls sum gv s h r y x k hy
theorem VG:POK Tryz.prog 174 (sP oP):=Ik fun c ls sum gv s h r y x k hy hx=>Pj c ls sum gv s h r y x k hx
theorem Pk:POK Tryz.prog 175 (oH oQ):=zJ fun c ls sum gv s h r y x k hk hy hx=>Ij c ls sum gv s h r y x k hk hx
abbrev YZ:PV:=.fn (.func 212) [] [.rp 0 0,.rp 1 0,.rp 2 0]
abbrev aeB (c:Int) (ls:List (List Int)) (sum:Int) (gv:List Int) (s:St) (o:List Int):List AO:=[.cells (.pv [.isl (.ints .i64 o) .none]) false,.cells (.pv [bdV c ls sum gv s]) false,.cells (.pv [YZ]) false]
structure Y0 (c:Int) (ls:List (List Int)) (sum:Int) (s:St) (o:List Int) (a:Nat) (used:List Int) (R:Int):Prop where
 bd:aR c ls sum s
 rng:∀z∈o,0≤z∧z<c
 le:a≤o.length∧o.length≤16
 us:InM used
 bnd: -2000000000+16*((o.length:Int)-a)≤R∧R≤2000000000
def Dg (c:Int) (ls:List (List Int)) (sum:Int) (gv:List Int) (s:St) (o:List Int) (a0:Nat):LSp:=fun xs objs K=>match xs,objs with
 | [.int .i64 a,.int .u32 m,.int .i64 R,.rp 0 0,.rp 1 0,.rp 2 0],[.cells (.pv [.isl (.ints .i64 o') .none]) false,.cells (.pv [p]) false,.cells (.pv [f]) false]=>
  ∃used:List Int,VC (a=(a0:Int)∧m=(mk used:Nat)∧o'=o∧p=bdV c ls sum gv s∧f=YZ∧Y0 c ls sum s o a0 used R)∧K [.bp (chs s (o.drop a0) used R)] [.cells (.pv [.isl (.ints .i64 o') .none]) false,.cells (.pv [p]) false,.cells (.pv [f]) false]
 |_,_=>False
noncomputable def afU (L:LSp):CPT:=aA 149 (aB Bq) (aA 212 (eO [] L) noC)
theorem Si (c:Int) (ls:List (List Int)) (sum:Int) (gv:List Int) (s:St) (o:List Int):∀(d a:Nat) (used:List Int) (R:Int),o.length-a=d→Y0 c ls sum s o a used R→
 jm Tryz.prog 212 [.int .i64 (a:Int),.int .u32 (mk used:Nat),.int .i64 R,.rp 0 0,.rp 1 0,.rp 2 0] (aeB c ls sum gv s o) [.bp (chs s (o.drop a) used R)] (aeB c ls sum gv s o):=by
 intro d;induction d with
 |zero=>
  intro a used R hd h;have hle:=h.le;have:a=o.length:=by omega
  subst this;rw[akq];refine bL (md:=1) (rf:=[]) mixed au aC 3 [] Tryz.func212 (by rfl) (by rfl) (by rfl) ?_
  repeat'((conv=>whnf);first|(intro hq;(try simp only[vw]at hq);try first|exact absurd hq (by decide)|exfalso;omega)|apply aI|with_reducible exact vM rfl|exact⟨⟩|apply nM|apply fM)
  all_goals((try apply vM);(try simp only[vq]at*);try omega)
 |succ d ih=>
  intro a used R hd h;have hle:=h.le;have hlt:a<o.length:=by omega
  have hL:LOK Tryz.prog 212 (Dg c ls sum gv s o (a+1)):=by
   intro xs objs K hk;unfold Dg at hk;split at hk
   ·obtain⟨u,⟨rfl,rfl,rfl,rfl,rfl,h1⟩,hk⟩:=hk
    exact⟨_,_,hk,ih (a+1) u _ (by omega) h1⟩
   ·exact hk.elim
  have hcp:aW Tryz.prog (afU (Dg c ls sum gv s o (a+1))):=aj (ak Da) (aj (dG [] hL) aC);have hbd:=h.bnd;have hy:=h.rng _ (dx hlt);have hxs:=h.bd.at hy;have hm:(ms s.cs).getD (o.getD a 0).toNat 0=(mk (s.cd (o.getD a 0).toNat):Nat):=gq hxs.1;have hA:=(h.bd.asc _ hxs.1).1;have hlen:=dW s.cs;obtain⟨C,hC⟩:∃C,(s.cd (o.getD a 0).toNat).filter (fun x=>!decide (x∈used))=C:=⟨_,rfl⟩;have hCA:Asc C:=by rw[←hC];exact hA.filter _
  have hnot:=Rz hA.inM h.us;rw[hC]at hnot;have hch:chs s (o.drop a) used R=C.any fun x=>chs s (o.drop (a+1)) (used++[x]) (R-x):=by rw[drop_cons hlt,chs,hC]
  rw[hch];refine bL (md:=1) (rf:=[]) mixed au hcp 3 [] Tryz.func212 (by rfl) (by rfl) (by rfl) ?_
  repeat'((conv=>whnf);first|(intro hq;(try simp only[vw]at hq);try first|exact absurd hq (by decide)|exfalso;omega)|apply aI|with_reducible exact vM rfl|exact⟨⟩|apply nM|apply fM)
  all_goals((try apply vM);(try simp only[vq]at*);try omega)
  all_goals(try omega)
  rw[hm,hnot];conv=>whnf
  refine jo aK mixed au hcp (fun r=>aP) (fs:=[]) (cs:=[.ip (.pv [.int .u32 (mk C:Nat)]) 0]) (C.map (PV.int .i64)) (fun i=>!chs s (o.drop (a+1)) (used++[C.getD i 0]) (R-C.getD i 0)) (fun i=>[]) (by rfl) (by rfl) (by rfl) (kC C hCA) (by rfl) (by rfl) (by rfl) (by rfl) ?_ ?_ ?_
  ·repeat'((conv=>whnf);first|intro _|apply aI|with_reducible exact vM rfl|exact⟨⟩|apply nM|apply fM)
   all_goals((try apply vM);(try simp only[vq]at*);try omega)
  ·intro hall
   repeat'((conv=>whnf);first|intro _|apply aI|with_reducible exact vM rfl|exact⟨⟩|apply nM|apply fM)
   all_goals((try apply vM);(try simp only[vq]at*);try omega)
   rw[eq_comm,akp];intro x hx h1;obtain⟨i,hi,rfl⟩:=(bG C x).1 hx;have:=hall i (by rw[ajO];exact hi)
   rw[h1]at this;cases this
  ·intro i x hx hall lp
   obtain⟨hi,rfl⟩:=pV hx;have hxC:=dx hi;have hxr:=hCA.rng _ hxC;have hor:=OH h.us (show 0≤C.getD i 0∧C.getD i 0≤31 by omega)
   have hus:InM (used++[C.getD i 0]):=fun z hz=>by
    rcases ah0.1 hz with h1|h1
    ·exact h.us z h1
    ·rw[akx.1 h1];omega
   have hsb:=lu (C.getD i 0).toNat (by omega)
   repeat'((conv=>whnf);first|refine Exists.intro (used++[C.getD i 0]) ?_|(intro hq;(try simp only[vw]at hq);try first|exact absurd hq (by decide)|exfalso;omega)|apply aI|with_reducible exact vM rfl|exact⟨⟩|apply nM|apply fM)
   all_goals((try apply vM);(try simp only[vq]at*);try omega)
   all_goals(try omega)
   ·exact⟨by omega,hor,h.bd,h.rng,by omega,hus,by omega⟩
   ·rw[hq];rfl
   ·symm
    rw[ako];exact⟨_,hxC,hq⟩
   ·refine⟨[],?_⟩
    repeat'((conv=>whnf);first|intro _|apply aI|with_reducible exact vM rfl|exact⟨⟩|apply nM|apply fM)
    all_goals((try apply vM);(try simp only[vq]at*);try omega)
    all_goals(try(rw[hq];rfl))
theorem aeC (c:Int) (ls:List (List Int)) (sum:Int) (gv:List Int) (s:St) (o:List Int) (a:Nat):LOK Tryz.prog 212 (Dg c ls sum gv s o a):=by
 intro xs objs K hk;unfold Dg at hk;split at hk
 ·obtain⟨u,⟨rfl,rfl,rfl,rfl,rfl,h1⟩,hk⟩:=hk
  exact⟨_,_,hk,Si _ _ _ _ _ _ _ _ u _ rfl h1⟩
 ·exact hk.elim
theorem BA (c:Int) (ls:List (List Int)) (sum:Int) (gv:List Int) (s:St) (h:aR c ls sum s) (r:ByteArray) (y x k:Int) (hk:0≤k∧k<ls.length) (hx:1≤x∧x≤c):
 aF Tryz.prog 176 [bdV c ls sum gv s,ddV r y x k] (.bp (rZ s sum (ls.getD k.toNat []) y x)):=by
 have hln:=h.ln k.toNat (by omega)
 have hll:=hln.len;have hsm:=h.sm;have hc:=h.c1;have hRb:=HV h hln.rng _ (ahO _);rw[ajS]at hRb;have ho:∀z∈(opn s (ls.getD k.toNat []) y),0≤z∧z<c:=fun z hz=>hln.rng z (LW hz);have hol:(opn s (ls.getD k.toNat []) y).length≤16:=ajC (aky _ _) hll;have hone:(1:Int)*2 ^ x.toNat=((mk [x]:Nat):Int):=by rw[mk_one,ajY];norm_cast
 have hsb:=lu x.toNat (by omega)
 have hcp:aW Tryz.prog (aA 151 (aB Bz) (aA 212 (eO [] (Dg c ls sum gv s (opn s (ls.getD k.toNat []) y) 0)) noC)):=aj (ak Df) (aj (dG [] (aeC c ls sum gv s (opn s (ls.getD k.toNat []) y) 0)) aC);unfold rZ;refine av (md:=1) (rf:=[20]) mixed au hcp Tryz.func176 (by rfl) (by rfl) (by rfl) ?_
 repeat'((conv=>whnf);first|refine Exists.intro (s) ?_|(intro hq;(try simp only[vw]at hq);try first|exact absurd hq (by decide)|exfalso;omega)|apply aI|with_reducible exact vM rfl|exact⟨⟩|apply nM|apply fM)
 all_goals((try apply vM);(try simp only[vq]at*);try omega)
 ·exact⟨h,hk⟩
 ·rw[decide_eq_false (p:=(opn s (ls.getD k.toNat []) y).length<4) (by omega),aj9];all_goals(refine Sup.via ?_;repeat'((conv=>whnf);first|intro _|apply aI|with_reducible exact vM rfl|exact⟨⟩|apply nM|apply fM);all_goals((try apply vM);(try simp only[vq]at*);try omega);all_goals(try(simp[CL.sub];done)))
 all_goals(try omega)
 repeat'((conv=>whnf);first|refine Exists.intro ([x]) ?_|(intro hq;(try simp only[vw]at hq);try first|exact absurd hq (by decide)|exfalso;omega)|apply aI|with_reducible exact vM rfl|exact⟨⟩|apply nM|apply fM)
 all_goals((try apply vM);(try simp only[vq]at*);try omega)
 ·refine⟨rfl,hone,h,ho,by omega,fun z hz=>?_,by omega⟩
  rw[akx.1 hz];omega
 ·rw[decide_eq_true (p:=(opn s (ls.getD k.toNat []) y).length<4) (by omega),akz];exact Sup.of rfl
theorem Fh:POK Tryz.prog 176 (oH rZ):=zJ fun c ls sum gv s h r y x k hk hy hx=>BA c ls sum gv s h r y x k hk hx
theorem fO (b:Bool):Sup (bI [PV.bool b]) (PV.bp b):=⟨fun h=>by cases h;exact .bp _ _⟩
noncomputable def agT:CPT:=aA 150 (aB OV) (aA 151 (aB Bz) noC)
theorem Dh:aW Tryz.prog agT:=aj (ak aa8) (aj (ak Df) aC)
theorem Sj (cs:List (List Int)) (i:Nat) (hi:i<cs.length):(cs.take (i+1)).flatten=(cs.take i).flatten++cs.getD i []:=by
 have e:cs.take (i+1)=cs.take i++[cs.getD i []]:=by rw[ajQ,ahZ,ah4 hi];rfl
 rw[e,List.flatten_append];simp
theorem zK {c:Int} (hc:1≤c∧c≤16):(1:Int)*2 ^ (c+1).toNat-2=(mk ((ahX c.toNat).map fun i:Nat=>(i:Int)+1):Nat):=by
 obtain rfl|rfl|rfl|rfl|rfl|rfl|rfl|rfl|rfl|rfl|rfl|rfl|rfl|rfl|rfl|rfl:c=1∨c=2∨c=3∨c=4∨c=5∨c=6∨c=7∨c=8∨c=9∨c=10∨c=11∨c=12∨c=13∨c=14∨c=15∨c=16:=by omega
 all_goals decide
theorem abt {c:Int} {ls:List (List Int)} {sum:Int} {s:St} (h:aR c ls sum s):((ahX c.toNat).all fun i=>s.cs.any fun l=>decide (((i:Int)+1)∈l))=decide ((mk s.cs.flatten:Int)=1*2 ^ (c+1).toNat-2):=by
 have hc:=h.c1;have hfl:∀x∈s.cs.flatten,1≤x∧x≤c:=fun x hx=>by
  obtain⟨l,hl,hx⟩:=akA.1 hx;obtain⟨j,hj,rfl⟩:=ah3 hl;have h1:=h.asc j hj;have e:s.cd j=s.cs[j]:=by unfold St.cd;rw[ahZ,ah4 hj];rfl
  rw[e]at h1;exact⟨(h1.1.rng x hx).1,h1.2 x hx⟩
 have hR:∀x,x∈(ahX c.toNat).map (fun i:Nat=>(i:Int)+1)↔1≤x∧x≤c:=fun x=>by
  rw[List.mem_map];constructor
  ·rintro⟨i,hi,rfl⟩;have:=ajF.1 hi;omega
  ·intro hx;exact⟨(x-1).toNat,ajF.2 (by omega),by omega⟩
 rw[zK hc,ajU,ajp,decide_eq_true_eq,Int.natCast_inj];constructor
 ·intro hA
  refine aer (fun x hx=>by have:=hfl x hx;omega) (fun x hx=>by have:=(hR x).1 hx;omega) fun x=>?_
  rw[hR];refine⟨hfl x,fun hx=>?_⟩;have:=hA (x-1).toNat (ajF.2 (by omega))
  obtain⟨l,hl,hm⟩:=ako.1 this;rw[decide_eq_true_eq,show(((x-1).toNat:Nat):Int)+1=x by omega]at hm
  exact akA.2 ⟨l,hl,hm⟩
 ·intro hE i hi
  have hi:=ajF.1 hi;have:=(mk_inj (fun x hx=>by have:=hfl x hx;omega) (fun x hx=>by have:=(hR x).1 hx;omega) hE ((i:Int)+1)).2 ((hR _).2 (by omega))
  obtain⟨l,hl,hm⟩:=akA.1 this;exact ako.2 ⟨l,hl,decide_eq_true hm⟩
theorem abu {c:Int} {ls:List (List Int)} {sum:Int} {s:St} (h:aR c ls sum s):((ms s.cs).any fun y=>decide (0=y))=s.cs.any fun l=>decide (l=[]):=by
 unfold ms;rw[List.any_map,ajU,ako,ako];have hA:∀l∈s.cs,Asc l:=fun l hl=>by
  obtain⟨j,hj,rfl⟩:=ah3 hl;have h1:=(h.asc j hj).1;unfold St.cd at h1;rw[ahZ,ah4 hj]at h1;exact h1
 constructor
 ·rintro⟨l,hl,h1⟩
  simp only[Function.comp,decide_eq_true_eq]at h1;exact⟨l,hl,decide_eq_true ((mk_zero (hA l hl).inM).1 (by omega))⟩
 ·rintro⟨l,hl,h1⟩
  refine⟨l,hl,?_⟩;simp only[Function.comp,decide_eq_true_eq]at h1⊢;have:=(mk_zero (hA l hl).inM).2 h1;omega
def lbk (sum:Int) (s:St) (l:List Int):Bool:=decide ((opn s l (-1)).length=0)&&decide (rst s sum l≠0)
theorem KG (c:Int) (ls:List (List Int)) (sum:Int) (gv:List Int) (s:St) (h:aR c ls sum s):aF Tryz.prog 90 [bdV c ls sum gv s] (.bp (brk c ls sum s)):=by
 have hc:=h.c1;have hcl:=h.cl;have hlen:=dW s.cs;have hll:=h.ll;have hsb:=lu (c+1).toNat (by omega)
 have ham:=zK hc;have hin:∀i,i≤s.cs.length→InM (s.cs.take i).flatten:=fun i hi x hx=>by
  obtain⟨l,hl,hx⟩:=akA.1 hx;obtain⟨j,hj,rfl⟩:=ah3 (ajG hl);have:=(h.asc j hj).1.rng x (by unfold St.cd;rw[ahZ,ah4 hj];exact hx)
  omega
 refine av (md:=1) (rf:=[]) mixed au Dh Tryz.func90 (by rfl) (by rfl) (by rfl) ?_
 repeat'((conv=>whnf);first|refine Exists.intro (s) ?_|(intro hq;(try simp only[vw]at hq);try first|exact absurd hq (by decide)|exfalso;omega)|apply aI|with_reducible exact vM rfl|exact⟨⟩|apply nM|apply fM)
 all_goals((try apply vM);(try simp only[vq]at*);try omega)
 conv=>whnf
 refine aM (X:=Nat) (fun i=>i≤s.cs.length) (fun i=>[(14,.int .i64 i),(3,.int .u32 (mk (s.cs.take i).flatten:Nat))]) (fun i=>[]) (fun i=>s.cs.length-i) 0 ⟨aK,mixed,au,Dh,aP⟩ (by rfl) (by omega) ?_ ?_
 ·repeat'((conv=>whnf);first|intro _|apply aI|with_reducible exact vM rfl|exact⟨⟩|apply nM|apply fM)
  all_goals((try apply vM);(try simp only[vq]at*);try omega)
  all_goals rfl
 intro i hi;by_cases hlt:i<s.cs.length
 ·have hm:(ms s.cs).getD i 0=(mk (s.cd i):Nat):=gq hlt
  have hA:=(h.asc _ hlt).1;have hor:=aeu (hin i hi) hA.inM;have e1:=Sj s.cs i hlt
  repeat'((conv=>whnf);first|refine Exists.intro (s) ?_|(intro hq;(try simp only[vw]at hq);try first|exact absurd hq (by decide)|exfalso;omega)|apply aI|with_reducible exact vM rfl|exact⟨⟩|apply nM|apply fM)
  all_goals((try apply vM);(try simp only[vq]at*);try omega)
  refine⟨i+1,[],⟨by omega,by omega⟩,?_⟩
  rw[e1]
  repeat'((conv=>whnf);first|intro _|apply aI|with_reducible exact vM rfl|exact⟨⟩|apply nM|apply fM)
  all_goals((try apply vM);(try simp only[vq]at*);try omega)
  all_goals(rw[hm];exact hor)
 ·have:i=s.cs.length:=by omega
  subst this;rw[ajS];have a1:=abt h;have a2:=abu h
  repeat'((conv=>whnf);first|refine Exists.intro (s) ?_|(intro hq;(try simp only[vw]at hq);try first|exact absurd hq (by decide)|exfalso;omega)|apply aI|with_reducible exact vM rfl|exact⟨⟩|apply nM|apply fM)
  all_goals((try apply vM);(try simp only[vq]at*);try omega)
  all_goals(try omega)
  ·rename_i h1
   rw[decide_eq_true (aiK.1 h1)]at a1;rw[hq]at a2;have hb:brk c ls sum s=true:=by unfold brk;rw[a1,←a2];rfl
   rw[hb];exact fO _
  ·rename_i h1
   rw[decide_eq_true (aiK.1 h1)]at a1;rw[hq]at a2;have hb:brk c ls sum s=ls.any (lbk sum s):=by
    unfold brk;rw[a1,←a2];rfl
   rw[hb];conv=>whnf
   refine aM (X:=Nat) (fun i=>i≤ls.length∧∀j,j<i→lbk sum s (ls.getD j [])=false) (fun i=>[(47,.int .i64 i)]) (fun i=>[]) (fun i=>ls.length-i) 0 ⟨aK,mixed,au,Dh,aP⟩ (by rfl) ⟨by omega,fun j hj=>by omega⟩ ?_ ?_
   ·repeat'((conv=>whnf);first|intro _|apply aI|with_reducible exact vM rfl|exact⟨⟩|apply nM|apply fM)
    all_goals((try apply vM);(try simp only[vq]at*);try omega)
   intro i ⟨hi,hok⟩;have nxt:lbk sum s (ls.getD i [])=false→∀j,j<i+1→lbk sum s (ls.getD j [])=false:=fun a j hj=>by
    by_cases e:j=i
    ·subst e;exact a
    ·exact hok j (by omega)
   by_cases hlt:i<ls.length
   ·repeat'((conv=>whnf);first|refine Exists.intro (s) ?_|(intro hq;(try simp only[vw]at hq);try first|exact absurd hq (by decide)|exfalso;omega)|apply aI|with_reducible exact vM rfl|exact⟨⟩|apply nM|apply fM)
    all_goals((try apply vM);(try simp only[vq]at*);try omega)
    ·exact⟨h,by omega,by omega⟩
    ·rename_i h2
     have:ls.any (lbk sum s)=true:=ako.2 ⟨_,l5 hlt,by unfold lbk;rw[decide_eq_true (p:=(opn s (ls.getD i []) (-1)).length=0) (by omega),decide_eq_true hq];rfl⟩
     rw[this];exact fO _
    ·refine⟨i+1,[],⟨⟨by omega,nxt (by unfold lbk;rw[decide_eq_false hq,aj3])⟩,by omega⟩,?_⟩
     repeat'((conv=>whnf);first|intro _|apply aI|with_reducible exact vM rfl|exact⟨⟩|apply nM|apply fM)
     all_goals((try apply vM);(try simp only[vq]at*);try omega)
    ·refine⟨i+1,[],⟨⟨by omega,nxt (by unfold lbk;rw[decide_eq_false (p:=(opn s (ls.getD i []) (-1)).length=0) (by omega),aj9])⟩,by omega⟩,?_⟩
     repeat'((conv=>whnf);first|intro _|apply aI|with_reducible exact vM rfl|exact⟨⟩|apply nM|apply fM)
     all_goals((try apply vM);(try simp only[vq]at*);try omega)
   ·have:i=ls.length:=by omega
    subst this;have:ls.any (lbk sum s)=false:=by
     rw[akp];intro l hl;obtain⟨j,hj,rfl⟩:=ah3 hl;have:=hok j hj;rw[ahZ,ah4 hj]at this;rw[show lbk sum s ls[j]=false from this];simp
    rw[this]
    repeat'((conv=>whnf);first|refine Exists.intro (s) ?_|(intro hq;(try simp only[vw]at hq);try first|exact absurd hq (by decide)|exfalso;omega)|apply aI|with_reducible exact vM rfl|exact⟨⟩|apply nM|apply fM)
    all_goals((try apply vM);(try simp only[vq]at*);try omega)
    exact fO _
  ·rw[decide_eq_false hq]at a1
   have hb:brk c ls sum s=true:=by unfold brk;rw[a1];rfl
   rw[hb];exact fO _
def rM (f:Int→List (List Int)→Int→St→Bool):PSp:=fun xs K=>match xs with
 | [.ip (.pv [.int .i64 c,.isl (.rows .i64 ls) .none,.int .i64 sum,.isl (.ints .i64 gv) .none,.isl (.ints .u32 M) .none,.isl (.bools D) .none]) 0]=>∃s:St,VC (M=ms s.cs∧D=s.ds∧aR c ls sum s)∧K (.bp (f c ls sum s))
 |_=>False
theorem LY {g:Nat} {f:Int→List (List Int)→Int→St→Bool} (hf:∀(c:Int) (ls:List (List Int)) (sum:Int) (gv:List Int) (s:St) (h:aR c ls sum s),aF Tryz.prog g [bdV c ls sum gv s] (.bp (f c ls sum s))):POK Tryz.prog g (rM f):=by
 intro xs K hk;unfold rM at hk;split at hk
 ·obtain⟨s,⟨rfl,rfl,h⟩,hk⟩:=hk
  exact⟨_,hk,hf _ _ _ _ s h⟩
 ·exact hk.elim
theorem EC:POK Tryz.prog 90 (rM brk):=LY fun c ls sum gv s h=>KG c ls sum gv s h
noncomputable def agU:CPT:=aA 152 (aB OP) noC
theorem abv:aW Tryz.prog agU:=aj (ak aa3) aC
theorem Sk (c:Int) (ls:List (List Int)) (sum:Int) (gv:List Int) (s:St) (h:aR c ls sum s):aF Tryz.prog 91 [bdV c ls sum gv s] (.bp (don s)):=by
 have hc:=h.c1;have hdl:=h.dl;unfold don;refine av (md:=1) (rf:=[]) mixed au abv Tryz.func91 (by rfl) (by rfl) (by rfl) ?_
 repeat'((conv=>whnf);first|refine Exists.intro (s) ?_|(intro hq;(try simp only[vw]at hq);try first|exact absurd hq (by decide)|exfalso;omega)|apply aI|with_reducible exact vM rfl|exact⟨⟩|apply nM|apply fM)
 all_goals((try apply vM);(try simp only[vq]at*);try omega)
 exact Sup.of (congrArg (fun f=>PV.bp (!s.ds.any f)) (funext fun b=>by cases b<;>rfl))
theorem LZ:POK Tryz.prog 91 (rM fun _ _ _ s=>don s):=LY fun c ls sum gv s h=>Sk c ls sum gv s h
theorem Sl (l:List Bool) (hl:1≤l.length∧l.length≤1000000):aF Tryz.prog 147 [.isl (.bools l) .none] (.isl (.bools l) .none):=by
 refine av (md:=1) (rf:=[]) mixed au aC Tryz.func147 (by rfl) (by rfl) (by rfl) ?_
 repeat'((conv=>whnf);first|intro _|apply aI|with_reducible exact vM rfl|exact⟨⟩|apply nM|apply fM)
 all_goals((try apply vM);(try simp only[vq]at*);try omega)
 all_goals first|(simp;omega)|exact Sup.of rfl
def Pn:PSp:=fun xs K=>match xs with
 | [.isl (.bools l) .none]=>VC (1≤l.length∧l.length≤1000000)∧K (.isl (.bools l) .none)
 |_=>False
theorem abw:POK Tryz.prog 147 Pn:=by
 intro xs K h;unfold Pn at h;split at h
 ·exact⟨_,h.2,Sl _ h.1.get⟩
 ·exact h.elim
noncomputable def agV:CPT:=aA 147 (aB Pn) (aA 148 (aB OT) (aA 149 (aB Bq) noC))
theorem L6:aW Tryz.prog agV:=aj (ak abw) (aj (ak aa5) (aj (ak Da) aC))
abbrev stV (s:St):PV:=.agg [.isl (.rows .i64 s.cs) .none,.isl (.bools s.ds) .none]
theorem Po (c:Int) (ls:List (List Int)) (sum:Int) (gv:List Int) (s:St) (h:aR c ls sum s):aF Tryz.prog 87 [bdV c ls sum gv s] (stV s):=by
 have hc:=h.c1;have hcl:=h.cl;have hdl:=h.dl;have hlen:=dW s.cs;refine av (md:=1) (rf:=[]) mixed au L6 Tryz.func87 (by rfl) (by rfl) (by rfl) ?_
 repeat'((conv=>whnf);first|intro _|apply aI|with_reducible exact vM rfl|exact⟨⟩|apply nM|apply fM)
 all_goals((try apply vM);(try simp only[vq]at*);try omega)
 conv=>whnf
 refine aM (X:=Nat) (fun i=>i≤s.cs.length) (fun i=>[(17,.int .i64 i)]) (fun i=>[(5,.cells (.pv [.isl (.rows .i64 (s.cs.take i)) (.own 9),.isl (.bools s.ds) .none]) false),(9,.tok 1 i)]) (fun i=>s.cs.length-i) 0 ⟨aK,mixed,au,L6,aP⟩ (by rfl) (by omega) ?_ ?_
 ·repeat'((conv=>whnf);first|intro _|apply aI|with_reducible exact vM rfl|exact⟨⟩|apply nM|apply fM)
  all_goals((try apply vM);(try simp only[vq]at*);try omega)
 intro i hi;by_cases hlt:i<s.cs.length
 ·have hm:(ms s.cs).getD i 0=(mk (s.cd i):Nat):=gq hlt
  have hA:=(h.asc _ hlt).1;have e1:(s.cs.take i).length=i:=by rw[aiG];omega
  have e2:s.cs.take i++[s.cd i]=s.cs.take (i+1):=by
   unfold St.cd;rw[ajQ,ahZ,ah4 hlt];rfl
  repeat'((conv=>whnf);first|refine Exists.intro (s.cd i) ?_|(intro hq;(try simp only[vw]at hq);try first|exact absurd hq (by decide)|exfalso;omega)|apply aI|with_reducible exact vM rfl|exact⟨⟩|apply nM|apply fM)
  all_goals((try apply vM);(try simp only[vq]at*);try omega)
  all_goals(try(simp only[ai7,aiG,ahK,ahG];omega))
  ·exact⟨hm,hA⟩
  refine⟨i+1,[],⟨by omega,by omega⟩,?_⟩
  repeat'((conv=>whnf);first|intro _|apply aI|with_reducible exact vM rfl|exact⟨⟩|apply nM|apply fM)
  all_goals((try apply vM);(try simp only[vq]at*);try omega)
  all_goals(try(rw[e2]))
 ·have:i=s.cs.length:=by omega
  subst this;rw[ajS]
  repeat'((conv=>whnf);first|intro _|apply aI|with_reducible exact vM rfl|exact⟨⟩|apply nM|apply fM)
  all_goals((try apply vM);(try simp only[vq]at*);try omega)
  exact Sup.of rfl
def Il:PSp:=fun xs K=>match xs with
 | [.ip (.pv [.int .i64 c,.isl (.rows .i64 ls) .none,.int .i64 sum,.isl (.ints .i64 gv) .none,.isl (.ints .u32 M) .none,.isl (.bools D) .none]) 0]=>∃s:St,VC (M=ms s.cs∧D=s.ds∧aR c ls sum s)∧K (stV s)
 |_=>False
theorem VH:POK Tryz.prog 87 Il:=by
 intro xs K hk;unfold Il at hk;split at hk
 ·obtain⟨s,⟨rfl,rfl,h⟩,hk⟩:=hk
  exact⟨_,hk,Po _ _ _ _ s h⟩
 ·exact hk.elim
abbrev uY:ByteArray:=⟨#[]⟩
abbrev bP:ByteArray:=⟨#[108,97,115,116]⟩
abbrev bX:ByteArray:=⟨#[111,110,108,121]⟩
abbrev bZ:ByteArray:=⟨#[112,108,97,99,101]⟩
abbrev bV:ByteArray:=⟨#[114,97,110,103,101]⟩
abbrev bW:ByteArray:=⟨#[99,104,111,105,99,101]⟩
abbrev kF (k:Nat):PV:=.fn (.func k) [] []
abbrev VI:PV:=.agg [.str uY,.bool false,.bool false,.nilf,.str bP,.bool true,.bool true,kF 172,.str bX,.bool true,.bool false,kF 173,.str bZ,.bool true,.bool false,kF 174,.str bV,.bool false,.bool true,kF 175,.str bW,.bool false,.bool true,kF 176]
theorem Pp:aF Tryz.prog 130 [] VI:=by
 refine av (md:=1) (rf:=[]) mixed au aC Tryz.func130 (by rfl) (by rfl) (by rfl) ?_
 repeat'((conv=>whnf);first|intro _|apply aI|with_reducible exact vM rfl|exact⟨⟩|apply nM|apply fM)
 all_goals((try apply vM);(try simp only[vq]at*);try omega)
 all_goals exact Sup.of (show(VI:PV)=_ from rfl)
def qO:PSp:=fun xs K=>match xs with
 | []=>VC (True)∧K (VI)
 |_=>False
theorem qP:POK Tryz.prog 130 qO:=by
 intro xs K h;unfold qO at h;split at h
 ·exact⟨_,h.2,Pp⟩
 ·exact h.elim
def bJ (r:ByteArray):Int:=if r=bP then 1 else if r=bX then 2 else if r=bZ then 3 else if r=bV then 4 else if r=bW then 5 else 0
noncomputable def agW:CPT:=aA 130 (aB qO) noC
theorem L8:aW Tryz.prog agW:=aj (ak qP) aC
def nmG:Nat→ByteArray
 |1=>bP
 |2=>bX
 |3=>bZ
 |4=>bV
 |5=>bW
 |_=>uY
theorem rO:bJ (nmG 1)=1∧bJ (nmG 2)=2∧bJ (nmG 3)=3∧bJ (nmG 4)=4∧bJ (nmG 5)=5:=by decide
theorem abx {r:ByteArray} (h:∀j,0<j→j<6→nmG j≠r):bJ r=0:=by
 unfold bJ;rw[if_neg (fun e=>h 1 (by omega) (by omega) e.symm),if_neg (fun e=>h 2 (by omega) (by omega) e.symm),if_neg (fun e=>h 3 (by omega) (by omega) e.symm),if_neg (fun e=>h 4 (by omega) (by omega) e.symm),if_neg (fun e=>h 5 (by omega) (by omega) e.symm)]
theorem uZ (r:ByteArray):(r=bP∧bJ r=1)∨(r=bX∧bJ r=2)∨(r=bZ∧bJ r=3)∨(r=bV∧bJ r=4)∨(r=bW∧bJ r=5)∨bJ r=0:=by
 by_cases h1:r=bP
 ·subst h1;exact .inl ⟨rfl,rO.1⟩
 by_cases h2:r=bX
 ·subst h2;exact .inr (.inl ⟨rfl,rO.2.1⟩)
 by_cases h3:r=bZ
 ·subst h3;exact .inr (.inr (.inl ⟨rfl,rO.2.2.1⟩))
 by_cases h4:r=bV
 ·subst h4;exact .inr (.inr (.inr (.inl ⟨rfl,rO.2.2.2.1⟩)))
 by_cases h5:r=bW
 ·subst h5;exact .inr (.inr (.inr (.inr (.inl ⟨rfl,rO.2.2.2.2⟩))))
 refine .inr (.inr (.inr (.inr (.inr ?_))));unfold bJ;rw[if_neg h1,if_neg h2,if_neg h3,if_neg h4,if_neg h5]
theorem Pq (r:ByteArray):aF Tryz.prog 101 [.str r] (.int .i64 (bJ r)):=by
 have hs:FD.size=4:=rfl;have hn:=rO;refine av (md:=1) (rf:=[]) mixed au L8 Tryz.func101 (by rfl) (by rfl) (by rfl) ?_
 repeat'((conv=>whnf);first|intro _|apply aI|with_reducible exact vM rfl|exact⟨⟩|apply nM|apply fM)
 all_goals((try apply vM);(try simp only[vq]at*);try omega)
 conv=>whnf
 refine aM (X:=Nat) (fun i=>i≤6∧∀j,0<j→j<i→nmG j≠r) (fun i=>[(6,.int .i64 i)]) (fun i=>[]) (fun i=>6-i) 0 ⟨aK,mixed,au,L8,aP⟩ (by rfl) ⟨by omega,fun j h0 hj=>by omega⟩ ?_ ?_
 ·repeat'((conv=>whnf);first|intro _|apply aI|with_reducible exact vM rfl|exact⟨⟩|apply nM|apply fM)
  all_goals((try apply vM);(try simp only[vq]at*);try omega)
 intro i ⟨hi,hok⟩;obtain rfl|rfl|rfl|rfl|rfl|rfl|rfl:i=0∨i=1∨i=2∨i=3∨i=4∨i=5∨i=6:=by omega
 ·repeat'((conv=>whnf);first|(intro hq;(try simp only[vw]at hq);try first|exact absurd hq (by decide)|exfalso;omega)|apply aI|with_reducible exact vM rfl|exact⟨⟩|apply nM|apply fM)
  all_goals((try apply vM);(try simp only[vq]at*);try omega)
  all_goals(try omega)
  refine⟨0+1,[],⟨⟨by omega,fun j h0 hj=>by omega⟩,by omega⟩,?_⟩
  repeat'((conv=>whnf);first|intro _|apply aI|with_reducible exact vM rfl|exact⟨⟩|apply nM|apply fM)
  all_goals((try apply vM);(try simp only[vq]at*);try omega)
 ·repeat'((conv=>whnf);first|(intro hq;(try simp only[vw]at hq);try first|exact absurd hq (by decide)|exfalso;omega)|apply aI|with_reducible exact vM rfl|exact⟨⟩|apply nM|apply fM)
  all_goals((try apply vM);(try simp only[vq]at*);try omega)
  all_goals(try omega)
  ·subst hq
   refine Sup.of (congrArg (PV.int .i64) ?_);exact(hn.1:bJ (nmG 1)=1).symm
  refine⟨1+1,[],⟨⟨by omega,fun j h0 hj=>?_⟩,by omega⟩,?_⟩
  ·by_cases e:j=1
   ·subst e;exact hq
   ·exact hok j h0 (by omega)
  repeat'((conv=>whnf);first|intro _|apply aI|with_reducible exact vM rfl|exact⟨⟩|apply nM|apply fM)
  all_goals((try apply vM);(try simp only[vq]at*);try omega)
 ·repeat'((conv=>whnf);first|(intro hq;(try simp only[vw]at hq);try first|exact absurd hq (by decide)|exfalso;omega)|apply aI|with_reducible exact vM rfl|exact⟨⟩|apply nM|apply fM)
  all_goals((try apply vM);(try simp only[vq]at*);try omega)
  all_goals(try omega)
  ·subst hq
   refine Sup.of (congrArg (PV.int .i64) ?_);exact(hn.2.1:bJ (nmG 2)=2).symm
  refine⟨2+1,[],⟨⟨by omega,fun j h0 hj=>?_⟩,by omega⟩,?_⟩
  ·by_cases e:j=2
   ·subst e;exact hq
   ·exact hok j h0 (by omega)
  repeat'((conv=>whnf);first|intro _|apply aI|with_reducible exact vM rfl|exact⟨⟩|apply nM|apply fM)
  all_goals((try apply vM);(try simp only[vq]at*);try omega)
 ·repeat'((conv=>whnf);first|(intro hq;(try simp only[vw]at hq);try first|exact absurd hq (by decide)|exfalso;omega)|apply aI|with_reducible exact vM rfl|exact⟨⟩|apply nM|apply fM)
  all_goals((try apply vM);(try simp only[vq]at*);try omega)
  all_goals(try omega)
  ·subst hq
   refine Sup.of (congrArg (PV.int .i64) ?_);exact(hn.2.2.1:bJ (nmG 3)=3).symm
  refine⟨3+1,[],⟨⟨by omega,fun j h0 hj=>?_⟩,by omega⟩,?_⟩
  ·by_cases e:j=3
   ·subst e;exact hq
   ·exact hok j h0 (by omega)
  repeat'((conv=>whnf);first|intro _|apply aI|with_reducible exact vM rfl|exact⟨⟩|apply nM|apply fM)
  all_goals((try apply vM);(try simp only[vq]at*);try omega)
 ·repeat'((conv=>whnf);first|(intro hq;(try simp only[vw]at hq);try first|exact absurd hq (by decide)|exfalso;omega)|apply aI|with_reducible exact vM rfl|exact⟨⟩|apply nM|apply fM)
  all_goals((try apply vM);(try simp only[vq]at*);try omega)
  all_goals(try omega)
  ·subst hq
   refine Sup.of (congrArg (PV.int .i64) ?_);exact(hn.2.2.2.1:bJ (nmG 4)=4).symm
  refine⟨4+1,[],⟨⟨by omega,fun j h0 hj=>?_⟩,by omega⟩,?_⟩
  ·by_cases e:j=4
   ·subst e;exact hq
   ·exact hok j h0 (by omega)
  repeat'((conv=>whnf);first|intro _|apply aI|with_reducible exact vM rfl|exact⟨⟩|apply nM|apply fM)
  all_goals((try apply vM);(try simp only[vq]at*);try omega)
 ·repeat'((conv=>whnf);first|(intro hq;(try simp only[vw]at hq);try first|exact absurd hq (by decide)|exfalso;omega)|apply aI|with_reducible exact vM rfl|exact⟨⟩|apply nM|apply fM)
  all_goals((try apply vM);(try simp only[vq]at*);try omega)
  all_goals(try omega)
  ·subst hq
   refine Sup.of (congrArg (PV.int .i64) ?_);exact(hn.2.2.2.2:bJ (nmG 5)=5).symm
  refine⟨5+1,[],⟨⟨by omega,fun j h0 hj=>?_⟩,by omega⟩,?_⟩
  ·by_cases e:j=5
   ·subst e;exact hq
   ·exact hok j h0 (by omega)
  repeat'((conv=>whnf);first|intro _|apply aI|with_reducible exact vM rfl|exact⟨⟩|apply nM|apply fM)
  all_goals((try apply vM);(try simp only[vq]at*);try omega)
 ·rw[abx hok]
  repeat'((conv=>whnf);first|(intro hq;(try simp only[vw]at hq);try first|exact absurd hq (by decide)|exfalso;omega)|apply aI|with_reducible exact vM rfl|exact⟨⟩|apply nM|apply fM)
  all_goals((try apply vM);(try simp only[vq]at*);try omega)
  exact Sup.of rfl
end Go.Eng.YtcechbdgokjmgaaGreatDoor
