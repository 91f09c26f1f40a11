/- Contracts of functions of the program: what each returns. Their conditions stand in them. -/
import Derived.ProofKit
import Derived.OpenShut
import Derived.Deep.Grids
import Derived.LaidMore
import Derived.Stop.Joined
import Derived.Stop.LaidErr
import Derived.Lib.LaidTab
import Derived.MakeChecks
import Derived.Lay
import Derived.Shelf.Small.Wraps
import Derived.Shelf.Strconv.Atoi
import Derived.Shelf.Strings.Search3
import Derived.Shelf.Strings.Count
import Derived.Shelf.Strings.Prefix
import Derived.Shelf.Strings.Split
import Derived.Shelf.Strings.OnBuilder
import Derived.Shelf.LaysM
import Derived.Shelf.Strconv.Itoa3
import Derived.Shelf.Sort.Plain
import Derived.Lib.AppendIntMem
import Derived.Lib.ItoaLen
import Derived.Lib.TrailingZeros
import Derived.Lib.BitFns
import Derived.Test.YtcechbdgokjmgaaGreatDoorCards
import Derived.Test.YtcechbdgokjmgaaGreatDoorTie
import Derived.Test.YtcechbdgokjmgaaGreatDoorProg
import Derived.Test.YtcechbdgokjmgaaGreatDoorEe
open Array renaming getD_eq_getD_getElem?→afb,getElem?_eq_none→ae5,ext→agj,length_toList→afD
open BitVec renaming ofInt→afn,testBit_toNat→ahe,getLsbD_and→ahf
open Bool renaming eq_iff_iff→ag9,and_false→ahi,false_and→aho,false_or→ahF,true_or→ahG,true_and→ahN
open Classical renaming not_not→afV
open Int renaming toNat_natCast→af7,one_mul→ahd,toNat→aht,natCast_add→ahu,lt_of_lt_of_le→ahv
open List renaming getD_eq_getElem?_getD→afe,mem_of_mem_take→agV,length_take→afR,getElem?_take_of_lt→agW,getElem?_eq_getElem→afj,mem_iff_getElem→agX,flatten_cons→agY,length_append→agl,getElem?_eq_none→agZ,append_nil→ag0,getElem?_eq_some_iff→agO,mem_cons_of_mem→agM,mem_cons_self→ag1,map_cons→ag2,length_cons→aeZ,length_map→ag3,take_add_one→ag5,map_append→ag6,length_nil→aeV,take_length→ag7,getElem_of_mem→afi,mem_append→aff,mem_filter→ahh,pairwise_cons→agw,mem_cons→agv,foldl_append→ahq,getElem_mem→ahr,range→afc,find?_eq_none→ahz,mem_range→agU,range_eq_range'→agH,range'_append_1→ahA,find?_some→ahB,any_eq_true→ahC,any_eq_false→ahD,getElem?_map→afZ,drop_length→ahE,take→ahH,drop→ahI,drop_zero→ahJ,mem_singleton→ahL,length_filter_le→ahM,all_eq_true→agE,length_eq_zero_iff→agk,mem_flatten→ahO
open Nat renaming eq_zero_or_pos→afN,mul_one→afA,le_refl→ae3,zero_le→afO,zero_add→afr,succ_mul→ae2,mul_add→ag4,le_trans→agR,testBit_two_pow→ag8,lt_pow_two_of_testBit→aha,eq_of_testBit_eq→ahb,pow_le_pow_right→ahc,testBit_lt_two_pow→ahg,testBit_two_pow_mul_add→ahj,pow_succ→ahk,two_pow_pos→ahl,testBit_div_two_pow→ahm,testBit_two_pow_mul→ahn,testBit_two_pow_sub_one→ahp,div_div_eq_div_mul→ahs,mul_comm→afs,mul_assoc→ahw,mul_mod_right→ahx,mul_div_cancel_left→ahy,sub_zero→ahK
open Option renaming bind_some→agu
namespace Go.Eng
open Go.RowKit Go.ChangeShapes Go.WideShapes
set_option linter.unusedSimpArgs false
set_option linter.unusedVariables false
def lg (W:World):Imm:=fun b j=>(rd W b j).isSome
inductive Lf where
 |int (k:IntKind)
 |str
 |ints (k:IntKind)
 |rows (k:IntKind)
 |bool
 |bools
instance:Inhabited Lf:=⟨.str⟩
def abO:Lf→PV→Prop
 |.int k,p=>∃n,p=.int k n∧(Lit.int k n).wf=true
 |.str,p=>∃s,p=.str s∧s.size≤maxLen
 |.ints k,p=>∃xs,p=.isl (.ints k xs) .none∧(∀n∈xs,(Lit.int k n).wf=true)∧xs.length≤maxLen
 |.rows k,p=>∃xss:List (List Int),p=.isl (.rows k xss) .none∧(∀x∈xss,(∀n∈x,(Lit.int k n).wf=true)∧x.length≤maxLen)∧xss.length≤maxLen
 |.bool,p=>∃b:Bool,p=.bp b∧True
 |.bools,p=>∃xs:List Bool,p=.isl (.bools xs) .none∧xs.length≤maxLen
def vC (v:Value):Prop:=∀a n c,v=.slice (some a) n c→a.spot=none
theorem FU {P:Program} {w:World} {r:Reach} {base:Nat} {t:TypeId} {v:Value} (h:Cell.okWide P w r base t v):vC v:=by
 rintro a n c rfl
 unfold Cell.okWide at h;split at h<;>try(rename_i e1 e2;cases e2)
 unfold Cell.ok at h;split at h<;>try(rename_i e1 e2;cases e2)
 ·exact h.2.2.2.1
 ·exact h.elim
theorem Je {P:Program} {w:World} {r:Reach} {base:Nat} {t:TypeId} {cs:Array Value} (h:Row.okWide P w r base t cs):∀i,vC (cs.toList.getD i undef):=by
 obtain⟨ts,_,_,h⟩:=h;intro i;rw[afe];cases hv:cs.toList[i]? with
 |none=>rintro a n c he;cases he
 |some v=>
  obtain⟨u,_,hu⟩:=h i v (by simpa using hv)
  simpa using FU hu
section
variable {H:Type} (enc:TypeId × Value→H) (P:Program) (W:World)
def jE (t:TypeId) (ls:List Lf):Prop:=∀(fuel:Nat) (cs:List Value) (x:DataW H × List MemPlace),DataW.trod enc P W 0 (fun _=>true) true fuel t cs=some x→(∀i,vC (cs.getD i undef))→
 cs.length=ls.length∧∀i,i<ls.length→∃p,abO (ls.getD i default) p∧Rep (lg W) W noI p (cs.getD i undef)
def Bc:List Field→Nat→List (List Lf)→Prop
 | [],_,[]=>True
 |f::fs,o,l::ls=>(f.offset=o∧P.cellsOf f.type=l.length∧jE enc P W f.type l)∧Bc fs (o+l.length) ls
 |_,_,_=>False
end
section
variable {H:Type} {enc:TypeId × Value→H} {P:Program} {W:World}
theorem PO {t:TypeId} {k:IntKind} (ht:P.underlying t=some (.int k)):jE enc P W t [.int k]:=by
 intro fuel cs x h hs;obtain⟨n,rfl,_,hw⟩:=DataW.trod_int ht h;refine⟨rfl,fun i hi=>?_⟩;have:i=0:=by simp at hi;omega
 subst this;exact⟨.int k n,⟨n,rfl,hw⟩,.int _ _ _⟩
theorem MV {t e:TypeId} {k:IntKind} (ht:P.underlying t=some (.slice e)) (he:P.underlying e=some (.int k)) (hc:P.cellsOf e=1):jE enc P W t [.ints k]:=by
 intro fuel cs x h hs;rcases open_ints ht he hc h with⟨rfl,_⟩|⟨a,len,cap,zs,rfl,_,hl,hm,hz,_,hcell,hwf⟩
 ·refine⟨rfl,fun i hi=>?_⟩
  have:i=0:=by simp at hi;omega
  subst this;exact⟨.isl (.ints k []) .none,⟨[],rfl,by simp,by simp⟩,.islnil _ _ _ rfl⟩
 ·refine⟨rfl,fun i hi=>?_⟩
  have:i=0:=by simp at hi;omega
  subst this;have hsp:a.spot=none:=hs 0 a len cap rfl;obtain⟨b,off,spot⟩:=a;simp only at hsp;subst hsp;simp only[ite_true]at hz;have hcell':∀i,i<cap→rd W b (off+i)=some (.int k (zs.getD i 0)):=fun i hi=>by
   have:=hcell i (by omega)
   rw[dP,fH]at this;exact this
  refine⟨.isl (.ints k (zs.take len)) .none,⟨_,rfl,fun n hn=>hwf n (agV hn),by simp;omega⟩,?_⟩
  have hlen:(CL.ints k (zs.take len)).cnt=len:=by simp[CL.cnt];omega
  have hrep:=Rep.isl (S:=lg W) (w:=W) noI (.ints k (zs.take len)) .none b off cap (by rw[hlen];exact hl)
   (fun j hj=>by
    have hj':j<len:=by simp only[CL.ncell,afR]at hj;omega
    show(rd W b (off+j)).isSome;rw[hcell' j (by omega)];rfl)
   (fun j hj=>by
    have hj':j<len:=by simp only[CL.ncell,afR]at hj;omega
    have e1:rdv W b (off+j)=.int k (zs.getD j 0):=by unfold rdv;rw[hcell' j (by omega)];rfl
    have e2:(zs.take len).getD j 0=zs.getD j 0:=by simp only[afe,agW hj']
    rw[e1];show Rep (lg W) W noI (.int k ((zs.take len).getD j 0)) _;rw[e2];exact .int _ _ _)
   (fun e=>by cases e) (fun k e=>by cases e)
  rw[hlen]at hrep;simpa using hrep
theorem MW {t:TypeId} (ht:P.underlying t=some .bool):jE enc P W t [.bool]:=by
 intro fuel cs x h hs;obtain⟨n,rfl,_⟩:=DataW.trod_bool ht h;refine⟨rfl,fun i hi=>?_⟩;have:i=0:=by simp at hi;omega
 subst this;exact⟨.bp n,⟨n,rfl,trivial⟩,.bp _ _⟩
theorem Sn {t e:TypeId} {k:IntKind} (ht:P.underlying t=some (.slice e)) (he:P.underlying e=some (.int k)) (hc:P.cellsOf e=1) {fuel:Nat} {v:Value} {x:DataW H × List MemPlace}
 (h:DataW.trod enc P W 0 (fun _=>true) true fuel t [v]=some x):∃xs:List Int,Rep (lg W) W noI (.isl (.ints k xs) .none) v∧(∀n∈xs,(Lit.int k n).wf=true)∧xs.length≤maxLen:=by
 rcases open_ints ht he hc h with⟨hv,_⟩|⟨a,len,cap,zs,hv,_,hl,hm,hz,_,hcell,hwf⟩
 ·cases hv;exact⟨[],.islnil _ _ _ rfl,by simp,by simp⟩
 ·cases hv
  simp only[ite_true]at hz;rcases afN cap with h0|h0
  ·have hl0:len=0:=by omega
   subst h0;subst hl0;exact⟨[],.islnil _ _ _ rfl,by simp,by simp⟩
  ·have hsp:a.spot=none:=by
    have h1:=hcell 0 (by omega)
    simpa [Addr.add]using World.cell?_spot h1
   obtain⟨b,off,spot⟩:=a;simp only at hsp;subst hsp;have hcell':∀i,i<cap→rd W b (off+i)=some (.int k (zs.getD i 0)):=fun i hi=>by
    have:=hcell i (by omega)
    rw[dP,fH]at this;exact this
   refine⟨zs.take len,?_,fun n hn=>hwf n (agV hn),by simp;omega⟩
   have hlen:(CL.ints k (zs.take len)).cnt=len:=by simp[CL.cnt];omega
   have hrep:=Rep.isl (S:=lg W) (w:=W) noI (.ints k (zs.take len)) .none b off cap (by rw[hlen];exact hl)
    (fun j hj=>by
     have hj':j<len:=by simp only[CL.ncell,afR]at hj;omega
     show(rd W b (off+j)).isSome;rw[hcell' j (by omega)];rfl)
    (fun j hj=>by
     have hj':j<len:=by simp only[CL.ncell,afR]at hj;omega
     have e1:rdv W b (off+j)=.int k (zs.getD j 0):=by unfold rdv;rw[hcell' j (by omega)];rfl
     have e2:(zs.take len).getD j 0=zs.getD j 0:=by simp only[afe,agW hj']
     rw[e1];show Rep (lg W) W noI (.int k ((zs.take len).getD j 0)) _;rw[e2];exact .int _ _ _)
    (fun e=>by cases e) (fun k e=>by cases e)
   rw[hlen]at hrep;exact hrep
theorem Sq:∀(n:Nat) (Q:Nat→List Int→Prop),(∀i,i<n→∃p,Q i p)→∃ps:List (List Int),ps.length=n∧∀i,i<n→Q i (ps.getD i []):=by
 intro n;induction n with
 |zero=>intro Q _;exact⟨[],rfl,fun i hi=>by omega⟩
 |succ n ih=>
  intro Q h;obtain⟨p,hp⟩:=h 0 (by omega)
  obtain⟨ps,h1,h2⟩:=ih (fun i=>Q (i+1)) (fun i hi=>h (i+1) (by omega))
  refine⟨p::ps,by simp[h1],fun i hi=>?_⟩
  cases i with
  |zero=>exact hp
  |succ i=>exact h2 i (by omega)
theorem Sr {a:Addr} {c1:List Value} (h:W.cells? 0 a 1=some c1):∃c,c1=[c]∧W.cell? a=some c:=by
 have e0:a.add 0=a:=by simp[Addr.add]
 unfold World.cells? at h;split at h
 ·simp only[List.range_succ,List.range_zero,List.nil_append,List.mapM_cons,List.mapM_nil,e0]at h
  cases hcc:W.cell? a with
  |none=>simp[hcc]at h
  |some c=>simp[hcc]at h;exact⟨c,h.symm,rfl⟩
 ·cases h
theorem MX {t u e:TypeId} {k:IntKind} (ht:P.underlying t=some (.slice u)) (hu:P.underlying u=some (.slice e)) (he:P.underlying e=some (.int k)) (hcu:P.cellsOf u=1) (hc:P.cellsOf e=1):jE enc P W t [.rows k]:=by
 intro fuel cs x h hs;rcases DataW.trod_slice ht h with⟨rfl,_⟩|⟨a,len,cap,elems,rest,n,_,rfl,_,_,hl,hm,hlen,hel,hsp1,_⟩
 ·refine⟨rfl,fun i hi=>?_⟩
  have:i=0:=by simp at hi;omega
  subst this;exact⟨.isl (.rows k []) .none,⟨[],rfl,by simp,by simp⟩,.islnil _ _ _ rfl⟩
 refine⟨rfl,fun i hi=>?_⟩;have:i=0:=by simp at hi;omega
 subst this;have hspot:a.spot=none:=hs 0 a len cap rfl;obtain⟨b,off,spot⟩:=a;simp only at hspot;subst hspot;have key:∀j,j<len→∃xs:List Int,(rd W b (off+j)).isSome=true∧Rep (lg W) W noI (.isl (.ints k xs) .none) (rdv W b (off+j))∧(∀n∈xs,(Lit.int k n).wf=true)∧xs.length≤maxLen:=by
  intro j hj;have hE:=hel j hj;rw[hcu,afA]at hE;have hy:∃y,elems[j]? =some y:=⟨_,afj (by omega)⟩
  obtain⟨y,hy⟩:=hy;rw[hy]at hE;simp only[Option.bind_eq_some_iff]at hE;obtain⟨c1,hc1,hy1⟩:=hE;obtain⟨c,rfl,hcell⟩:=Sr hc1;rw[dP,fH]at hcell;obtain⟨xs,h1,h2,h3⟩:=Sn hu he hc hy1;refine⟨xs,by rw[hcell];rfl,?_,h2,h3⟩
  unfold rdv;rw[hcell];exact h1
 obtain⟨xss,hxl,hxx⟩:=Sq len _ key;refine⟨.isl (.rows k xss) .none,⟨xss,rfl,fun x hx=>?_,by omega⟩,?_⟩
 ·obtain⟨j,hj,rfl⟩:=agX.1 hx
  have:=hxx j (by omega)
  rw[afe,afj hj]at this;exact⟨this.2.2.1,this.2.2.2⟩
 have hcnt:(CL.rows k xss).cnt=len:=by simp[CL.cnt];omega
 have hrep:=Rep.isl (S:=lg W) (w:=W) noI (.rows k xss) .none b off cap (by rw[hcnt];exact hl)
  (fun j hj=>by
   have hj':j<len:=by simp only[CL.ncell]at hj;omega
   exact(hxx j hj').1)
  (fun j hj=>by
   have hj':j<len:=by simp only[CL.ncell]at hj;omega
   exact(hxx j hj').2.1)
  (fun e=>by cases e) (fun k e=>by cases e)
 rw[hcnt]at hrep;simpa using hrep
theorem MZ {l:List Lf} {ls:List (List Lf)} {i:Nat} (h:i<l.length):(l++ls.flatten).getD i default=l.getD i default:=by
 simp only[afe,List.getElem?_append_left h]
theorem Jf:∀{fs:List Field} {o:Nat} {lss:List (List Lf)},Bc enc P W fs o lss→∀i,i<lss.flatten.length→
 ∃(k:Nat) (f:Field) (l:List Lf) (j:Nat),fs[k]? =some f∧f.offset+j=o+i∧P.cellsOf f.type=l.length∧jE enc P W f.type l∧j<l.length∧l.getD j default=lss.flatten.getD i default:=by
 intro fs;induction fs with
 |nil=>
  intro o lss h i hi;cases lss with
  |nil=>simp at hi
  |cons l ls=>exact h.elim
 |cons f fs ih=>
  intro o lss h i hi;cases lss with
  |nil=>exact h.elim
  |cons l ls=>
   obtain⟨⟨h1,h2,h3⟩,h4⟩:=h;rw[agY,agl]at hi;by_cases hl:i<l.length
   ·exact⟨0,f,l,i,rfl,by omega,h2,h3,hl,by rw[agY,MZ hl]⟩
   ·obtain⟨k,f',l',j,a1,a2,a3,a4,a5,a6⟩:=ih h4 (i-l.length) (by omega)
    refine⟨k+1,f',l',j,a1,by omega,a3,a4,a5,?_⟩
    rw[a6,agY];simp only[afe,List.getElem?_append_right (by omega:l.length≤i)]
theorem CO {cs:List Value} {o n j:Nat} (h:j<n):((cs.drop o).take n).getD j undef=cs.getD (o+j) undef:=by
 simp only[afe,agW h,List.getElem?_drop]
theorem PS {cs:List Value} (hs:∀i,vC (cs.getD i undef)) (o n:Nat):∀i,vC (((cs.drop o).take n).getD i undef):=by
 intro i;by_cases h:i<n
 ·rw[CO h];exact hs _
 ·have:((cs.drop o).take n).getD i undef=undef:=by
   rw[afe,agZ (by simp;omega)];rfl
  rw[this];rintro a n c he;cases he
theorem vD {t:TypeId} {fs:Array Field} {lss:List (List Lf)} (ht:P.underlying t=some (.struct fs)) (hF:Bc enc P W fs.toList 0 lss) (hc:P.cellsOf t=lss.flatten.length):jE enc P W t lss.flatten:=by
 intro fuel cs x h hs;obtain⟨xs,n,_,_,hl,hlen,hf⟩:=DataW.trod_struct ht h;refine⟨by rw[hl,hc],fun i hi=>?_⟩
 obtain⟨k,f,l,j,a1,a2,a3,a4,a5,a6⟩:=Jf hF i hi;have hfk:fs[k]? =some f:=by simpa using a1
 have hk:k<xs.length:=by rw[hlen];exact(Array.getElem?_eq_some_iff.1 hfk).1
 have h1:=hf k f hfk;rw[afj hk]at h1;obtain⟨_,h2⟩:=a4 _ _ _ h1 (PS hs _ _);obtain⟨p,hp,hr⟩:=h2 j a5;rw[CO (by omega)]at hr
 rw[a6]at hp;have:f.offset+j=i:=by omega
 rw[this]at hr;exact⟨p,hp,hr⟩
theorem YB {Q:Nat→PV→Prop}:∀(n:Nat) (Q:Nat→PV→Prop),(∀i,i<n→∃p,Q i p)→∃ps:List PV,ps.length=n∧∀i,i<n→Q i (aC ps i):=by
 intro n;induction n with
 |zero=>intro Q _;exact⟨[],rfl,fun i hi=>by omega⟩
 |succ n ih=>
  intro Q h;obtain⟨p,hp⟩:=h 0 (by omega)
  obtain⟨ps,h1,h2⟩:=ih (fun i=>Q (i+1)) (fun i hi=>h (i+1) (by omega))
  refine⟨p::ps,by simp[h1],fun i hi=>?_⟩
  cases i with
  |zero=>exact hp
  |succ i=>exact h2 i (by omega)
theorem FV {t:TypeId} {ls:List Lf} {v:Value} {d:DataW H} {qs:List MemPlace} {r:Reach} {base:Nat} (ht:(∃fs,P.underlying t=some (.struct fs))∨∃n e,P.underlying t=some (.array n e)) (hO:jE enc P W t ls) (hval:Value.okWide P W r base t v) (hd:DataW.Trod enc P W 0 (fun _=>true) true t v d qs):
 ∃ps:List PV,ps.length=ls.length∧(∀i,i<ls.length→abO (ls.getD i default) (aC ps i))∧Rep (lg W) W noI (.agg ps) v:=by
 have hv:∃cs,v=.agg cs∧Row.okWide P W r base t cs:=by
  unfold Value.okWide at hval;rcases ht with⟨fs,ht⟩|⟨n,e,ht⟩<;>rw[ht]at hval<;>exact⟨hval.choose,hval.choose_spec.1,hval.choose_spec.2.2⟩
 obtain⟨cs,rfl,hrow⟩:=hv;obtain⟨fuel,hf⟩:=hd;have hcells:(Value.agg cs).cells.toList=cs.toList:=rfl;rw[hcells]at hf;obtain⟨h1,h2⟩:=hO _ _ _ hf (Je hrow);obtain⟨ps,p1,p2⟩:=YB (Q:=fun _ _=>True) ls.length _ h2;refine⟨ps,p1,fun i hi=>(p2 i hi).1,.agg _ _ _ (by rw[p1,←h1];simp) fun i hi=>?_⟩
 have:=(p2 i (by omega)).2
 simpa [afb,afe]using this
end
theorem Sv {P:Program} {g:FuncId} {args:List PV} {vs:Array Value} {W:World} (h:aF P g args (.bp true)) (hr:bB (lg W) W noI args vs) (hg:gB (lg W) W):
 Calls P g vs W fun e w'=>e=.returned (.bool true)∧Below W.heap.size W w':=by
 have:=(h.2 (lg W) W vs hg (fun _ _ h=>h) hr);refine callsIn_wide.1 (CallsIn.mono (F:=Fw none) this ?_)
 rintro e w' ⟨val,S',rfl,o⟩
 have hv:=o.rep;exact⟨by cases hv;rfl,⟨o.below.os,o.below.tape,o.below.output,o.below.size,o.same⟩⟩
section
variable {H:Type} {enc:TypeId × Value→H} {P:Program}
theorem DC (hl:laidOutB P=true) {W W':World} {sp:Nat→Bool} (hB:Below W.heap.size W W'):∀{ts:List TypeId} {vs:List Value} {ds:List (DataW H)} {ps:List MemPlace},ts.all (fun t=>P.readableRec t&&decide (t<P.types.size))=true→
 DataW.TrodAll enc P W 0 (fun _=>true) true ts vs ds ps→(∀x∈ps,x.block<W.heap.size)→(∀x∈ps,sp x.block=true)→DataW.TrodAll enc P W' 0 sp true ts vs ds ps:=by
 intro ts;induction ts with
 |nil=>
  intro vs ds ps _ h _ _;cases vs<;>cases ds<;>first|exact h|exact h.elim
 |cons t ts ih=>
  intro vs ds ps ha h hlt hs;cases vs with
  |nil=>exact h.elim
  |cons v vs=>
   cases ds with
   |nil=>exact h.elim
   |cons d ds=>
    obtain⟨p,q,h1,h2,rfl⟩:=h;simp only[List.all_cons,Bool.and_eq_true,decide_eq_true_eq]at ha;refine⟨p,q,WideElems.Trod_stays hl ha.1.1 ha.1.2 h1 (fun x hx=>hB.same (hlt x (by simp[hx]))) (fun x hx=>hs x (by simp[hx])),ih ha.2 h2 (fun x hx=>hlt x (by simp[hx])) (fun x hx=>hs x (by simp[hx])),rfl⟩
theorem Sw {f:Func} {s:ChangeSpec} {W W':World} {args:Array Value} {ds gs:List (DataW H)} {before:List MemPlace} {tb:TypeId} (hl:laidOutB P=true) (hres:f.resultTypes= #[tb]) (htb:P.underlying tb=some .bool)
 (hread:f.params.toList.all (fun t=>P.readableRec t&&decide (t<P.types.size))=true) (hv:s.vars=[]) (hfn:s.fn H ds={results:=[.lit (.bool true)],args:=ds})
 (hW:DataW.Whole enc P f.params.toList s.vars false W args.toList ds gs before) (hB:Below W.heap.size W W'):s.post enc P f false true false false W args (.bool true) W':=by
 have hW':=hW;obtain⟨p,q,hA,hV,rfl,hfz,hnd⟩:=hW;rw[hv]at hV;obtain⟨rfl,rfl⟩:=trodVars_none hV;have hlt:∀x∈p,x.block<W.heap.size:=fun x hx=>by simpa using hW'.lt x (by simp[hx])
 refine⟨ds,[],p++[],[],p,[],hW',?_,?_,?_,hB.frame _,fun h=>by cases h⟩
 ·rw[ag0,hfn,hres]
  exact trodAll_mk1 (shut_bool htb true)
 ·rw[ag0,hfn]
  exact DC hl hB hread hA hlt (fun x hx=>by simpa using hlt x hx)
 ·rw[ag0,hfn,hv]
  exact rfl
end
end Go.Eng
namespace Go.Eng.YtcechbdgokjmgaaGreatDoor
open Go.Proofs Go.Proofs.YtcechbdgokjmgaaGreatDoor Go.RowKit Go.ChangeShapes Go.WideShapes
set_option linter.unusedVariables false
theorem own:ownKnob Tryz.prog.godebug=none:=by kernel_rfl
theorem laidOut:laidOutB Tryz.prog=true:=by kernel_rfl
abbrev tH:List (String × DataW Unit):=[("math/bits.deBruijn32tab",Rows.laid_math_bits_deBruijn32tab),("math/bits.deBruijn64tab",Rows.laid_math_bits_deBruijn64tab),("internal/strconv.uint64pow10",Rows.laid_internal_strconv_uint64pow10),("unicode/utf8.acceptRanges",Rows.laid_unicode_utf8_acceptRanges),("strconv.ErrRange",Rows.laid_strconv_ErrRange),("strconv.ErrSyntax",Rows.laid_strconv_ErrSyntax),("unicode/utf8.first",Rows.laid_unicode_utf8_first)]
theorem Sy (os:Os) (args:Array Value):laidMetH Tryz.prog tH ((World.laidAll Tryz.prog os tH).forCall (fun _ _=>0) ⟨#[],args,[]⟩).memory:=by
 rw[Go.MakeChecks.laidMetH_plain _ _ _ (by kernel_rfl)]
 exact laidMet_laidAll _ (by kernel_rfl) (by kernel_rfl)
theorem FW {W:World} {name:String} {k:IntKind} {zs:List Int} {g:Nat} (hg:Tryz.prog.globalNamed name=some g) (h:Lib.TabIs Tryz.prog W name k zs):
 bsz W g=some (CL.ints k zs).ncell∧∀j,j<(CL.ints k zs).ncell→lg W g j∧Rep (lg W) W noI ((CL.ints k zs).get j) (rdv W g j):=by
 unfold Lib.TabIs World.var? at h;rw[hg,agu]at h;split at h
 ·rename_i cs e f hb
  have h:=Option.some.inj h;subst h;refine⟨by simp[bsz,hb,CL.ncell],fun j hj=>?_⟩
  simp only[CL.ncell]at hj;have hr:rd W g j=some (.int k (zs.getD j 0)):=by simp[rd,hb,hj]
  refine⟨by show(rd W g j).isSome=true;rw[hr];rfl,?_⟩
  have:rdv W g j=.int k (zs.getD j 0):=by unfold rdv;rw[hr];rfl
  rw[this];exact .int _ _ _
 ·cases h
theorem YC {W:World} (h:laidMetH Tryz.prog tH W):gB (lg W) W:=by
 rw[Go.MakeChecks.laidMetH_plain _ _ _ (by kernel_rfl)]at h
 have t2:Lib.TabIs Tryz.prog W "math/bits.deBruijn32tab" .u8 qY:=Lib.tabIs_of_head (k:=.u8) (zs:=qY) (g:=0) (t:=285) (e:=5) (n:=32) (by kernel_rfl) (by kernel_rfl) (by kernel_rfl) (by kernel_rfl) (by kernel_rfl) (by kernel_rfl) h
 have t3:Lib.TabIs Tryz.prog W "math/bits.deBruijn64tab" .u8 EB:=Lib.tabIs_of_head (k:=.u8) (zs:=EB) (g:=7) (t:=323) (e:=5) (n:=64) (by kernel_rfl) (by kernel_rfl) (by kernel_rfl) (by kernel_rfl) (by kernel_rfl) (by kernel_rfl) h.tail
 have t0:Lib.TabIs Tryz.prog W "internal/strconv.uint64pow10" .u64 nC:=Lib.tabIs_of_head (k:=.u64) (zs:=nC) (g:=2) (t:=289) (e:=275) (n:=20) (by kernel_rfl) (by kernel_rfl) (by kernel_rfl) (by kernel_rfl) (by kernel_rfl) (by kernel_rfl) h.tail.tail
 intro g c hc;unfold wz at hc;split at hc
 ·cases hc;exact FW (by kernel_rfl) t2
 ·cases hc;exact FW (by kernel_rfl) t0
 ·cases hc;exact FW (by kernel_rfl) t3
 ·cases hc
section
variable {H:Type} {enc:TypeId × Value→H} {W:World}
theorem o3:jE enc Tryz.prog W 3 [.int .i64]:=PO Tryz.underlying3
theorem o25:jE enc Tryz.prog W 25 [.ints .i64]:=MV Tryz.underlying25 Tryz.underlying3 (by kernel_rfl)
theorem o22:jE enc Tryz.prog W 22 [.rows .i64]:=MX Tryz.underlying22 Tryz.underlying25 Tryz.underlying3 (by kernel_rfl) (by kernel_rfl)
theorem o24:jE enc Tryz.prog W 24 [.int .i64,.rows .i64]:=
 vD (lss:=[[.int .i64],[.rows .i64]]) Tryz.underlying24 ⟨⟨rfl,by kernel_rfl,o3⟩,⟨rfl,by kernel_rfl,o22⟩,trivial⟩ (by kernel_rfl)
theorem o4:jE enc Tryz.prog W 4 [.bool]:=MW Tryz.underlying4
theorem o85:jE enc Tryz.prog W 85 [.ints .i64,.ints .i64,.int .i64]:=
 vD (lss:=[[.ints .i64],[.ints .i64],[.int .i64]]) Tryz.underlying85 ⟨⟨rfl,by kernel_rfl,o25⟩,⟨rfl,by kernel_rfl,o25⟩,⟨rfl,by kernel_rfl,o3⟩,trivial⟩ (by kernel_rfl)
end
end Go.Eng.YtcechbdgokjmgaaGreatDoor
namespace Go.Proofs
open Go.Shelf
def Tryz.lays103_ren:Go.Shelf.Ren:=⟨fun|103=>229|210=>249|206=>270|n=>n,fun|9=>9|4=>4|24=>272|3=>3|n=>n,fun|n=>n⟩
theorem Tryz.lays103:Go.Proofs.Lays.n103 Tryz.prog Tryz.lays103_ren:={
 mixed:=by kernel_rfl
 f103:=Tryz.func229.trans (congrArg some (by kernel_rfl))
 f206:=Tryz.func270.trans (congrArg some (by kernel_rfl))
 f210:=Tryz.func249.trans (congrArg some (by kernel_rfl))
 t3:=Tryz.underlying3
 a3:=Tryz.isAgg3
 z3:=Tryz.sizeOf3
 v3:=Tryz.zeroValue3
 t4:=Tryz.underlying4
 a4:=Tryz.isAgg4
 z4:=Tryz.sizeOf4
 v4:=Tryz.zeroValue4
 t9:=Tryz.underlying9
 a9:=Tryz.isAgg9
 z9:=Tryz.sizeOf9
 v9:=Tryz.zeroValue9
 t24:=Tryz.underlying272
 a24:=Tryz.isAgg272
 z24:=Tryz.sizeOf272
 v24:=Tryz.zeroValue272}
open Go.RowKit in
theorem Tryz.strings_CutPrefix (s p:ByteArray) (w:World):
 Calls Tryz.prog 229 #[.string s,.string p] w fun e w'=>e=.returned (.tuple #[.string ⟨(Lib.trimPrefix s.data.toList p.data.toList).toArray⟩,.bool (Lib.hasPrefix s.data.toList p.data.toList)])∧w'=w:=Any.strings_CutPrefix Tryz.lays103 s p w
def Tryz.lays172_ren:Go.Shelf.Ren:=⟨fun|172=>230|244=>250|245=>251|247=>271|279=>272|280=>273|281=>274|282=>275|287=>283|316=>284|171=>129|205=>285|321=>287|322=>288|243=>171|246=>209|283=>233|284=>234|285=>235|286=>236|129=>253|317=>252|318=>254|319=>255|320=>256|337=>220|338=>276|n=>n,fun|9=>9|3=>3|75=>165|76=>166|4=>4|5=>5|167=>305|37=>161|0=>0|85=>306|2=>2|168=>308|53=>275|175=>317|46=>284|210=>321|127=>229|145=>329|143=>327|21=>21|171=>274|173=>278|212=>289|51=>154|20=>20|213=>290|232=>285|233=>323|80=>173|n=>n,fun|15=>5|16=>6|17=>2|18=>0|19=>7|n=>n⟩
theorem Tryz.lays172:Go.Proofs.Lays.n172 Tryz.prog Tryz.lays172_ren:={
 mixed:=by kernel_rfl
 f129:=Tryz.func253.trans (congrArg some (by kernel_rfl))
 f171:=Tryz.func129.trans (congrArg some (by kernel_rfl))
 f172:=Tryz.func230.trans (congrArg some (by kernel_rfl))
 f205:=Tryz.func285.trans (congrArg some (by kernel_rfl))
 f243:=Tryz.func171.trans (congrArg some (by kernel_rfl))
 f244:=Tryz.func250.trans (congrArg some (by kernel_rfl))
 f245:=Tryz.func251.trans (congrArg some (by kernel_rfl))
 f246:=Tryz.func209.trans (congrArg some (by kernel_rfl))
 f247:=Tryz.func271.trans (congrArg some (by kernel_rfl))
 f279:=Tryz.func272.trans (congrArg some (by kernel_rfl))
 f280:=Tryz.func273.trans (congrArg some (by kernel_rfl))
 f281:=Tryz.func274.trans (congrArg some (by kernel_rfl))
 f282:=Tryz.func275.trans (congrArg some (by kernel_rfl))
 f283:=Tryz.func233.trans (congrArg some (by kernel_rfl))
 f284:=Tryz.func234.trans (congrArg some (by kernel_rfl))
 f285:=Tryz.func235.trans (congrArg some (by kernel_rfl))
 f286:=Tryz.func236.trans (congrArg some (by kernel_rfl))
 f287:=Tryz.func283.trans (congrArg some (by kernel_rfl))
 f316:=Tryz.func284.trans (congrArg some (by kernel_rfl))
 f317:=Tryz.func252.trans (congrArg some (by kernel_rfl))
 f318:=Tryz.func254.trans (congrArg some (by kernel_rfl))
 f319:=Tryz.func255.trans (congrArg some (by kernel_rfl))
 f320:=Tryz.func256.trans (congrArg some (by kernel_rfl))
 f321:=Tryz.func287.trans (congrArg some (by kernel_rfl))
 f322:=Tryz.func288.trans (congrArg some (by kernel_rfl))
 f337:=Tryz.func220.trans (congrArg some (by kernel_rfl))
 f338:=Tryz.func276.trans (congrArg some (by kernel_rfl))
 t0:=Tryz.underlying0
 a0:=Tryz.isAgg0
 z0:=Tryz.sizeOf0
 v0:=Tryz.zeroValue0
 t2:=Tryz.underlying2
 a2:=Tryz.isAgg2
 z2:=Tryz.sizeOf2
 v2:=Tryz.zeroValue2
 t3:=Tryz.underlying3
 a3:=Tryz.isAgg3
 z3:=Tryz.sizeOf3
 v3:=Tryz.zeroValue3
 t4:=Tryz.underlying4
 a4:=Tryz.isAgg4
 z4:=Tryz.sizeOf4
 v4:=Tryz.zeroValue4
 t5:=Tryz.underlying5
 a5:=Tryz.isAgg5
 z5:=Tryz.sizeOf5
 v5:=Tryz.zeroValue5
 t9:=Tryz.underlying9
 a9:=Tryz.isAgg9
 z9:=Tryz.sizeOf9
 v9:=Tryz.zeroValue9
 t20:=Tryz.underlying20
 a20:=Tryz.isAgg20
 z20:=Tryz.sizeOf20
 v20:=Tryz.zeroValue20
 t21:=Tryz.underlying21
 a21:=Tryz.isAgg21
 z21:=Tryz.sizeOf21
 v21:=Tryz.zeroValue21
 t37:=Tryz.underlying161
 a37:=Tryz.isAgg161
 z37:=Tryz.sizeOf161
 v37:=Tryz.zeroValue161
 t46:=Tryz.underlying284
 a46:=Tryz.isAgg284
 z46:=Tryz.sizeOf284
 v46:=Tryz.zeroValue284
 t51:=Tryz.underlying154
 a51:=Tryz.isAgg154
 z51:=Tryz.sizeOf154
 v51:=Tryz.zeroValue154
 t53:=Tryz.underlying275
 a53:=Tryz.isAgg275
 z53:=Tryz.sizeOf275
 v53:=Tryz.zeroValue275
 t75:=Tryz.underlying165
 a75:=Tryz.isAgg165
 z75:=Tryz.sizeOf165
 v75:=Tryz.zeroValue165
 t76:=Tryz.underlying166
 a76:=Tryz.isAgg166
 z76:=Tryz.sizeOf166
 v76:=Tryz.zeroValue166
 t85:=Tryz.underlying306
 a85:=Tryz.isAgg306
 z85:=Tryz.sizeOf306
 v85:=Tryz.zeroValue306
 t127:=Tryz.underlying229
 a127:=Tryz.isAgg229
 z127:=Tryz.sizeOf229
 v127:=Tryz.zeroValue229
 t143:=Tryz.underlying327
 a143:=Tryz.isAgg327
 z143:=Tryz.sizeOf327
 v143:=Tryz.zeroValue327
 t145:=Tryz.underlying329
 a145:=Tryz.isAgg329
 z145:=Tryz.sizeOf329
 v145:=Tryz.zeroValue329
 t167:=Tryz.underlying305
 a167:=Tryz.isAgg305
 z167:=Tryz.sizeOf305
 v167:=Tryz.zeroValue305
 t168:=Tryz.underlying308
 a168:=Tryz.isAgg308
 z168:=Tryz.sizeOf308
 v168:=Tryz.zeroValue308
 t171:=Tryz.underlying274
 a171:=Tryz.isAgg274
 z171:=Tryz.sizeOf274
 v171:=Tryz.zeroValue274
 t173:=Tryz.underlying278
 a173:=Tryz.isAgg278
 z173:=Tryz.sizeOf278
 v173:=Tryz.zeroValue278
 t175:=Tryz.underlying317
 a175:=Tryz.isAgg317
 z175:=Tryz.sizeOf317
 v175:=Tryz.zeroValue317
 t210:=Tryz.underlying321
 a210:=Tryz.isAgg321
 z210:=Tryz.sizeOf321
 v210:=Tryz.zeroValue321
 t212:=Tryz.underlying289
 a212:=Tryz.isAgg289
 z212:=Tryz.sizeOf289
 v212:=Tryz.zeroValue289
 t213:=Tryz.underlying290
 a213:=Tryz.isAgg290
 z213:=Tryz.sizeOf290
 t232:=Tryz.underlying285
 a232:=Tryz.isAgg285
 z232:=Tryz.sizeOf285
 v232:=Tryz.zeroValue285
 t233:=Tryz.underlying323
 a233:=Tryz.isAgg323
 z233:=Tryz.sizeOf323
 v233:=Tryz.zeroValue323
 g15:=by kernel_rfl
 g16:=by kernel_rfl
 g17:=by kernel_rfl
 g18:=by kernel_rfl
 g19:=by kernel_rfl}
open Go.RowKit in
theorem Tryz.strconv_Atoi (s:ByteArray) (n:Int) (hl:s.size≤18) (h:Lib.atoi s.data.toList=some n) (w:World):
 Calls Tryz.prog 230 #[.string s] w fun e w'=>e=.returned (.tuple #[.int .i64 n,.nilIface])∧∃t,w'=Lib.bytesWorld w 5 t:=Any.strconv_Atoi Tryz.lays172 s n hl h w
def Tryz.lays143_ren:Go.Shelf.Ren:=⟨fun|143=>201|219=>228|217=>245|225=>246|224=>247|267=>248|266=>268|314=>269|n=>n,fun|9=>9|3=>3|4=>4|5=>5|46=>284|146=>303|51=>154|n=>n,fun|1=>1|n=>n⟩
theorem Tryz.lays143:Go.Proofs.Lays.n143 Tryz.prog Tryz.lays143_ren:={
 mixed:=by kernel_rfl
 f143:=Tryz.func201.trans (congrArg some (by kernel_rfl))
 f217:=Tryz.func245.trans (congrArg some (by kernel_rfl))
 f219:=Tryz.func228.trans (congrArg some (by kernel_rfl))
 f224:=Tryz.func247.trans (congrArg some (by kernel_rfl))
 f225:=Tryz.func246.trans (congrArg some (by kernel_rfl))
 f266:=Tryz.func268.trans (congrArg some (by kernel_rfl))
 f267:=Tryz.func248.trans (congrArg some (by kernel_rfl))
 f314:=Tryz.func269.trans (congrArg some (by kernel_rfl))
 t3:=Tryz.underlying3
 a3:=Tryz.isAgg3
 z3:=Tryz.sizeOf3
 v3:=Tryz.zeroValue3
 t4:=Tryz.underlying4
 a4:=Tryz.isAgg4
 z4:=Tryz.sizeOf4
 v4:=Tryz.zeroValue4
 t5:=Tryz.underlying5
 a5:=Tryz.isAgg5
 z5:=Tryz.sizeOf5
 v5:=Tryz.zeroValue5
 t9:=Tryz.underlying9
 a9:=Tryz.isAgg9
 z9:=Tryz.sizeOf9
 v9:=Tryz.zeroValue9
 t46:=Tryz.underlying284
 a46:=Tryz.isAgg284
 z46:=Tryz.sizeOf284
 v46:=Tryz.zeroValue284
 t51:=Tryz.underlying154
 a51:=Tryz.isAgg154
 z51:=Tryz.sizeOf154
 v51:=Tryz.zeroValue154
 t146:=Tryz.underlying303
 a146:=Tryz.isAgg303
 z146:=Tryz.sizeOf303
 v146:=Tryz.zeroValue303
 g1:=by kernel_rfl}
open Go.RowKit Go.Lib in
theorem Tryz.strings_Index_one (s:ByteArray) (c:UInt8) (w:World):
 Calls Tryz.prog 201 #[.string s,.string ⟨#[c]⟩] w fun e w'=>e=.returned (.int .i64 (Lib.indexByte s.data.toList c))∧w'=w:=Any.strings_Index_one Tryz.lays143 s c w
def Tryz.lays138_ren:Go.Shelf.Ren:=⟨fun|138=>200|195=>225|218=>227|143=>201|219=>228|217=>245|225=>246|224=>247|267=>248|266=>268|314=>269|n=>n,fun|9=>9|3=>3|4=>4|5=>5|0=>0|46=>284|146=>303|51=>154|n=>n,fun|1=>1|n=>n⟩
theorem Tryz.lays138:Go.Proofs.Lays.n138 Tryz.prog Tryz.lays138_ren:={
 mixed:=by kernel_rfl
 f138:=Tryz.func200.trans (congrArg some (by kernel_rfl))
 f143:=Tryz.func201.trans (congrArg some (by kernel_rfl))
 f195:=Tryz.func225.trans (congrArg some (by kernel_rfl))
 f217:=Tryz.func245.trans (congrArg some (by kernel_rfl))
 f218:=Tryz.func227.trans (congrArg some (by kernel_rfl))
 f219:=Tryz.func228.trans (congrArg some (by kernel_rfl))
 f224:=Tryz.func247.trans (congrArg some (by kernel_rfl))
 f225:=Tryz.func246.trans (congrArg some (by kernel_rfl))
 f266:=Tryz.func268.trans (congrArg some (by kernel_rfl))
 f267:=Tryz.func248.trans (congrArg some (by kernel_rfl))
 f314:=Tryz.func269.trans (congrArg some (by kernel_rfl))
 t0:=Tryz.underlying0
 a0:=Tryz.isAgg0
 z0:=Tryz.sizeOf0
 v0:=Tryz.zeroValue0
 t3:=Tryz.underlying3
 a3:=Tryz.isAgg3
 z3:=Tryz.sizeOf3
 v3:=Tryz.zeroValue3
 t4:=Tryz.underlying4
 a4:=Tryz.isAgg4
 z4:=Tryz.sizeOf4
 v4:=Tryz.zeroValue4
 t5:=Tryz.underlying5
 a5:=Tryz.isAgg5
 z5:=Tryz.sizeOf5
 v5:=Tryz.zeroValue5
 t9:=Tryz.underlying9
 a9:=Tryz.isAgg9
 z9:=Tryz.sizeOf9
 v9:=Tryz.zeroValue9
 t46:=Tryz.underlying284
 a46:=Tryz.isAgg284
 z46:=Tryz.sizeOf284
 v46:=Tryz.zeroValue284
 t51:=Tryz.underlying154
 a51:=Tryz.isAgg154
 z51:=Tryz.sizeOf154
 v51:=Tryz.zeroValue154
 t146:=Tryz.underlying303
 a146:=Tryz.isAgg303
 z146:=Tryz.sizeOf303
 v146:=Tryz.zeroValue303
 g1:=by kernel_rfl}
open Go.RowKit Go.Lib in
theorem Tryz.strings_Count_one (s:ByteArray) (c:UInt8) (w:World):
 Calls Tryz.prog 200 #[.string s,.string ⟨#[c]⟩] w fun e w'=>e=.returned (.int .i64 (Lib.countByte s.data.toList c))∧w'=w:=Any.strings_Count_one Tryz.lays138 s c w
def Tryz.lays100_ren:Go.Shelf.Ren:=⟨fun|100=>112|207=>159|n=>n,fun|9=>9|4=>4|3=>3|n=>n,fun|n=>n⟩
theorem Tryz.lays100:Go.Proofs.Lays.n100 Tryz.prog Tryz.lays100_ren:={
 mixed:=by kernel_rfl
 f100:=Tryz.func112.trans (congrArg some (by kernel_rfl))
 f207:=Tryz.func159.trans (congrArg some (by kernel_rfl))
 t3:=Tryz.underlying3
 a3:=Tryz.isAgg3
 z3:=Tryz.sizeOf3
 v3:=Tryz.zeroValue3
 t4:=Tryz.underlying4
 a4:=Tryz.isAgg4
 z4:=Tryz.sizeOf4
 v4:=Tryz.zeroValue4
 t9:=Tryz.underlying9
 a9:=Tryz.isAgg9
 z9:=Tryz.sizeOf9
 v9:=Tryz.zeroValue9}
open Go.RowKit Go.Lib in
theorem Tryz.strings_HasSuffix (s p:ByteArray) (w:World) (hs:s.size≤9223372036854775807):
 Calls Tryz.prog 112 #[.string s,.string p] w fun e w'=>e=.returned (.bool (Lib.hasSuffix s.data.toList p.data.toList))∧w'=w:=Any.strings_HasSuffix Tryz.lays100 s p w hs
def Tryz.lays102_ren:Go.Shelf.Ren:=⟨fun|102=>114|209=>161|207=>159|n=>n,fun|9=>9|4=>4|3=>3|n=>n,fun|n=>n⟩
theorem Tryz.lays102:Go.Proofs.Lays.n102 Tryz.prog Tryz.lays102_ren:={
 mixed:=by kernel_rfl
 f102:=Tryz.func114.trans (congrArg some (by kernel_rfl))
 f207:=Tryz.func159.trans (congrArg some (by kernel_rfl))
 f209:=Tryz.func161.trans (congrArg some (by kernel_rfl))
 t3:=Tryz.underlying3
 a3:=Tryz.isAgg3
 z3:=Tryz.sizeOf3
 v3:=Tryz.zeroValue3
 t4:=Tryz.underlying4
 a4:=Tryz.isAgg4
 z4:=Tryz.sizeOf4
 v4:=Tryz.zeroValue4
 t9:=Tryz.underlying9
 a9:=Tryz.isAgg9
 z9:=Tryz.sizeOf9
 v9:=Tryz.zeroValue9}
open Go.RowKit Go.Lib in
theorem Tryz.strings_TrimSuffix (s p:ByteArray) (w:World) (hs:s.size≤9223372036854775807):
 Calls Tryz.prog 114 #[.string s,.string p] w fun e w'=>e=.returned (.string ⟨(Lib.trimSuffix s.data.toList p.data.toList).toArray⟩)∧w'=w:=Any.strings_TrimSuffix Tryz.lays102 s p w hs
def Tryz.lays221_ren:Go.Shelf.Ren:=⟨fun|221=>160|268=>199|138=>200|143=>201|195=>225|197=>226|218=>227|219=>228|260=>244|217=>245|225=>246|224=>247|267=>248|266=>268|314=>269|n=>n,fun|9=>9|3=>3|31=>169|4=>4|0=>0|105=>269|21=>21|5=>5|46=>284|119=>299|139=>302|138=>301|146=>303|51=>154|n=>n,fun|1=>1|3=>3|4=>4|n=>n⟩
theorem Tryz.lays221:Go.Proofs.Lays.n221 Tryz.prog Tryz.lays221_ren:={
 mixed:=by kernel_rfl
 f138:=Tryz.func200.trans (congrArg some (by kernel_rfl))
 f143:=Tryz.func201.trans (congrArg some (by kernel_rfl))
 f195:=Tryz.func225.trans (congrArg some (by kernel_rfl))
 f197:=Tryz.func226.trans (congrArg some (by kernel_rfl))
 f217:=Tryz.func245.trans (congrArg some (by kernel_rfl))
 f218:=Tryz.func227.trans (congrArg some (by kernel_rfl))
 f219:=Tryz.func228.trans (congrArg some (by kernel_rfl))
 f221:=Tryz.func160.trans (congrArg some (by kernel_rfl))
 f224:=Tryz.func247.trans (congrArg some (by kernel_rfl))
 f225:=Tryz.func246.trans (congrArg some (by kernel_rfl))
 f260:=Tryz.func244.trans (congrArg some (by kernel_rfl))
 f266:=Tryz.func268.trans (congrArg some (by kernel_rfl))
 f267:=Tryz.func248.trans (congrArg some (by kernel_rfl))
 f268:=Tryz.func199.trans (congrArg some (by kernel_rfl))
 f314:=Tryz.func269.trans (congrArg some (by kernel_rfl))
 t0:=Tryz.underlying0
 a0:=Tryz.isAgg0
 z0:=Tryz.sizeOf0
 v0:=Tryz.zeroValue0
 t3:=Tryz.underlying3
 a3:=Tryz.isAgg3
 z3:=Tryz.sizeOf3
 v3:=Tryz.zeroValue3
 t4:=Tryz.underlying4
 a4:=Tryz.isAgg4
 z4:=Tryz.sizeOf4
 v4:=Tryz.zeroValue4
 t5:=Tryz.underlying5
 a5:=Tryz.isAgg5
 z5:=Tryz.sizeOf5
 v5:=Tryz.zeroValue5
 t9:=Tryz.underlying9
 a9:=Tryz.isAgg9
 z9:=Tryz.sizeOf9
 v9:=Tryz.zeroValue9
 t21:=Tryz.underlying21
 a21:=Tryz.isAgg21
 z21:=Tryz.sizeOf21
 v21:=Tryz.zeroValue21
 t31:=Tryz.underlying169
 a31:=Tryz.isAgg169
 z31:=Tryz.sizeOf169
 v31:=Tryz.zeroValue169
 t46:=Tryz.underlying284
 a46:=Tryz.isAgg284
 z46:=Tryz.sizeOf284
 v46:=Tryz.zeroValue284
 t51:=Tryz.underlying154
 a51:=Tryz.isAgg154
 z51:=Tryz.sizeOf154
 v51:=Tryz.zeroValue154
 t105:=Tryz.underlying269
 a105:=Tryz.isAgg269
 z105:=Tryz.sizeOf269
 v105:=Tryz.zeroValue269
 t119:=Tryz.underlying299
 a119:=Tryz.isAgg299
 z119:=Tryz.sizeOf299
 t138:=Tryz.underlying301
 a138:=Tryz.isAgg301
 z138:=Tryz.sizeOf301
 v138:=Tryz.zeroValue301
 t139:=Tryz.underlying302
 a139:=Tryz.isAgg302
 z139:=Tryz.sizeOf302
 v139:=Tryz.zeroValue302
 t146:=Tryz.underlying303
 a146:=Tryz.isAgg303
 z146:=Tryz.sizeOf303
 v146:=Tryz.zeroValue303
 g1:=by kernel_rfl
 g3:=by kernel_rfl
 g4:=by kernel_rfl}
open Go.RowKit Go.Lib in
theorem Tryz.genSplit_one (s:ByteArray) (c:UInt8) (w:World) (hs:s.size<4294967281):
 Calls Tryz.prog 160 #[.string s,.string ⟨#[c]⟩,.int .i64 (0:Nat),.int .i64 (-1)] w fun e w'=>
  e=.returned (.slice (some ⟨w.heap.size,0,none⟩) (Lib.splitB ⟨#[c]⟩ 0 (Lib.countB s ⟨#[c]⟩) s).length (Lib.countB s ⟨#[c]⟩+1))∧w'=w.alloc (.cells (Lib.cellsOf (Lib.splitB ⟨#[c]⟩ 0 (Lib.countB s ⟨#[c]⟩) s) (Lib.countB s ⟨#[c]⟩+1)) 9):=by
 have hcl:=Lib.countB_le ⟨#[c]⟩ (ae3 1) s.size s (ae3 _);refine Any.strings_genSplit_core Tryz.lays221 (by kernel_rfl) s ⟨#[c]⟩ 0 (-1) (Lib.countB s ⟨#[c]⟩+1) w hs (ae3 1) (afO _) (fun x d hx=>?_) ?_ (by decide) (by decide) (by rw[if_pos (by decide)];omega)
 ·refine(Tryz.strings_Index_one x c _).mono fun e w' ⟨he,hw⟩=>⟨?_,hw⟩
  rw[he];show _=Ending.returned (Value.int .i64 (Lib.index x.data.toList [c]));rw[Lib.index_one]
 ·refine(Tryz.strings_Count_one s c w).mono fun e w' ⟨he,hw⟩=>⟨?_,hw⟩
  rw[he];show _=Ending.returned (Value.int .i64 ((Lib.count s.data.toList [c]:Nat):Int));rw[Lib.count_one];rfl
def Tryz.lays156_ren:Go.Shelf.Ren:=⟨fun|156=>158|165=>198|166=>106|169=>110|240=>157|241=>224|276=>197|277=>243|n=>n,fun|31=>169|9=>9|3=>3|4=>4|0=>0|20=>20|72=>163|76=>166|70=>160|37=>161|75=>165|127=>229|164=>252|5=>5|80=>173|n=>n,fun|n=>n⟩
theorem Tryz.lays156:Go.Proofs.Lays.n156 Tryz.prog Tryz.lays156_ren:={
 mixed:=by kernel_rfl
 f156:=Tryz.func158.trans (congrArg some (by kernel_rfl))
 f165:=Tryz.func198.trans (congrArg some (by kernel_rfl))
 f166:=Tryz.func106.trans (congrArg some (by kernel_rfl))
 f169:=Tryz.func110.trans (congrArg some (by kernel_rfl))
 f240:=Tryz.func157.trans (congrArg some (by kernel_rfl))
 f241:=Tryz.func224.trans (congrArg some (by kernel_rfl))
 f276:=Tryz.func197.trans (congrArg some (by kernel_rfl))
 f277:=Tryz.func243.trans (congrArg some (by kernel_rfl))
 t0:=Tryz.underlying0
 a0:=Tryz.isAgg0
 z0:=Tryz.sizeOf0
 v0:=Tryz.zeroValue0
 t3:=Tryz.underlying3
 a3:=Tryz.isAgg3
 z3:=Tryz.sizeOf3
 v3:=Tryz.zeroValue3
 t4:=Tryz.underlying4
 a4:=Tryz.isAgg4
 z4:=Tryz.sizeOf4
 v4:=Tryz.zeroValue4
 t9:=Tryz.underlying9
 a9:=Tryz.isAgg9
 z9:=Tryz.sizeOf9
 v9:=Tryz.zeroValue9
 t20:=Tryz.underlying20
 a20:=Tryz.isAgg20
 z20:=Tryz.sizeOf20
 v20:=Tryz.zeroValue20
 t31:=Tryz.underlying169
 a31:=Tryz.isAgg169
 z31:=Tryz.sizeOf169
 v31:=Tryz.zeroValue169
 t37:=Tryz.underlying161
 a37:=Tryz.isAgg161
 z37:=Tryz.sizeOf161
 v37:=Tryz.zeroValue161
 t70:=Tryz.underlying160
 a70:=Tryz.isAgg160
 z70:=Tryz.sizeOf160
 v70:=Tryz.zeroValue160
 t72:=Tryz.underlying163
 a72:=Tryz.isAgg163
 z72:=Tryz.sizeOf163
 v72:=Tryz.zeroValue163
 t75:=Tryz.underlying165
 a75:=Tryz.isAgg165
 z75:=Tryz.sizeOf165
 v75:=Tryz.zeroValue165
 t76:=Tryz.underlying166
 a76:=Tryz.isAgg166
 z76:=Tryz.sizeOf166
 v76:=Tryz.zeroValue166
 t127:=Tryz.underlying229
 a127:=Tryz.isAgg229
 z127:=Tryz.sizeOf229
 v127:=Tryz.zeroValue229
 t164:=Tryz.underlying252
 a164:=Tryz.isAgg252
 z164:=Tryz.sizeOf252
 v164:=Tryz.zeroValue252}
theorem Tryz.Builder_Extra_156:Builder.Extra Tryz.prog Tryz.lays156_ren:={
 sizeBuilder:=by kernel_rfl
 liesBuilder:=by kernel_rfl
 t5:=Tryz.underlying5
 a5:=Tryz.isAgg5
 z5:=Tryz.sizeOf5
 v5:=Tryz.zeroValue5
 infoByte:=by kernel_rfl
 cellsByte:=by kernel_rfl
 sizeByte:=by kernel_rfl
 neB5:=by decide}
open Go.RowKit in
theorem Tryz.strings_Join_none (a:Option Addr) (c:Nat) (sep:ByteArray) (w:World):
 Calls Tryz.prog 158 #[.slice a 0 c,.string sep] w fun e w'=>e=.returned (.string ⟨#[]⟩)∧w'=w:=Any.strings_Join_none Tryz.lays156 Tryz.Builder_Extra_156 a c sep w
open Go.RowKit in
theorem Tryz.strings_Join (bk o c:Nat) (xs:List ByteArray) (sep:ByteArray) (w:World) (hcells:∀(j:Nat) x,xs[j]? =some x→w.cell? ⟨bk,o+j,none⟩=some (.string x)) (hbk:bk<w.heap.size) (hN:xs.length≤140737488355328) (hcap:xs.length≤c) (hlen:(Lib.join (xs.map (·.data.toList)) sep.data.toList).length≤140737488355328):
 Calls Tryz.prog 158 #[.slice (some ⟨bk,o,none⟩) xs.length c,.string sep] w fun e w'=>e=.returned (.string ⟨(Lib.join (xs.map (·.data.toList)) sep.data.toList).toArray⟩)∧Below w.heap.size w w':=Any.strings_Join Tryz.lays156 Tryz.Builder_Extra_156 bk o c xs sep w hcells hbk hN hcap hlen
def Tryz.laysM171_ren:Go.Shelf.Ren:=⟨fun|171=>129|243=>171|246=>209|283=>233|284=>234|285=>235|286=>236|129=>253|317=>252|318=>254|319=>255|320=>256|337=>220|338=>276|n=>n,fun|3=>3|9=>9|2=>2|4=>4|171=>274|0=>0|53=>275|37=>161|5=>5|173=>278|212=>289|51=>154|20=>20|213=>290|46=>284|232=>285|233=>323|n=>n,fun|17=>2|18=>0|19=>7|n=>n⟩
theorem Tryz.laysM171:Go.Proofs.LaysM.n171 Tryz.prog Tryz.laysM171_ren:={
 mixed:=by kernel_rfl
 f129:=Tryz.func253.trans (congrArg some (by kernel_rfl))
 f171:=Tryz.func129.trans (congrArg some (by kernel_rfl))
 f243:=Tryz.func171.trans (congrArg some (by kernel_rfl))
 f246:=Tryz.func209.trans (congrArg some (by kernel_rfl))
 f283:=Tryz.func233.trans (congrArg some (by kernel_rfl))
 f284:=Tryz.func234.trans (congrArg some (by kernel_rfl))
 f285:=Tryz.func235.trans (congrArg some (by kernel_rfl))
 f286:=Tryz.func236.trans (congrArg some (by kernel_rfl))
 f317:=Tryz.func252.trans (congrArg some (by kernel_rfl))
 f318:=Tryz.func254.trans (congrArg some (by kernel_rfl))
 f319:=Tryz.func255.trans (congrArg some (by kernel_rfl))
 f320:=Tryz.func256.trans (congrArg some (by kernel_rfl))
 f337:=Tryz.func220.trans (congrArg some (by kernel_rfl))
 f338:=Tryz.func276.trans (congrArg some (by kernel_rfl))
 t0:=Tryz.underlying0
 a0:=Tryz.isAgg0
 z0:=Tryz.sizeOf0
 v0:=Tryz.zeroValue0
 t2:=Tryz.underlying2
 a2:=Tryz.isAgg2
 z2:=Tryz.sizeOf2
 v2:=Tryz.zeroValue2
 t3:=Tryz.underlying3
 a3:=Tryz.isAgg3
 z3:=Tryz.sizeOf3
 v3:=Tryz.zeroValue3
 t4:=Tryz.underlying4
 a4:=Tryz.isAgg4
 z4:=Tryz.sizeOf4
 v4:=Tryz.zeroValue4
 t5:=Tryz.underlying5
 a5:=Tryz.isAgg5
 z5:=Tryz.sizeOf5
 v5:=Tryz.zeroValue5
 t9:=Tryz.underlying9
 a9:=Tryz.isAgg9
 z9:=Tryz.sizeOf9
 v9:=Tryz.zeroValue9
 t20:=Tryz.underlying20
 a20:=Tryz.isAgg20
 z20:=Tryz.sizeOf20
 v20:=Tryz.zeroValue20
 t37:=Tryz.underlying161
 a37:=Tryz.isAgg161
 z37:=Tryz.sizeOf161
 v37:=Tryz.zeroValue161
 t46:=Tryz.underlying284
 a46:=Tryz.isAgg284
 z46:=Tryz.sizeOf284
 v46:=Tryz.zeroValue284
 t51:=Tryz.underlying154
 a51:=Tryz.isAgg154
 z51:=Tryz.sizeOf154
 v51:=Tryz.zeroValue154
 t53:=Tryz.underlying275
 a53:=Tryz.isAgg275
 z53:=Tryz.sizeOf275
 v53:=Tryz.zeroValue275
 t171:=Tryz.underlying274
 a171:=Tryz.isAgg274
 z171:=Tryz.sizeOf274
 v171:=Tryz.zeroValue274
 t173:=Tryz.underlying278
 a173:=Tryz.isAgg278
 z173:=Tryz.sizeOf278
 v173:=Tryz.zeroValue278
 t212:=Tryz.underlying289
 a212:=Tryz.isAgg289
 z212:=Tryz.sizeOf289
 v212:=Tryz.zeroValue289
 t213:=Tryz.underlying290
 a213:=Tryz.isAgg290
 z213:=Tryz.sizeOf290
 t232:=Tryz.underlying285
 a232:=Tryz.isAgg285
 z232:=Tryz.sizeOf285
 v232:=Tryz.zeroValue285
 t233:=Tryz.underlying323
 a233:=Tryz.isAgg323
 z233:=Tryz.sizeOf323
 v233:=Tryz.zeroValue323
 g17:=by kernel_rfl
 g18:=by kernel_rfl
 g19:=by kernel_rfl
 i0:=by kernel_rfl
 i2:=by kernel_rfl
 i3:=by kernel_rfl
 i4:=by kernel_rfl
 i5:=by kernel_rfl
 i9:=by kernel_rfl
 i20:=by kernel_rfl
 i37:=by kernel_rfl
 i46:=by kernel_rfl
 i51:=by kernel_rfl
 i53:=by kernel_rfl
 i171:=by kernel_rfl
 i173:=by kernel_rfl
 i212:=by kernel_rfl
 i232:=by kernel_rfl
 i233:=by kernel_rfl
 m17:=by kernel_rfl
 m18:=by kernel_rfl
 m19:=by kernel_rfl}
open Go.RowKit Go.Sort Go.Lib in
theorem Tryz.strconv_Itoa (n:Int) (h0: -9223372036854775808≤n) (h1:n≤9223372036854775807) (w:World) (htab:Lib.TabIs Tryz.prog w "internal/strconv.uint64pow10" .u64 Lib.pow10Tab):
 Calls Tryz.prog 129 #[.int .i64 n] w fun e w'=>e=.returned (.string ⟨(Lib.itoa n).toArray⟩)∧∃k os,w'=grow (w.drewN k) os:=Any.strconv_Itoa Tryz.laysM171 n h0 h1 w htab
open Go.RowKit Go.Sort Go.Lib in
def Tryz.lays189_ren:Go.Shelf.Ren:=⟨fun|189=>219|125=>242|257=>241|128=>257|129=>253|294=>259|295=>260|296=>261|297=>262|298=>263|299=>264|216=>265|300=>266|301=>267|328=>277|329=>278|330=>279|331=>280|332=>281|215=>282|343=>286|n=>n,fun|28=>25|3=>3|46=>284|0=>0|51=>154|53=>275|4=>4|183=>293|182=>292|131=>234|5=>5|9=>9|218=>311|222=>315|228=>324|229=>63|n=>n,fun|n=>n⟩
theorem Tryz.lays189:Go.Proofs.Lays.n189 Tryz.prog Tryz.lays189_ren:={
 mixed:=by kernel_rfl
 f125:=Tryz.func242.trans (congrArg some (by kernel_rfl))
 f128:=Tryz.func257.trans (congrArg some (by kernel_rfl))
 f129:=Tryz.func253.trans (congrArg some (by kernel_rfl))
 f189:=Tryz.func219.trans (congrArg some (by kernel_rfl))
 f215:=Tryz.func282.trans (congrArg some (by kernel_rfl))
 f216:=Tryz.func265.trans (congrArg some (by kernel_rfl))
 f257:=Tryz.func241.trans (congrArg some (by kernel_rfl))
 f294:=Tryz.func259.trans (congrArg some (by kernel_rfl))
 f295:=Tryz.func260.trans (congrArg some (by kernel_rfl))
 f296:=Tryz.func261.trans (congrArg some (by kernel_rfl))
 f297:=Tryz.func262.trans (congrArg some (by kernel_rfl))
 f298:=Tryz.func263.trans (congrArg some (by kernel_rfl))
 f299:=Tryz.func264.trans (congrArg some (by kernel_rfl))
 f300:=Tryz.func266.trans (congrArg some (by kernel_rfl))
 f301:=Tryz.func267.trans (congrArg some (by kernel_rfl))
 f328:=Tryz.func277.trans (congrArg some (by kernel_rfl))
 f329:=Tryz.func278.trans (congrArg some (by kernel_rfl))
 f330:=Tryz.func279.trans (congrArg some (by kernel_rfl))
 f331:=Tryz.func280.trans (congrArg some (by kernel_rfl))
 f332:=Tryz.func281.trans (congrArg some (by kernel_rfl))
 f343:=Tryz.func286.trans (congrArg some (by kernel_rfl))
 t0:=Tryz.underlying0
 a0:=Tryz.isAgg0
 z0:=Tryz.sizeOf0
 v0:=Tryz.zeroValue0
 t3:=Tryz.underlying3
 a3:=Tryz.isAgg3
 z3:=Tryz.sizeOf3
 v3:=Tryz.zeroValue3
 t4:=Tryz.underlying4
 a4:=Tryz.isAgg4
 z4:=Tryz.sizeOf4
 v4:=Tryz.zeroValue4
 t5:=Tryz.underlying5
 a5:=Tryz.isAgg5
 z5:=Tryz.sizeOf5
 v5:=Tryz.zeroValue5
 t9:=Tryz.underlying9
 a9:=Tryz.isAgg9
 z9:=Tryz.sizeOf9
 v9:=Tryz.zeroValue9
 t28:=Tryz.underlying25
 a28:=Tryz.isAgg25
 z28:=Tryz.sizeOf25
 v28:=Tryz.zeroValue25
 t46:=Tryz.underlying284
 a46:=Tryz.isAgg284
 z46:=Tryz.sizeOf284
 v46:=Tryz.zeroValue284
 t51:=Tryz.underlying154
 a51:=Tryz.isAgg154
 z51:=Tryz.sizeOf154
 v51:=Tryz.zeroValue154
 t53:=Tryz.underlying275
 a53:=Tryz.isAgg275
 z53:=Tryz.sizeOf275
 v53:=Tryz.zeroValue275
 t131:=Tryz.underlying234
 a131:=Tryz.isAgg234
 z131:=Tryz.sizeOf234
 v131:=Tryz.zeroValue234
 t182:=Tryz.underlying292
 a182:=Tryz.isAgg292
 z182:=Tryz.sizeOf292
 v182:=Tryz.zeroValue292
 t183:=Tryz.underlying293
 a183:=Tryz.isAgg293
 z183:=Tryz.sizeOf293
 v183:=Tryz.zeroValue293
 t218:=Tryz.underlying311
 a218:=Tryz.isAgg311
 z218:=Tryz.sizeOf311
 v218:=Tryz.zeroValue311
 t222:=Tryz.underlying315
 a222:=Tryz.isAgg315
 z222:=Tryz.sizeOf315
 v222:=Tryz.zeroValue315
 t228:=Tryz.underlying324
 a228:=Tryz.isAgg324
 z228:=Tryz.sizeOf324
 v228:=Tryz.zeroValue324
 t229:=Tryz.underlying63
 a229:=Tryz.isAgg63
 z229:=Tryz.sizeOf63
 v229:=Tryz.zeroValue63}
open Go.Sort Go.RowKit in
theorem Tryz.slices_Sort_int (blk off cap:Nat) (zs:List Int) (w:World) (hH:Holds (Value.int .i64) w blk off zs.toArray) (hblk:blk<w.heap.size) (hsz:zs.length<4611686018427387904):
 Calls Tryz.prog 219 #[.slice (some ⟨blk,off,none⟩) zs.length cap] w fun e w'=>
  e=.returned (.tuple #[])∧∃n os,w'=grow (putRow (Value.int .i64) (Sort.ahead w n) blk off (zs.mergeSort fun x y=>decide (x≤y)).toArray) os:=Any.slices_Sort_int Tryz.lays189 blk off cap zs w hH hblk hsz
end Go.Proofs
namespace Go.Eng.YtcechbdgokjmgaaGreatDoor
open Go.Proofs
set_option linter.unusedSimpArgs false
set_option linter.unusedVariables false
set_option maxHeartbeats 0
set_option maxRecDepth 100000
theorem adN:te3.bytes=8:=by rfl
theorem adO:te4.bytes=1:=by rfl
theorem adP:te3.size=1:=by rfl
theorem adQ:te4.size=1:=by rfl
theorem abP:zV.size=1:=by rfl
theorem zW:Ei.size=4:=by rfl
theorem vn:(∀(cs:List PV),CL.cnt (.pv cs)=cs.length)∧(∀(cs:List PV),CL.ncell (.pv cs)=cs.length)∧(∀(k:IntKind) (xs:List Int),CL.cnt (.ints k xs)=xs.length)∧(∀(k:IntKind) (xs:List Int),CL.ncell (.ints k xs)=xs.length)∧(∀(xs:List Bool),CL.cnt (.bools xs)=xs.length)∧(∀(xs:List Bool),CL.ncell (.bools xs)=xs.length)∧(∀(xs:List ByteArray),CL.cnt (.strs xs)=xs.length)∧(∀(xs:List ByteArray),CL.ncell (.strs xs)=xs.length)∧(∀(k:IntKind) (xss:List (List Int)),CL.cnt (.rows k xss)=xss.length)∧(∀(k:IntKind) (xss:List (List Int)),CL.ncell (.rows k xss)=xss.length)∧(∀(m:Nat) (rs:List (List PV)),CL.cnt (.recs m rs)=rs.length)∧(∀(m:Nat) (rs:List (List PV)),CL.ncell (.recs m rs)=rs.length*m)∧(∀(n:Nat) (f:Nat→PV),CL.cnt (.gen n f)=n)∧(∀(n:Nat) (f:Nat→PV),CL.ncell (.gen n f)=n)∧(∀(m n:Nat) (f:Nat→List PV),CL.cnt (.genr m n f)=n)∧(∀(m n:Nat) (f:Nat→List PV),CL.ncell (.genr m n f)=n*m):=
 ⟨fun _=>rfl,fun _=>rfl,fun _ _=>rfl,fun _ _=>rfl,fun _=>rfl,fun _=>rfl,fun _=>rfl,fun _=>rfl,fun _ _=>rfl,fun _ _=>rfl,fun _ _=>rfl,fun _ _=>rfl,fun _ _=>rfl,fun _ _=>rfl,fun _ _ _=>rfl,fun _ _ _=>rfl⟩
theorem vp:((∀(cs:List PV),CL.cnt (.pv cs)=cs.length)∧(∀(cs:List PV),CL.ncell (.pv cs)=cs.length)∧(∀(k:IntKind) (xs:List Int),CL.cnt (.ints k xs)=xs.length)∧(∀(k:IntKind) (xs:List Int),CL.ncell (.ints k xs)=xs.length)∧(∀(xs:List Bool),CL.cnt (.bools xs)=xs.length)∧(∀(xs:List Bool),CL.ncell (.bools xs)=xs.length)∧(∀(xs:List ByteArray),CL.cnt (.strs xs)=xs.length)∧(∀(xs:List ByteArray),CL.ncell (.strs xs)=xs.length)∧(∀(k:IntKind) (xss:List (List Int)),CL.cnt (.rows k xss)=xss.length)∧(∀(k:IntKind) (xss:List (List Int)),CL.ncell (.rows k xss)=xss.length)∧(∀(m:Nat) (rs:List (List PV)),CL.cnt (.recs m rs)=rs.length)∧(∀(m:Nat) (rs:List (List PV)),CL.ncell (.recs m rs)=rs.length*m)∧(∀(n:Nat) (f:Nat→PV),CL.cnt (.gen n f)=n)∧(∀(n:Nat) (f:Nat→PV),CL.ncell (.gen n f)=n)∧(∀(m n:Nat) (f:Nat→List PV),CL.cnt (.genr m n f)=n)∧(∀(m n:Nat) (f:Nat→List PV),CL.ncell (.genr m n f)=n*m))∧zV.size=1∧(∀n:Nat,((n:Int)).toNat=n)∧te3.bytes=8∧te4.bytes=1∧te3.size=1∧te4.size=1∧(∀n:Nat,n*1=n)∧(∀n:Nat,0+n=n)∧((false=true)=False)∧((true=false)=False):=
 ⟨vn,abP,af7,adN,adO,adP,adQ,afA,afr,by simp,by simp⟩
theorem vq:(∀(p:Prop) [Decidable p],(decide p=true)=p)∧(∀(p:Prop) [Decidable p],(decide p=false)=¬p)∧(∀b:Bool,(¬b=true)=(b=false))∧((!false)=true)∧((!true)=false)∧(∀p:Prop,(p∧p)=p)∧(∀p:Prop,(p∧True)=p)∧(∀p:Prop,(True∧p)=p)∧(∀(α:Type) (a:α) (l:List α),(a::l).length=l.length+1)∧(∀α:Type,([]:List α).length=0)∧((∀(cs:List PV),CL.cnt (.pv cs)=cs.length)∧(∀(cs:List PV),CL.ncell (.pv cs)=cs.length)∧(∀(k:IntKind) (xs:List Int),CL.cnt (.ints k xs)=xs.length)∧(∀(k:IntKind) (xs:List Int),CL.ncell (.ints k xs)=xs.length)∧(∀(xs:List Bool),CL.cnt (.bools xs)=xs.length)∧(∀(xs:List Bool),CL.ncell (.bools xs)=xs.length)∧(∀(xs:List ByteArray),CL.cnt (.strs xs)=xs.length)∧(∀(xs:List ByteArray),CL.ncell (.strs xs)=xs.length)∧(∀(k:IntKind) (xss:List (List Int)),CL.cnt (.rows k xss)=xss.length)∧(∀(k:IntKind) (xss:List (List Int)),CL.ncell (.rows k xss)=xss.length)∧(∀(m:Nat) (rs:List (List PV)),CL.cnt (.recs m rs)=rs.length)∧(∀(m:Nat) (rs:List (List PV)),CL.ncell (.recs m rs)=rs.length*m)∧(∀(n:Nat) (f:Nat→PV),CL.cnt (.gen n f)=n)∧(∀(n:Nat) (f:Nat→PV),CL.ncell (.gen n f)=n)∧(∀(m n:Nat) (f:Nat→List PV),CL.cnt (.genr m n f)=n)∧(∀(m n:Nat) (f:Nat→List PV),CL.ncell (.genr m n f)=n*m))∧zV.size=1∧(∀n:Nat,((n:Int)).toNat=n)∧te3.bytes=8∧te4.bytes=1∧te3.size=1∧te4.size=1∧(∀n:Nat,n*1=n)∧(∀n:Nat,0+n=n)∧((false=true)=False)∧((true=false)=False):=
 ⟨fun p _=>decide_eq_true_eq,fun p _=>propext decide_eq_false_iff_not,fun b=>by simp,rfl,rfl,and_self,and_true,true_and,fun _ _ _=>rfl,fun _=>rfl,vp⟩
def gW:PSp:=fun xs K=>match xs with
 | [.bp h,.int .i64 e]=>K (.int .i64 (if h then e else 0))
 | [.bool h,.int .i64 e]=>K (.int .i64 (if h then e else 0))
 |_=>False
def aK:List Int→Int
 | []=>0
 |x::r=>if x=0 then aK r else x
theorem vE:∀(l:List Int),(∀i,i<l.length→l.getD i 0=0)→aK l=0:=by
 intro l;induction l with
 |nil=>intro _;rfl
 |cons x r ih=>
  intro h;have h0:=h 0 (by simp)
  simp at h0;subst h0;exact ih fun i hi=>by simpa using h (i+1) (by simpa using hi)
theorem ku:∀(l:List Int) (k:Nat),k<l.length→(∀i,i<k→l.getD i 0=0)→l.getD k 0≠0→aK l=l.getD k 0:=by
 intro l;induction l with
 |nil=>intro k hk;simp at hk
 |cons x r ih=>
  intro k hk h hne;cases k with
  |zero=>simp at hne;simp[aK,hne]
  |succ k=>
   have h0:=h 0 (by omega)
   simp at h0;subst h0;have:=ih k (by simpa using hk) (fun i hi=>by simpa using h (i+1) (by omega)) (by simpa using hne)
   simp[aK,this]
theorem PU {go:List PV→Bool} {L:List PV} {i:Nat} {x:PV} (h:L[i]? =some x) (hg:GoTo go L i):Nxt go L (L.take i) x:=⟨i,(agO.1 h).1,rfl,h,hg⟩
def itB (n:Int):ByteArray:=⟨(Go.Lib.itoa n).toArray⟩
def nT (n:Int):Prop:= -9223372036854775808≤n∧n≤9223372036854775807
theorem pO {n:Int} (h:nT n):(itB n).size≤21:=by
 have:=Go.Lib.itoa_length_le n h.1 h.2;simpa [itB,ByteArray.size]using this
theorem PW {S:Imm} {w:World} (h:gB S w):Lib.TabIs Tryz.prog w "internal/strconv.uint64pow10" .u64 Lib.pow10Tab:=by
 obtain⟨h0,h1⟩:=h 2 _ rfl;have e:nC=Lib.pow10Tab:=by decide
 unfold Lib.TabIs World.var?;rw[show Tryz.prog.globalNamed "internal/strconv.uint64pow10" =some 2 from by kernel_rfl,agu,←e]
 unfold bsz at h0;split at h0
 ·rename_i cs t f hb
  rw[hb];refine congrArg some (Array.ext_getElem? fun j=>?_);have hsz:cs.size=nC.length:=by simpa [CL.ncell]using h0
  rcases Nat.lt_or_ge j nC.length with hj|hj
  ·obtain⟨_,hr⟩:=h1 j (by simpa [CL.ncell]using hj)
   have h2:rd w 2 j=some cs[j]:=by simp[rd,hb,hsz,hj]
   have h3:rdv w 2 j=cs[j]:=by unfold rdv;rw[h2];rfl
   rw[h3]at hr;rw[Array.getElem?_eq_getElem (by omega)]
   have h4:(CL.ints .u64 nC).get j=.int .u64 (nC.getD j 0):=rfl;rw[h4]at hr;generalize cs[j]=y at hr
   cases hr
   simp[afe,hj]
  ·rw[ae5 (by omega),ae5 (by simpa using hj)]
 ·cases h0
theorem PX (n:Int) (h:nT n):aF Tryz.prog 129 [.int .i64 n] (.str (itB n)):=by
 refine qD (enters' Tryz.func129 (by rfl) (by rfl)) fun S w vs hg himm hA=>?_
 have h0:=hA.2 0 (by simp)
 have hsz:vs.size=1:=hA.1.symm;simp only[aC]at h0;have hvs:vs= #[vs.getD 0 undef]:=by
  apply agj (by simp[hsz])
  intro i h1 h2;have:i=0:=by omega
  subst this;simp[afb,h1]
 rw[hvs];generalize vs.getD 0 undef=v0 at h0
 cases h0
 refine⟨_,.str _ _,?_⟩;refine(Tryz.strconv_Itoa n h.1 h.2 w (PW hg)).mono ?_
 rintro e w' ⟨rfl,k,os,rfl⟩
 exact⟨rfl,Lib.below_grow _ _ (ae3 _) _ _⟩
def Ej:PSp:=fun xs K=>match xs with
 | [.int .i64 n]=>VC (nT n)∧K (.str (itB n))
 |_=>False
theorem JW:POK Tryz.prog 129 Ej:=by
 intro xs K h;unfold Ej at h;split at h
 ·exact⟨_,h.2,PX _ h.1.get⟩
 ·exact h.elim
def joB (xs:List ByteArray) (sep:ByteArray):ByteArray:=⟨(Go.Lib.join (xs.map (·.data.toList)) sep.data.toList).toArray⟩
theorem PY (xs:List ByteArray) (sep:ByteArray) (h:xs.length≤1000000) (hl:(joB xs sep).size≤140737488355328):aF Tryz.prog 158 [.isl (.strs xs) .none,.str sep] (.str (joB xs sep)):=by
 refine iI (enters' Tryz.func158 (by rfl) (by rfl)) fun S w vs himm hA=>?_
 have h0:=hA.2 0 (by simp)
 have h1:=hA.2 1 (by simp)
 have hsz:vs.size=2:=hA.1.symm;simp only[aC]at h0 h1;have hvs:vs= #[vs.getD 0 undef,vs.getD 1 undef]:=by
  apply agj (by simp[hsz])
  intro i h1 h2;have:i=0∨i=1:=by omega
  rcases this with rfl|rfl<;>simp[afb,h1]
 rw[hvs];generalize vs.getD 0 undef=v0 at h0
 generalize vs.getD 1 undef=v1 at h1
 cases h1
 refine⟨.string (joB xs sep),.str _ _,?_⟩;rcases PE himm h0 with⟨a,rfl,rfl⟩|⟨b,off,cap,rfl,hc,hcell,hb⟩
 ·refine(Tryz.strings_Join_none a 0 sep w).mono ?_
  rintro e w' ⟨rfl,rfl⟩
  exact⟨rfl,.refl _ _⟩
 ·rcases afN xs.length with hz|hz
  ·obtain rfl:xs=[]:=List.eq_nil_of_length_eq_zero hz
   refine(Tryz.strings_Join_none (some ⟨b,off,none⟩) cap sep w).mono ?_
   rintro e w' ⟨rfl,rfl⟩
   exact⟨rfl,.refl _ _⟩
  ·refine(Tryz.strings_Join b off cap xs sep w hcell (hb hz) (by omega) hc (by simpa [joB,ByteArray.size]using hl)).mono ?_
   rintro e w' ⟨rfl,hB⟩
   exact⟨rfl,hB⟩
def M0:PSp:=fun xs K=>match xs with
 | [.isl (.strs xs) .none,.str sep]=>VC (xs.length≤1000000∧(joB xs sep).size≤140737488355328)∧K (.str (joB xs sep))
 |_=>False
theorem YD:POK Tryz.prog 158 M0:=by
 intro xs K h;unfold M0 at h;split at h
 ·exact⟨_,h.2,PY _ _ h.1.get.1 h.1.get.2⟩
 ·exact h.elim
def kBl:ByteArray:=⟨#[32]⟩
theorem YE {xs:List ByteArray} {b:Nat} (h:∀x∈xs,x.size≤b):Go.Lib.lens (xs.map (·.data.toList))≤xs.length*b:=by
 induction xs with
 |nil=>simp[Go.Lib.lens]
 |cons x xs ih=>
  have h1:=ih fun y hy=>h y (agM _ hy);have h2:=h x (ag1 ..);simp only[Go.Lib.lens,ag2,List.sum_cons,aeZ]at h1⊢;have h3:x.data.toList.length=x.size:=by rw[afD];rfl
  rw[h3,ae2];omega
theorem FX {xs:List ByteArray} {b:Nat} (h:∀x∈xs,x.size≤b):(joB xs kBl).size≤xs.length*(b+1):=by
 cases xs with
 |nil=>exact afO _
 |cons x xs=>
  have h1:=YE (xs:=xs) fun y hy=>h y (agM _ hy);have h2:=h x (ag1 ..);have h3:x.data.toList.length=x.size:=by rw[afD];rfl
  have e:(joB (x::xs) kBl).size=x.size+(xs.length+Go.Lib.lens (xs.map (·.data.toList))):=by
   show(List.toArray _).size=_;have e1:kBl.data.toList.length=1:=rfl;rw[List.size_toArray,ag2,Go.Lib.join_cons,agl,Go.Lib.joinTail_length,ag3,e1,h3,Nat.one_mul]
  rw[e,aeZ,ae2,ag4];omega
noncomputable def adR:CPT:=aA 158 (aB M0) noC
theorem YF:aZ Tryz.prog adR:=aj (au YD) aD
theorem M8 (xs:List ByteArray) (h:xs.length≤1000000) (hl:(joB xs kBl).size≤140737488355328):aF Tryz.prog 107 [.isl (.strs xs) .none] (.str (joB xs kBl)):=by
 unfold kBl at*;refine av (md:=1) (rf:=[]) mixed ak YF Tryz.func107 (by rfl) (by rfl) (by rfl) ?_
 repeat'((conv=>whnf);first|intro _|apply aI|with_reducible exact vM rfl|exact⟨⟩|apply nM|apply fM)
 all_goals((try apply vM);(try simp only[vq]at*);try omega)
 all_goals first|exact⟨h,hl⟩|exact Sup.of rfl|exact fun h=>h
structure Sz (xs:List ByteArray) (n:Nat):Prop where
 len:xs.length≤n
 sz:∀x∈xs,x.size≤4000
def zX:PSp:=fun xs K=>match xs with
 | [.isl (.strs ws) .none]=>VC (Sz ws 1000000)∧K (.str (joB ws kBl))
 |_=>False
theorem FY:POK Tryz.prog 107 zX:=by
 intro xs K hk;unfold zX at hk;split at hk
 ·refine⟨_,hk.2,M8 _ hk.1.get.len ?_⟩
  have h1:=FX hk.1.get.sz;have h2:=hk.1.get.len;have:(4000+1)*1000000≤140737488355328:=by decide
  refine agR h1 (agR (Nat.mul_le_mul_right _ h2) ?_);decide
 ·exact hk.elim
def nJ (l:List Int) (m:Nat):List ByteArray:=(l.take m).map itB
theorem Jg (l:List Int) (m:Nat) (h:m<l.length):nJ l (m+1)=nJ l m++[itB (l.getD m 0)]:=by
 unfold nJ;rw[ag5,ag6,afe,afj h];rfl
theorem zY (l:List Int) (m:Nat) (h:m≤l.length):(nJ l m).length=m:=by simp[nJ];omega
noncomputable def adS:CPT:=aA 129 (aB Ej) noC
theorem JX:aZ Tryz.prog adS:=aj (au JW) aD
structure SA (l:List Int):Prop where
 len:l.length≤1000000
 num:∀i,i<l.length→nT (l.getD i 0)
theorem M9 (l:List Int) (h:SA l):aF Tryz.prog 108 [.isl (.ints .i64 l) .none] (.isl (.strs (l.map itB)) .none):=by
 obtain⟨hl,hn⟩:=h;refine av (md:=1) (rf:=[]) mixed ak JX Tryz.func108 (by rfl) (by rfl) (by rfl) ?_
 repeat'((conv=>whnf);first|intro _|apply aI|with_reducible exact vM rfl|exact⟨⟩|apply nM|apply fM)
 all_goals((try apply vM);(try simp only[vq]at*);try omega)
 conv=>whnf
 refine aL (X:=Nat) (fun i=>i≤l.length) (fun i=>[(8,.int .i64 i),(3,.isl (.strs (nJ l i)) (.own 3)),(5,.any)]) (fun i=>[(3,.tok 1 i)]) (fun i=>l.length-i) 0 ⟨aJ,mixed,ak,JX,aP⟩ (by rfl) (by omega) ?_ ?_
 ·repeat'((conv=>whnf);first|intro _|apply aI|with_reducible exact vM rfl|exact⟨⟩|apply nM|apply fM)
  all_goals((try apply vM);(try simp only[vq]at*);try omega)
 intro i hi;by_cases hlt:i<l.length
 ·have e0:=zY l i hi
  have e1:=Jg l i hlt;have e2:=hn i hlt
  repeat'((conv=>whnf);first|intro _|apply aI|with_reducible exact vM rfl|exact⟨⟩|apply nM|apply fM)
  all_goals((try apply vM);(try simp only[vq]at*);try omega)
  all_goals(try exact e2)
  all_goals(try(simp only[agl,aeZ,aeV];omega))
  refine⟨i+1,[],⟨by omega,by omega⟩,?_⟩
  repeat'((conv=>whnf);first|intro _|apply aI|with_reducible exact vM rfl|exact⟨⟩|apply nM|apply fM)
  all_goals((try apply vM);(try simp only[vq]at*);try omega)
  all_goals(try(rw[e1]))
 ·have:l.length=i:=by omega
  subst this;have e0:=zY l l.length (ae3 _);have e3:nJ l l.length=l.map itB:=by unfold nJ;rw[ag7]
  repeat'((conv=>whnf);first|intro _|apply aI|with_reducible exact vM rfl|exact⟨⟩|apply nM|apply fM)
  all_goals((try apply vM);(try simp only[vq]at*);try omega)
  rw[e3];exact Sup.of rfl
def FZ:PSp:=fun xs K=>match xs with
 | [.isl (.ints .i64 l) .none]=>VC (SA l)∧K (.isl (.strs (l.map itB)) .none)
 |_=>False
theorem SB:POK Tryz.prog 108 FZ:=by
 intro xs K h;unfold FZ at h;split at h
 ·exact⟨_,h.2,M9 _ h.1.get⟩
 ·exact h.elim
end Go.Eng.YtcechbdgokjmgaaGreatDoor
namespace Go.Eng.YtcechbdgokjmgaaGreatDoor
open Go.Proofs Go.RowKit
set_option linter.unusedSimpArgs false
set_option linter.unusedVariables false
set_option maxHeartbeats 0
set_option maxRecDepth 100000
def spl (c:UInt8):List UInt8→List (List UInt8)
 | []=>[[]]
 |x::r=>if x=c then []::spl c r else match spl c r with
  | []=>[]
  |a::t=>(x::a)::t
theorem PZ (c:UInt8):∀l,spl c l≠[]:=by
 intro l;induction l with
 |nil=>simp[spl]
 |cons x r ih=>
  unfold spl;split
  ·simp
  ·cases h:spl c r with
   |nil=>exact absurd h ih
   |cons a t=>simp
theorem Na (c:UInt8):∀(l:List UInt8),Go.Lib.splitK [c] 0 (l.count c) l=spl c l:=by
 intro l;induction l with
 |nil=>rfl
 |cons x r ih=>
  by_cases e:x=c
  ·subst e
   have hi:Go.Lib.index (x::r) [x]=0:=by rw[Go.Lib.index_one];simp[Go.Lib.indexByte]
   rw[List.count_cons_self];unfold Go.Lib.splitK;rw[hi,if_neg (by decide)]
   show []::Go.Lib.splitK [x] 0 (r.count x) r=_;rw[ih];unfold spl;rw[if_pos rfl];cases r<;>rfl
  ·rw[List.count_cons_of_ne e]
   have hs:spl c (x::r)=match spl c r with| []=>[]|a::t=>(x::a)::t:=by
    conv=>lhs;unfold spl
    rw[if_neg e]
   rw[hs,←ih];cases hk:r.count c with
   |zero=>rfl
   |succ k=>
    have hi:Go.Lib.index (x::r) [c]=if Go.Lib.index r [c]= -1 then-1 else Go.Lib.index r [c]+1:=by
     rw[Go.Lib.index_one,Go.Lib.index_one];conv=>lhs;unfold Go.Lib.indexByte
     simp[e]
    have hne:Go.Lib.index r [c]≠ -1:=fun h=>by
     rw[Go.Lib.index_one]at h;have:=Go.Lib.indexByte_none h;have hm:c∈r:=List.count_pos_iff.1 (by omega)
     obtain⟨i,hi,he⟩:=afi hm;exact this i (by rw[afj hi,he])
    have hge:=Go.Lib.indexByte_ge r c;rw[←Go.Lib.index_one]at hge;unfold Go.Lib.splitK;rw[hi,if_neg hne,if_neg (by simp;omega),if_neg (by simpa using hne)]
    obtain⟨n,hn⟩:∃n:Nat,Go.Lib.index r [c]=n:=⟨(Go.Lib.index r [c]).toNat,by omega⟩
    rw[hn];rfl
def dF (c:UInt8) (s:ByteArray):List ByteArray:=(spl c s.data.toList).map fun l=>⟨l.toArray⟩
theorem zZ (c:UInt8) (s:ByteArray):Go.Lib.splitB ⟨#[c]⟩ 0 (Go.Lib.countB s ⟨#[c]⟩) s=dF c s:=by
 have h:=Go.Lib.splitB_data ⟨#[c]⟩ 0 (Go.Lib.countB s ⟨#[c]⟩) s;have e:Go.Lib.countB s ⟨#[c]⟩=s.data.toList.count c:=Go.Lib.count_one c _;rw[e]at h⊢;unfold dF;rw[←Na,show Go.Lib.splitK [c] 0 (s.data.toList.count c) s.data.toList=Go.Lib.splitK (ByteArray.mk #[c]).data.toList 0 (s.data.toList.count c) s.data.toList from rfl,←h,List.map_map];conv=>lhs;rw[←List.map_id (Go.Lib.splitB _ _ _ _)]
 rfl
theorem SC (s:ByteArray) (c:UInt8) (hs:s.size<4294967281):aF Tryz.prog 160 [.str s,.str ⟨#[c]⟩,.int .i64 0,.int .i64 (-1)] (.isl (.strs (dF c s)) .none):=by
 refine FN (enters' Tryz.func160 (by rfl) (by rfl)) (.strs (dF c s)) fun S w vs himm hA=>?_
 have h0:=hA.2 0 (by simp)
 have h1:=hA.2 1 (by simp)
 have h2:=hA.2 2 (by simp)
 have h3:=hA.2 3 (by simp)
 have hsz:vs.size=4:=hA.1.symm;simp only[aC]at h0 h1 h2 h3;have hvs:vs= #[vs.getD 0 undef,vs.getD 1 undef,vs.getD 2 undef,vs.getD 3 undef]:=by
  apply agj (by simp[hsz])
  intro i h1 h2;have:i=0∨i=1∨i=2∨i=3:=by omega
  rcases this with rfl|rfl|rfl|rfl<;>simp[afb,h1]
 rw[hvs];generalize vs.getD 0 undef=v0 at h0
 generalize vs.getD 1 undef=v1 at h1
 generalize vs.getD 2 undef=v2 at h2
 generalize vs.getD 3 undef=v3 at h3
 cases h0;cases h1;cases h2;cases h3
 have hlen:(dF c s).length=Go.Lib.countB s ⟨#[c]⟩+1:=by rw[←zZ];exact Go.Lib.splitB_all ⟨#[c]⟩ (ae3 1) 0 _ s rfl
 have hcl:=Tryz.genSplit_one s c w hs;rw[zZ]at hcl;refine⟨Go.Lib.cellsOf (dF c s) (Go.Lib.countB s ⟨#[c]⟩+1),9,Go.Lib.countB s ⟨#[c]⟩+1,?_,?_,fun j hj S' w'=>?_,hcl⟩
 ·simp only[CL.cnt];omega
 ·simp only[CL.ncell];rw[Go.Lib.cellsOf_size (by omega)];omega
 ·simp only[CL.ncell]at hj
  have:(Go.Lib.cellsOf (dF c s) (Go.Lib.countB s ⟨#[c]⟩+1)).getD j undef=.string ((dF c s).getD j .empty):=by
   rw[←hlen,Go.Lib.cellsOf_full];simp[afb,afe,hj]
  rw[this];exact .str _ _
def SE:PSp:=fun xs K=>match xs with
 | [.str s,.str sep,.int .i64 a,.int .i64 b]=>∃c:UInt8,VC (sep=⟨#[c]⟩∧a=0∧b= -1∧s.size<4294967281)∧K (.isl (.strs (dF c s)) .none)
 |_=>False
theorem abQ:POK Tryz.prog 160 SE:=by
 intro xs K hk;unfold SE at hk;split at hk
 ·obtain⟨c,⟨rfl,rfl,rfl,h⟩,hk⟩:=hk
  exact⟨_,hk,SC _ _ h⟩
 ·exact hk.elim
noncomputable def adT:CPT:=aA 160 (aB SE) noC
theorem YG:aZ Tryz.prog adT:=aj (au abQ) aD
theorem Nb (s:ByteArray) (c:UInt8) (hs:s.size<4294967281):aF Tryz.prog 113 [.str s,.str ⟨#[c]⟩] (.isl (.strs (dF c s)) .none):=by
 refine av (md:=1) (rf:=[]) mixed ak YG Tryz.func113 (by rfl) (by rfl) (by rfl) ?_
 repeat'((conv=>whnf);first|refine Exists.intro (c) ?_|(intro hq;(try simp only[vw]at hq);try first|exact absurd hq (by decide)|exfalso;omega)|apply aI|with_reducible exact vM rfl|exact⟨⟩|apply nM|apply fM)
 all_goals((try apply vM);(try simp only[vq]at*);try omega)
 all_goals first|exact hs|exact⟨rfl,rfl,rfl,hs⟩|exact Sup.of rfl|skip
def z8:PSp:=fun xs K=>match xs with
 | [.str s,.str sep]=>∃c:UInt8,VC (sep=⟨#[c]⟩∧s.size<4294967281)∧K (.isl (.strs (dF c s)) .none)
 |_=>False
theorem F3:POK Tryz.prog 113 z8:=by
 intro xs K hk;unfold z8 at hk;split at hk
 ·obtain⟨c,⟨rfl,h⟩,hk⟩:=hk
  exact⟨_,hk,Nb _ _ h⟩
 ·exact hk.elim
theorem yx {S:Imm} {w:World} {s p:ByteArray} {vs:Array Value} (h:bB S w noI [.str s,.str p] vs):vs= #[.string s,.string p]:=by
 obtain⟨v,u,rfl,h1,h2⟩:=FM h;cases h1;cases h2;rfl
def F4 (s p:ByteArray):Bool:=Go.Lib.hasSuffix s.data.toList p.data.toList
theorem SF (s p:ByteArray) (hs:s.size≤9223372036854775807):aF Tryz.prog 112 [.str s,.str p] (.bp (F4 s p)):=by
 refine iI (enters' Tryz.func112 (by rfl) (by rfl)) fun S w vs himm hA=>?_
 rw[yx hA];refine⟨_,.bp _ _,(Tryz.strings_HasSuffix s p w hs).mono ?_⟩
 rintro e w' ⟨rfl,rfl⟩
 exact⟨rfl,.refl _ _⟩
def SG:PSp:=fun xs K=>match xs with
 | [.str s,.str p]=>VC (s.size≤9223372036854775807)∧K (.bp (F4 s p))
 |_=>False
theorem abR:POK Tryz.prog 112 SG:=by
 intro xs K h;unfold SG at h;split at h
 ·exact⟨_,h.2,SF _ _ h.1.get⟩
 ·exact h.elim
def jB (s p:ByteArray):ByteArray:=⟨(Go.Lib.trimSuffix s.data.toList p.data.toList).toArray⟩
theorem SH (s p:ByteArray) (hs:s.size≤9223372036854775807):aF Tryz.prog 114 [.str s,.str p] (.str (jB s p)):=by
 refine iI (enters' Tryz.func114 (by rfl) (by rfl)) fun S w vs himm hA=>?_
 rw[yx hA];refine⟨_,.str _ _,(Tryz.strings_TrimSuffix s p w hs).mono ?_⟩
 rintro e w' ⟨rfl,rfl⟩
 exact⟨rfl,.refl _ _⟩
def SI:PSp:=fun xs K=>match xs with
 | [.str s,.str p]=>VC (s.size≤9223372036854775807)∧K (.str (jB s p))
 |_=>False
theorem abS:POK Tryz.prog 114 SI:=by
 intro xs K h;unfold SI at h;split at h
 ·exact⟨_,h.2,SH _ _ h.1.get⟩
 ·exact h.elim
def kJ (s p:ByteArray):ByteArray:=⟨(Go.Lib.trimPrefix s.data.toList p.data.toList).toArray⟩
def preB (s p:ByteArray):Bool:=Go.Lib.hasPrefix s.data.toList p.data.toList
theorem SK (s p:ByteArray):aF Tryz.prog 229 [.str s,.str p] (.tup [.str (kJ s p),.bp (preB s p)]):=by
 refine iI (enters' Tryz.func229 (by rfl) (by rfl)) fun S w vs himm hA=>?_
 rw[yx hA];refine⟨.tuple #[.string (kJ s p),.bool (preB s p)],.tup _ _ _ rfl (fun i hi=>by
  match i,hi with
  |0,_=>exact .str _ _
  |1,_=>exact .bp _ _),(Tryz.strings_CutPrefix s p w).mono ?_⟩
 rintro e w' ⟨rfl,rfl⟩
 exact⟨rfl,.refl _ _⟩
def SL:PSp:=fun xs K=>match xs with
 | [.str s,.str p]=>VC (True)∧K (.tup [.str (kJ s p),.bp (preB s p)])
 |_=>False
theorem abT:POK Tryz.prog 229 SL:=by
 intro xs K h;unfold SL at h;split at h
 ·exact⟨_,h.2,SK _ _⟩
 ·exact h.elim
theorem P5 (s:ByteArray) (n:Int) (hl:s.size≤18) (h:Go.Lib.atoi s.data.toList=some n):aF Tryz.prog 230 [.str s] (.tup [.int .i64 n,.nili]):=by
 refine iI (enters' Tryz.func230 (by rfl) (by rfl)) fun S w vs himm hA=>?_
 obtain⟨v,rfl,h1⟩:=yj hA;cases h1
 refine⟨.tuple #[.int .i64 n,.nilIface],.tup _ _ _ rfl (fun i hi=>by
  match i,hi with
  |0,_=>exact .int _ _ _
  |1,_=>exact .nili _),(Tryz.strconv_Atoi s n hl h w).mono ?_⟩
 rintro e w' ⟨rfl,t,rfl⟩
 exact⟨rfl,⟨by unfold Lib.bytesWorld World.freeze;split<;>rfl,by unfold Lib.bytesWorld World.freeze;split<;>rfl,by unfold Lib.bytesWorld World.freeze;split<;>rfl,by rw[Lib.bytesWorld_size];omega,fun i hi=>Lib.bytesWorld_at_old w 5 t i hi⟩⟩
def Nc:PSp:=fun xs K=>match xs with
 | [.str s]=>∃n:Int,VC (s.size≤18∧Go.Lib.atoi s.data.toList=some n)∧K (.tup [.int .i64 n,.nili])
 |_=>False
theorem YH:POK Tryz.prog 230 Nc:=by
 intro xs K hk;unfold Nc at hk;split at hk
 ·obtain⟨n,⟨h1,h2⟩,hk⟩:=hk
  exact⟨_,hk,P5 _ _ h1 h2⟩
 ·exact hk.elim
end Go.Eng.YtcechbdgokjmgaaGreatDoor
namespace Go.Eng.YtcechbdgokjmgaaGreatDoor
set_option linter.unusedSimpArgs false
set_option linter.unusedVariables false
def mkA (a:Nat) (l:List Int):Nat:=l.foldl (fun a x=>a|||2 ^ x.toNat) a
def mk (l:List Int):Nat:=mkA 0 l
def InM (l:List Int):Prop:=∀x∈l,0≤x∧x≤31
theorem YI:∀(l:List Int) (a i:Nat),InM l→(mkA a l).testBit i=(a.testBit i||decide ((i:Int)∈l)):=by
 intro l;induction l with
 |nil=>intro a i _;simp[mkA]
 |cons x l ih=>
  intro a i h;have hx:=h x (by simp)
  have:mkA a (x::l)=mkA (a|||2 ^ x.toNat) l:=rfl;rw[this,ih _ _ (fun y hy=>h y (by simp[hy])),Nat.testBit_or,ag8]
  have e:decide (x.toNat=i)=decide ((i:Int)=x):=by by_cases e:x.toNat=i<;>simp<;>omega
  rw[e,Bool.or_assoc];congr 1;rw[ag9];simp
theorem JY (i:Nat):(1:Nat).testBit i=decide (i=0):=by
 have:=ag8 (n:=0) (m:=i);simp only[Nat.pow_zero]at this;rw[this,ag9];simp;omega
theorem dL {l:List Int} (h:InM l) (i:Nat):(mk l).testBit i=decide ((i:Int)∈l):=by
 unfold mk;rw[YI l 0 i h];simp
theorem gX {l:List Int} (h:InM l):mk l<4294967296:=by
 refine aha (n:=32) _ fun i hi=>?_;rw[dL h];simp only[decide_eq_false_iff_not];intro hm;have:=h _ hm;omega
theorem abU {l:List Int} (h:∀x∈l,0≤x∧x≤16):mk l<131072:=by
 refine aha (n:=17) _ fun i hi=>?_;rw[dL (fun x hx=>by have:=h x hx;omega)]
 simp only[decide_eq_false_iff_not];intro hm;have:=h _ hm;omega
theorem abV {l u:List Int} (hl:InM l) (hu:InM u) (h:∀x,x∈l↔x∈u):mk l=mk u:=by
 apply ahb;intro i;rw[dL hl,dL hu];simp[h]
theorem mk_inj {l u:List Int} (hl:InM l) (hu:InM u) (h:mk l=mk u) (x:Int):x∈l↔x∈u:=by
 have key:∀(l u:List Int),InM l→InM u→mk l=mk u→x∈l→x∈u:=fun l u hl hu h hx=>by
  have hb:=hl x hx;have h1:=dL hl x.toNat;rw[h,dL hu]at h1;have e:((x.toNat:Nat):Int)=x:=by omega
  rw[e]at h1;simpa [hx]using h1
 exact⟨key l u hl hu h,key u l hu hl h.symm⟩
theorem mk_one {x:Int}:mk [x]=2 ^ x.toNat:=by simp[mk,mkA]
theorem mk_zero {l:List Int} (hl:InM l):mk l=0↔l=[]:=by
 constructor
 ·intro h
  cases l with
  |nil=>rfl
  |cons x l=>exact absurd ((mk_inj hl (u:=[]) (fun x hx=>by simp at hx) h x).1 (by simp)) (by simp)
 ·rintro rfl;rfl
theorem kS (n:Nat) (h:n≤31):0≤(1:Int)*2 ^ n∧(1:Int)*2 ^ n≤4294967295∧n≤IntKind.u32.bits:=by
 have h1:(2:Nat) ^ n≤2 ^ 31:=ahc (by omega) h
 have h2:(1:Int)*2 ^ n=((2 ^ n:Nat):Int):=by rw[ahd];norm_cast
 have h3:IntKind.u32.bits=32:=rfl;obtain⟨q,hq⟩:∃q:Nat,2 ^ n=q:=⟨_,rfl⟩;rw[hq]at h1;rw[h2,hq];refine⟨by omega,by omega,by omega⟩
theorem yA (n:Nat) (h:n<4294967296):IntKind.u32.wrap (n:Int)=n:=by
 simp only[IntKind.wrap,IntKind.bits,IntKind.signed];simp;omega
theorem lH (m i:Nat) (h:m<4294967296):(afn IntKind.u32.bits (m:Int)).getLsbD i=(decide (i<32)&&m.testBit i):=by
 show(afn 32 (m:Int)).getLsbD i=_;rw[BitVec.ofInt_natCast,BitVec.getLsbD_ofNat]
theorem El {m n k:Nat} (hm:m<4294967296) (hn:n<4294967296) (h:∀i,i<32→k.testBit i=(m.testBit i&&n.testBit i)) (hk:k<4294967296):
 IntKind.u32.wrap ((afn IntKind.u32.bits (m:Int)&&& afn IntKind.u32.bits (n:Int)).toNat:Int)=k:=by
 have e:(afn IntKind.u32.bits (m:Int)&&& afn IntKind.u32.bits (n:Int)).toNat=k:=by
  apply ahb;intro i;rw[ahe,ahf,lH m i hm,lH n i hn];by_cases hi:i<32
  ·rw[h i hi];simp[hi]
  ·rw[ahg (x:=k) (i:=i) (by have:=ahc (n:=2) (by omega) (show 32≤i by omega);omega)];simp[hi]
 rw[e,yA _ hk]
theorem abW {m n k:Nat} (hm:m<4294967296) (hn:n<4294967296) (h:∀i,i<32→k.testBit i=(m.testBit i||n.testBit i)) (hk:k<4294967296):
 IntKind.u32.wrap ((afn IntKind.u32.bits (m:Int)|||afn IntKind.u32.bits (n:Int)).toNat:Int)=k:=by
 have e:(afn IntKind.u32.bits (m:Int)|||afn IntKind.u32.bits (n:Int)).toNat=k:=by
  apply ahb;intro i;rw[ahe,BitVec.getLsbD_or,lH m i hm,lH n i hn];by_cases hi:i<32
  ·rw[h i hi];simp[hi]
  ·rw[ahg (x:=k) (i:=i) (by have:=ahc (n:=2) (by omega) (show 32≤i by omega);omega)];simp[hi]
 rw[e,yA _ hk]
theorem adi {m n k:Nat} (hm:m<4294967296) (hn:n<4294967296) (h:∀i,i<32→k.testBit i=(m.testBit i&&!n.testBit i)) (hk:k<4294967296):
 IntKind.u32.wrap ((afn IntKind.u32.bits (m:Int)&&& ~~~afn IntKind.u32.bits (n:Int)).toNat:Int)=k:=by
 have e:(afn IntKind.u32.bits (m:Int)&&& ~~~afn IntKind.u32.bits (n:Int)).toNat=k:=by
  apply ahb;intro i;rw[ahe,ahf,BitVec.getLsbD_not,lH m i hm,lH n i hn];by_cases hi:i<32
  ·rw[h i hi];simp[hi,show i<IntKind.u32.bits from hi]
  ·rw[ahg (x:=k) (i:=i) (by have:=ahc (n:=2) (by omega) (show 32≤i by omega);omega)];simp[hi]
 rw[e,yA _ hk]
theorem Nf {l:List Int} {x:Int} (hl:InM l) (hx:0≤x∧x≤31):
 IntKind.u32.wrap ((afn IntKind.u32.bits (mk l:Int)|||afn IntKind.u32.bits (1*2 ^ x.toNat)).toNat:Int)=(mk (l++[x]):Nat):=by
 have hh:InM (l++[x]):=fun y hy=>by
  rcases aff.1 hy with h|h
  ·exact hl y h
  ·simp at h;subst h;exact hx
 have hone:InM [x]:=fun y hy=>by simp at hy;subst hy;exact hx
 rw[ahd,show((2:Int) ^ x.toNat)=((mk [x]:Nat):Int) by rw[mk_one];norm_cast]
 refine abW (gX hl) (gX hone) (fun i hi=>?_) (gX hh);rw[dL hh,dL hl,dL hone];simp
theorem abX {l u:List Int} (hl:InM l) (hu:InM u):
 IntKind.u32.wrap ((afn IntKind.u32.bits (mk l:Int)|||afn IntKind.u32.bits (mk u:Int)).toNat:Int)=(mk (l++u):Nat):=by
 have hh:InM (l++u):=fun y hy=>by
  rcases aff.1 hy with h|h
  ·exact hl y h
  ·exact hu y h
 refine abW (gX hl) (gX hu) (fun i hi=>?_) (gX hh);rw[dL hh,dL hl,dL hu];simp
theorem P6 {l u:List Int} (hl:InM l) (hu:InM u):
 IntKind.u32.wrap ((afn IntKind.u32.bits (mk l:Int)&&& ~~~afn IntKind.u32.bits (mk u:Int)).toNat:Int)=(mk (l.filter fun y=>!decide (y∈u)):Nat):=by
 have hh:InM (l.filter fun y=>!decide (y∈u)):=fun y hy=>hl y (ahh.1 hy).1;refine adi (gX hl) (gX hu) (fun i hi=>?_) (gX hh);rw[dL hh,dL hl,dL hu];simp
def dQ (l:List Int) (x:Int):List Int:=l.filter fun y=>!decide (y=x)
theorem rA {l:List Int} {x:Int} (hl:InM l) (hx:0≤x∧x≤31):
 IntKind.u32.wrap ((afn IntKind.u32.bits (mk l:Int)&&& ~~~afn IntKind.u32.bits (1*2 ^ x.toNat)).toNat:Int)=(mk (dQ l x):Nat):=by
 have hone:InM [x]:=fun y hy=>by simp at hy;subst hy;exact hx
 rw[ahd,show((2:Int) ^ x.toNat)=((mk [x]:Nat):Int) by rw[mk_one];norm_cast,P6 hl hone]
 simp[dQ]
theorem P7 {l:List Int} {x:Int} (hl:InM l) (hx:0≤x∧x≤31):
 IntKind.u32.wrap ((afn IntKind.u32.bits ((mk l:Int) / 2 ^ x.toNat)&&& afn IntKind.u32.bits 1).toNat:Int)=if x∈l then 1 else 0:=by
 have e:((mk l:Int) / 2 ^ x.toNat)=((mk l>>>x.toNat:Nat):Int):=by rw[Nat.shiftRight_eq_div_pow];norm_cast
 have h1:mk l>>>x.toNat<4294967296:=Nat.lt_of_le_of_lt (Nat.shiftRight_le _ _) (gX hl);rw[e,show(1:Int)=((1:Nat):Int)from rfl,El (k:=if x∈l then 1 else 0) h1 (by omega) (fun i hi=>?_) (by split<;>omega)]
 ·split<;>rfl
 ·rw[Nat.testBit_shiftRight,dL hl,JY]
  by_cases h0:i=0
  ·subst h0
   have:((x.toNat+0:Nat):Int)=x:=by omega
   rw[this];by_cases hm:x∈l<;>simp[hm]
  ·rw[show decide (i=0)=false by simp[h0],ahi]
   split
   ·rw[JY];simp[h0]
   ·simp
structure Asc (l:List Int):Prop where mkAsc::
 pw:l.Pairwise (·< ·)
 rng:∀x∈l,1≤x∧x≤16
theorem Asc.inM {l:List Int} (h:Asc l):InM l:=fun x hx=>by have:=h.rng x hx;omega
theorem Asc.tail {x:Int} {l:List Int} (h:Asc (x::l)):Asc l:=⟨(agw.1 h.pw).2,fun y hy=>h.rng y (by simp[hy])⟩
theorem Asc.head {x:Int} {l:List Int} (h:Asc (x::l)):∀y∈l,x<y:=(agw.1 h.pw).1
theorem Asc.filter {l:List Int} (h:Asc l) (p:Int→Bool):Asc (l.filter p):=⟨h.pw.filter _,fun x hx=>h.rng x (ahh.1 hx).1⟩
theorem Asc.nil:Asc []:=⟨.nil,fun x hx=>by simp at hx⟩
theorem Asc.one {x:Int} (h:1≤x∧x≤16):Asc [x]:=⟨by simp,fun y hy=>by simp at hy;subst hy;exact h⟩
theorem Asc.out {l:List Int} (h:Asc l) (x:Int):Asc (dQ l x):=h.filter _
theorem YJ:∀{l u:List Int},l.Pairwise (·< ·)→u.Pairwise (·< ·)→(∀x,x∈l↔x∈u)→l=u:=by
 intro l;induction l with
 |nil=>
  intro u _ _ h;cases u with
  |nil=>rfl
  |cons y u=>exact absurd ((h y).2 (by simp)) (by simp)
 |cons x l ih=>
  intro u hl hu h;cases u with
  |nil=>exact absurd ((h x).1 (by simp)) (by simp)
  |cons y u=>
   have hx:=(agw.1 hl).1;have hy:=(agw.1 hu).1;have e:x=y:=by
    rcases agv.1 ((h x).1 (by simp))with e|h1
    ·exact e
    ·rcases agv.1 ((h y).2 (by simp))with e|h2
     ·exact e.symm
     ·have:=hy x h1;have:=hx y h2;omega
   subst e;congr 1;refine ih (agw.1 hl).2 (agw.1 hu).2 fun z=>?_;constructor
   ·intro hz
    rcases agv.1 ((h z).1 (by simp[hz]))with e|h1
    ·subst e;have:=hx z hz;omega
    ·exact h1
   ·intro hz
    rcases agv.1 ((h z).2 (by simp[hz]))with e|h1
    ·subst e;have:=hy z hz;omega
    ·exact h1
theorem Asc.ext {l u:List Int} (hl:Asc l) (hu:Asc u) (h:mk l=mk u):l=u:=YJ hl.pw hu.pw (mk_inj hl.inM hu.inM h)
theorem tJ {x:Int} {l:List Int} (h:Asc (x::l)):∃k,mk (x::l)=2 ^ (x.toNat+1)*k+2 ^ x.toNat∧mk l=2 ^ (x.toNat+1)*k:=by
 have hx:=h.rng x (by simp)
 refine⟨mk l / 2 ^ (x.toNat+1),?_,?_⟩
 ·apply ahb
  intro i;rw[dL h.inM,ahj _ (by rw[ahk];have:=ahl x.toNat;omega),ag8,ahm,dL h.tail.inM]
  split
  ·have:((i:Int)∈x::l)↔x.toNat=i:=by
    constructor
    ·intro hm
     rcases agv.1 hm with e|hm
     ·omega
     ·have:=h.head _ hm;omega
    ·intro e;exact agv.2 (.inl (by omega))
   simp only[this]
  ·rw[show i-(x.toNat+1)+(x.toNat+1)=i by omega]
   have:((i:Int)∈x::l)↔(i:Int)∈l:=by
    rw[agv];constructor
    ·rintro(e|h)
     ·omega
     ·exact h
    ·exact .inr
   simp only[this]
 ·apply ahb
  intro i;rw[ahn,ahm,dL h.tail.inM i];by_cases hi:i≥x.toNat+1
  ·rw[show i-(x.toNat+1)+(x.toNat+1)=i by omega,dL h.tail.inM];simp[hi]
  ·have:(i:Int)∉l:=fun hm=>by have:=h.head _ hm;omega
   rw[decide_eq_false hi,aho,decide_eq_false this]
theorem YK {x:Int} {l:List Int} (h:Asc (x::l)):
 IntKind.u32.wrap ((afn IntKind.u32.bits (mk (x::l):Int)&&& afn IntKind.u32.bits ((mk (x::l):Int)-1)).toNat:Int)=(mk l:Nat):=by
 obtain⟨k,h1,h2⟩:=tJ h;have hx:=h.rng x (by simp)
 have hp:=ahl x.toNat;have hlt:=gX h.inM;have e:((mk (x::l):Int)-1)=((2 ^ (x.toNat+1)*k+(2 ^ x.toNat-1):Nat):Int):=by rw[h1];omega
 rw[e];refine El hlt (by omega) (fun i hi=>?_) (gX h.tail.inM)
 rw[h1,h2,ahj _ (by rw[ahk];omega),ahj _ (by rw[ahk];omega),ahn,ag8,ahp]
 by_cases hi:i<x.toNat+1
 ·rw[if_pos hi,if_pos hi,decide_eq_false (show¬(i≥x.toNat+1) by omega),aho]
  by_cases e:x.toNat=i
  ·subst e;simp
  ·rw[decide_eq_false e,aho]
 ·rw[if_neg hi,if_neg hi]
  simp;omega
theorem mk_pos {x:Int} {l:List Int} (h:Asc (x::l)):0<mk (x::l):=by
 obtain⟨k,h1,_⟩:=tJ h;have hp:=ahl x.toNat;omega
theorem abY {x:Int} {l:List Int} (h:Asc (x::l)):Go.Lib.ctz 32 (mk (x::l))=x.toNat:=by
 have hp:=mk_pos h;obtain⟨m,h1,h2⟩:=Go.Lib.ctzFrom_spec 32 (mk (x::l)) hp (gX h.inM);obtain⟨k,h3,_⟩:=tJ h;unfold Go.Lib.ctz;rw[if_neg (by omega)]
 generalize Go.Lib.ctzFrom 32 (mk (x::l))=c at h1 h2
 have b1:∀i,(mk (x::l)).testBit i=(decide (i≥c)&&(2*m+1).testBit (i-c)):=fun i=>by rw[h1,ahn]
 have hx:=h.rng x (by simp)
 have b2:=b1 x.toNat;rw[dL h.inM]at b2;have e1:((x.toNat:Nat):Int)=x:=by omega
 rw[e1]at b2;simp at b2;have b3:=b1 c;rw[dL h.inM]at b3;simp at b3;rcases b3 with e|b3
 ·omega
 ·have:=h.head _ b3;omega
structure St where
 cs:List (List Int)
 ds:List Bool
def St.cd (s:St) (i:Nat):List Int:=s.cs.getD i []
def St.dc (s:St) (i:Nat):Bool:=s.ds.getD i false
def ms (cs:List (List Int)):List Int:=cs.map fun l=>((mk l:Nat):Int)
theorem dN (cs:List (List Int)):(ms cs).length=cs.length:=by simp[ms]
theorem fK {cs:List (List Int)} {i:Nat} (h:i<cs.length):(ms cs).getD i 0=(mk (cs.getD i []):Nat):=by
 simp[ms,afe,h]
structure abZ (c:Int) (l:List Int):Prop where
 ne:1≤l.length
 len:l.length≤16
 rng:∀x∈l,0≤x∧x<c
 pw:l.Pairwise (·< ·)
structure bg (c:Int) (ls:List (List Int)) (sum:Int) (s:St):Prop where
 c1:1≤c∧c≤16
 ll:1≤ls.length∧ls.length≤128
 ln:∀i,i<ls.length→abZ c (ls.getD i [])
 sm: -999999999≤sum∧sum≤999999999
 cl:(s.cs.length:Int)=c
 dl:(s.ds.length:Int)=c
 asc:∀i,i<s.cs.length→Asc (s.cd i)∧∀x∈s.cd i,x≤c
 dec:∀i,i<s.cs.length→s.dc i=true→(s.cd i).length=1
def hd0 (l:List Int):Int:=l.getD 0 0
def ls0 (l:List Int):Int:=l.getD (l.length-1) 0
def opn (s:St) (l:List Int) (but:Int):List Int:=l.filter fun x=>!(s.dc x.toNat)&&decide (x≠but)
def rst (s:St) (sum:Int) (l:List Int):Int:=l.foldl (fun a x=>if s.dc x.toNat then a-hd0 (s.cd x.toNat)else a) sum
theorem YL (s:St) (l:List Int) (x but:Int):opn s (l++[x]) but=opn s l but++if !(s.dc x.toNat)&&decide (x≠but)then [x]else []:=by
 unfold opn;rw[List.filter_append,List.filter_cons,List.filter_nil]
theorem JZ (s:St) (sum:Int) (l:List Int) (x:Int):rst s sum (l++[x])=if s.dc x.toNat then rst s sum l-hd0 (s.cd x.toNat)else rst s sum l:=by
 unfold rst;rw[ahq];rfl
theorem dR {l:List Int} {i:Nat} (h:i<l.length):l.take (i+1)=l.take i++[l.getD i 0]:=by
 rw[ag5,afe,afj h];rfl
theorem rC {l:List Int} (h:1≤l.length):hd0 l∈l:=by
 cases l with
 |nil=>simp at h
 |cons x l=>simp[hd0]
theorem wO {l:List Int} (h:1≤l.length):ls0 l∈l:=by
 unfold ls0;rw[afe,afj (show l.length-1<l.length by omega)]
 exact ahr _
theorem P8 {l:List Int} (h:l.Pairwise (·< ·)):∀x∈l,hd0 l≤x:=by
 cases l with
 |nil=>intro x hx;simp at hx
 |cons y l=>
  intro x hx;rcases agv.1 hx with rfl|hx
  ·simp[hd0]
  ·have:=(agw.1 h).1 x hx;simp[hd0];omega
theorem F5 {l:List Int} (h:l.Pairwise (·< ·)):∀x∈l,x≤ls0 l:=by
 intro x hx;obtain⟨i,hi,rfl⟩:=afi hx;unfold ls0;rw[afe,afj (show l.length-1<l.length by omega)]
 by_cases e:i=l.length-1
 ·subst e;simp
 ·have:=List.pairwise_iff_getElem.1 h i (l.length-1) hi (by omega) (by omega)
  simp;omega
theorem bg.at {c:Int} {ls:List (List Int)} {sum:Int} {s:St} (h:bg c ls sum s) {x:Int} (hx:0≤x∧x<c):x.toNat<s.cs.length∧x.toNat<s.ds.length:=by
 have:=h.cl;have:=h.dl;omega
theorem bg.num {c:Int} {ls:List (List Int)} {sum:Int} {s:St} (h:bg c ls sum s) {x:Int} (hx:0≤x∧x<c) (hd:s.dc x.toNat=true):1≤hd0 (s.cd x.toNat)∧hd0 (s.cd x.toNat)≤16∧s.cd x.toNat=[hd0 (s.cd x.toNat)]:=by
 have hi:=(h.at hx).1;have h1:=h.dec _ hi hd;obtain⟨y,hy⟩:=List.length_eq_one_iff.1 h1;have h2:=(h.asc _ hi).1.rng (hd0 (s.cd x.toNat)) (rC (by omega))
 refine⟨h2.1,h2.2,?_⟩;rw[hy];rfl
theorem F6 {c:Int} {ls:List (List Int)} {sum:Int} {s:St} (h:bg c ls sum s) {l:List Int} (hl:∀x∈l,0≤x∧x<c):∀i,i≤l.length→sum-16*i≤rst s sum (l.take i)∧rst s sum (l.take i)≤sum:=by
 intro i;induction i with
 |zero=>intro _;simp[rst]
 |succ i ih=>
  intro hi;have ih:=ih (by omega)
  have hx:=hl (l.getD i 0) (by rw[afe,afj (show i<l.length by omega)];exact ahr _)
  rw[dR (by omega),JZ]
  split
  ·rename_i hd
   have:=h.num hx hd;omega
  ·omega
def yB (s:St) (sum:Int) (l:List Int) (c x:Int):Bool:=decide ((opn s l c).length=0)&&decide (rst s sum l=x)
def yC (s:St) (c:Int):Bool:=decide ((s.cd c.toNat).length=1)
def qQ (s:St) (c x:Int):Bool:=(afc s.cs.length).all fun i=>decide ((i:Int)=c)||!decide (x∈s.cd i)
def qR (s:St) (o:List Int):Int:=o.foldl (fun a y=>a+hd0 (s.cd y.toNat)) 0
def qU (s:St) (o:List Int):Int:=o.foldl (fun a y=>a+ls0 (s.cd y.toNat)) 0
def yD (s:St) (sum:Int) (l:List Int) (c x:Int):Bool:=
 (opn s l c).any (fun y=>decide (s.cd y.toNat=[]))||(decide (rst s sum l-x<qR s (opn s l c))||decide (qU s (opn s l c)<rst s sum l-x))
def chs (s:St):List Int→List Int→Int→Bool
 | [],_,sum=>decide (sum=0)
 |y::r,used,sum=>((s.cd y.toNat).filter fun x=>!decide (x∈used)).any fun x=>chs s r (used++[x]) (sum-x)
def yE (s:St) (sum:Int) (l:List Int) (c x:Int):Bool:=decide ((opn s l c).length<4)&&!chs s (opn s l c) [x] (rst s sum l-x)
def brk (c:Int) (ls:List (List Int)) (sum:Int) (s:St):Bool:=
 (!(afc c.toNat).all fun i=>s.cs.any fun l=>decide (((i:Int)+1)∈l))||s.cs.any (fun l=>decide (l=[]))||ls.any fun l=>decide ((opn s l (-1)).length=0)&&decide (rst s sum l≠0)
def jst (g:Nat) (s:St) (sum:Int) (l:List Int) (y x:Int):Bool:=
 match g with
 |1=>yB s sum l y x
 |2=>yC s y
 |3=>qQ s y x
 |4=>yD s sum l y x
 |5=>yE s sum l y x
 |_=>false
def okJ (g:Nat) (s:St) (sum:Int) (l:List Int) (y x:Int):Bool:=!s.dc y.toNat&&(decide (x∈s.cd y.toNat)&&jst g s sum l y x)
def apl (g:Nat) (s:St) (y x:Int):St:=
 if g≤3 then⟨(s.cs.map fun l=>dQ l x).set y.toNat [x],s.ds.set y.toNat true⟩else⟨s.cs.set y.toNat (dQ (s.cd y.toNat) x),s.ds⟩
def don (s:St):Bool:=!s.ds.any fun b=>!b
end Go.Eng.YtcechbdgokjmgaaGreatDoor
namespace Go.Eng.YtcechbdgokjmgaaGreatDoor
open Go.Proofs
set_option linter.unusedSimpArgs false
set_option linter.unusedVariables false
set_option maxHeartbeats 0
set_option maxRecDepth 100000
theorem Em (x:Int) (h:0≤x∧x<4294967296):IntKind.u32.wrap ((afn IntKind.u32.bits x&&& afn IntKind.u32.bits 255).toNat:Int)=((x.toNat % 256:Nat):Int):=by
 obtain⟨n,rfl⟩:∃n:Nat,x=n:=⟨x.toNat,by omega⟩
 rw[show(255:Int)=((255:Nat):Int)from rfl,af7];refine El (by omega) (by omega) (fun i hi=>?_) (by omega)
 rw[show(256:Nat)=2 ^ 8 from rfl,Nat.testBit_mod_two_pow,show(255:Nat)=2 ^ 8-1 from rfl,ahp,Bool.and_comm]
theorem Bd:∀(f g x:Nat),Go.Lib.popAux (f+g) x=Go.Lib.popAux f x+Go.Lib.popAux g (x / 2 ^ f):=by
 intro f;induction f with
 |zero=>intro g x;simp[Go.Lib.popAux]
 |succ f ih=>
  intro g x;rw[show f+1+g=(f+g)+1 by omega,Go.Lib.popAux,Go.Lib.popAux,ih,ahs,ahk,afs 2,Nat.add_assoc]
theorem Bf:∀(f x:Nat),Go.Lib.popAux f (x % 2 ^ f)=Go.Lib.popAux f x:=by
 intro f;induction f with
 |zero=>intro x;simp[Go.Lib.popAux]
 |succ f ih=>
  intro x;have e1:x % 2 ^ (f+1) % 2=x % 2:=Nat.mod_mod_of_dvd x (by rw[ahk];exact Nat.dvd_mul_left 2 _)
  have e2:x % 2 ^ (f+1) / 2=x / 2 % 2 ^ f:=by
   rw[ahk,afs,Nat.mod_mul_right_div_self]
  rw[Go.Lib.popAux,Go.Lib.popAux,e1,e2,ih]
theorem Aa:∀(f x:Nat),Go.Lib.popAux f x≤f:=by
 intro f;induction f with
 |zero=>intro x;simp[Go.Lib.popAux]
 |succ f ih=>intro x;rw[Go.Lib.popAux];have:=ih (x / 2);omega
def vF (m:Int):Int:=(Go.Lib.popAux 32 m.toNat:Nat)
theorem P9 (n:Nat) (h:n<4294967296):Go.Lib.popAux 32 n=Go.Lib.popAux 8 (n / 16777216)+Go.Lib.popAux 8 (n / 65536 % 256)+(Go.Lib.popAux 8 (n / 256 % 256)+Go.Lib.popAux 8 (n % 256)):=by
 rw[show(256:Nat)=2 ^ 8 from rfl,Bf,Bf,Bf,show(32:Nat)=8+(8+(8+8))from rfl,Bd,Bd,Bd,ahs,ahs];simp only[show 2 ^ 8*2 ^ 8=65536 from rfl,show 65536*2 ^ 8=16777216 from rfl];omega
theorem Bg (n:Nat) (h:n<256):IntKind.u8.wrap (n:Int)=n:=by
 simp only[IntKind.wrap,IntKind.bits,IntKind.signed];simp;omega
theorem SN (n:Nat) (h:n<1000):IntKind.i64.wrap (n:Int)=n:=by
 simp only[IntKind.wrap,IntKind.bits,IntKind.signed];simp;omega
theorem SQ (T:Array UInt8) (hT:∀j,j<256→(T.getD j 0).toNat=Go.Lib.popAux 8 j) (m:Int) (h:0≤m∧m<4294967296):
 IntKind.i64.wrap (IntKind.u8.wrap (IntKind.u8.wrap (IntKind.u8.wrap (((T.getD (m / 2 ^ aht 24).toNat 0).toNat:Int)+((T.getD (IntKind.u32.wrap ((afn IntKind.u32.bits (m / 2 ^ aht 16)&&& afn IntKind.u32.bits 255).toNat:Int)).toNat 0).toNat:Int))+
  ((T.getD (IntKind.u32.wrap ((afn IntKind.u32.bits (m / 2 ^ aht 8)&&& afn IntKind.u32.bits 255).toNat:Int)).toNat 0).toNat:Int))+((T.getD (IntKind.u32.wrap ((afn IntKind.u32.bits m&&& afn IntKind.u32.bits 255).toNat:Int)).toNat 0).toNat:Int)))=vF m:=by
 obtain⟨n,rfl⟩:∃n:Nat,m=n:=⟨m.toNat,by omega⟩
 have e24:((n:Int) / 2 ^ aht 24)=((n / 16777216:Nat):Int):=by norm_cast
 have e16:((n:Int) / 2 ^ aht 16)=((n / 65536:Nat):Int):=by norm_cast
 have e8:((n:Int) / 2 ^ aht 8)=((n / 256:Nat):Int):=by norm_cast
 rw[e24,e16,e8,Em _ (by omega),Em _ (by omega),Em _ (by omega)]
 simp only[af7];rw[hT _ (by omega),hT _ (by omega),hT _ (by omega),hT _ (by omega)]
 have:=Aa 8 (n / 16777216);have:=Aa 8 (n / 65536 % 256);have:=Aa 8 (n / 256 % 256);have:=Aa 8 (n % 256);rw[←ahu,Bg _ (by omega),←ahu,Bg _ (by omega),←ahu,Bg _ (by omega),SN _ (by omega)]
 unfold vF;rw[af7,P9 n (by omega)]
 omega
theorem Qa (m:Int) (h:0≤m∧m<4294967296):aF Tryz.prog 237 [.int .u32 m] (.int .i64 (vF m)):=by
 have b:∀x:Int,(0≤x∧x<4294967296)→0≤IntKind.u32.wrap ((afn IntKind.u32.bits x&&& afn IntKind.u32.bits 255).toNat:Int)∧IntKind.u32.wrap ((afn IntKind.u32.bits x&&& afn IntKind.u32.bits 255).toNat:Int)<256:=fun x hx=>by rw[Em x hx];omega
 have e16:0≤m / 2 ^ aht 16∧m / 2 ^ aht 16<4294967296:=by rw[show(2:Int) ^ aht 16=65536 from rfl];omega
 have e8:0≤m / 2 ^ aht 8∧m / 2 ^ aht 8<4294967296:=by rw[show(2:Int) ^ aht 8=256 from rfl];omega
 have e24:0≤m / 2 ^ aht 24∧m / 2 ^ aht 24<256:=by rw[show(2:Int) ^ aht 24=16777216 from rfl];omega
 refine av (md:=2) (rf:=[]) mixed ak aD Tryz.func237 (by rfl) (by rfl) (by rfl) ?_
 repeat'((conv=>whnf);first|intro _|apply aI|with_reducible exact vM rfl|exact⟨⟩|apply nM|apply fM)
 all_goals first
  |(refine Sup.of (congrArg (PV.int .i64) ?_);exact SQ _ (by decide+kernel) m h)
  |(refine ahv (b:=256) ?_ (by decide+kernel);first|exact e24.2|exact(b _ e16).2|exact(b _ e8).2|exact(b _ h).2)
  |exact e24.1|exact(b _ e16).1|exact(b _ e8).1|exact(b _ h).1|exact h.1|decide
theorem CQ:∀(a n y:Nat),Go.Lib.popAux (a+n) (2 ^ a*y)=Go.Lib.popAux n y:=by
 intro a;induction a with
 |zero=>intro n y;simp
 |succ a ih=>
  intro n y;have e:2 ^ (a+1)*y=2*(2 ^ a*y):=by rw[ahk,afs (2 ^ a) 2,ahw]
  rw[show a+1+n=(a+n)+1 by omega,Go.Lib.popAux,e,ahx,ahy _ (by omega),ih,afr]
theorem pop_mk {l:List Int} (h:Asc l):vF (mk l:Nat)=l.length:=by
 unfold vF;rw[af7];induction l with
 |nil=>rfl
 |cons x l ih=>
  obtain⟨k,h1,h2⟩:=tJ h;have hx:=h.rng x (by simp)
  have ih:=ih h.tail;rw[h2,ahk,ahw,show 32=x.toNat+(31-x.toNat+1) by omega,CQ,Go.Lib.popAux,ahx,ahy _ (by omega)]at ih
  rw[h1,ahk,ahw,show 2 ^ x.toNat*(2*k)+2 ^ x.toNat=2 ^ x.toNat*(2*k+1) by rw[ag4,afA],show 32=x.toNat+(31-x.toNat+1) by omega,CQ,Go.Lib.popAux,
   show(2*k+1) % 2=1 by omega,show(2*k+1) / 2=k by omega,aeZ]
  omega
def fB (m:Int):Int:=(Go.Lib.bitLen m.toNat:Nat)
theorem wP (T:Array UInt8) (hT:∀j,j<256→(T.getD j 0).toNat=Go.Lib.bitLen j) (x:Int) (h:0≤x∧x<256):((T.getD x.toNat 0).toNat:Int)=fB x:=by
 rw[hT _ (by omega)];rfl
theorem wQ (x:Int) (h:0≤x∧x<256):0≤fB x∧fB x≤8:=by
 have:=Go.Lib.bitLen_le8 ⟨x.toNat,by omega⟩
 unfold fB;simp only at this;omega
theorem J2 (k n:Nat) (h0:2 ^ k≤n) (h:n<4294967296):fB (n:Int)=(k:Int)+fB ((n / 2 ^ k:Nat):Int):=by
 have h2:(4294967296:Nat)<2 ^ 64:=by decide
 unfold fB;rw[af7,af7,Go.Lib.bitLen_shift k n h0 (by omega)]
 omega
theorem J3 (k K:Nat) (hK:2 ^ k=K) (x:Int) (h0:(K:Int)≤x) (h:x<4294967296):fB x=k+fB (x / K):=by
 obtain⟨n,rfl⟩:∃n:Nat,x=n:=⟨x.toNat,by omega⟩
 have:=J2 k n (by rw[hK];omega) (by omega)
 rw[this,hK];rfl
theorem SS (m:Int) (h:0≤m∧m<4294967296):aF Tryz.prog 257 [.int .u32 m] (.int .i64 (fB m)):=by
 have p16:(2:Int) ^ aht 16=65536:=by decide
 have p8:(2:Int) ^ aht 8=256:=by decide
 have d16:aht 16≤IntKind.u32.bits:=by decide
 have d8:aht 8≤IntKind.u32.bits:=by decide
 have a1:65536≤m→fB m=16+fB (m / 65536):=fun h1=>J3 16 65536 rfl m h1 h.2;have a2:∀x:Int,256≤x→x<4294967296→fB x=8+fB (x / 256):=fun x h1 h2=>J3 8 256 rfl x h1 h2;refine av (md:=1) (rf:=[]) mixed ak aD Tryz.func257 (by rfl) (by rfl) (by rfl) ?_
 repeat'((conv=>whnf);first|intro _|apply aI|with_reducible exact vM rfl|exact⟨⟩|apply nM|apply fM)
 all_goals((try apply vM);(try simp only[vq]at*);try omega)
 all_goals(try simp only[p16,p8]at*)
 all_goals(try first|exact d16|exact d8|omega|(refine ahv (b:=256) (by omega) (by decide+kernel)))
 all_goals(try(rw[wP _ ?_ (m / 65536 / 256) (by omega)];rotate_left;(decide+kernel);(have:=wQ (m / 65536 / 256) (by omega));first|omega|((refine Sup.of (congrArg (PV.int .i64) ?_));rw[a1 (by omega),a2 (m / 65536) (by omega) (by omega)];omega)))
 all_goals(try(rw[wP _ ?_ (m / 65536) (by omega)];rotate_left;(decide+kernel);(have:=wQ (m / 65536) (by omega));first|omega|((refine Sup.of (congrArg (PV.int .i64) ?_));rw[a1 (by omega)])))
 all_goals(try(rw[wP _ ?_ (m / 256) (by omega)];rotate_left;(decide+kernel);(have:=wQ (m / 256) (by omega));first|omega|((refine Sup.of (congrArg (PV.int .i64) ?_));rw[a2 m (by omega) (by omega)];omega)))
 all_goals(try(rw[wP _ ?_ (m) (by omega)];rotate_left;(decide+kernel);(have:=wQ (m) (by omega));first|omega|((refine Sup.of (congrArg (PV.int .i64) ?_));omega)))
def SV:PSp:=fun xs K=>match xs with
 | [.int .u32 m]=>VC (0≤m∧m<4294967296)∧K (.int .i64 (fB m))
 |_=>False
theorem ab0:POK Tryz.prog 257 SV:=by
 intro xs K h;unfold SV at h;split at h
 ·exact⟨_,h.2,SS _ h.1.get⟩
 ·exact h.elim
noncomputable def adU:CPT:=aA 257 (aB SV) noC
theorem YM:aZ Tryz.prog adU:=aj (au ab0) aD
theorem J4 (m:Int) (h:0≤m∧m<4294967296):0≤fB m∧fB m≤64:=by
 have:∀f x,Go.Lib.bitLenAux f x≤f:=by
  intro f;induction f with
  |zero=>intro x;simp[Go.Lib.bitLenAux]
  |succ f ih=>intro x;rw[Go.Lib.bitLenAux];(split;omega;(have:=ih (x / 2);omega))
 have h2:=this 64 m.toNat;have h3:fB m=((Go.Lib.bitLenAux 64 m.toNat:Nat):Int):=rfl;omega
theorem YN (m:Int) (h:0≤m∧m<4294967296):aF Tryz.prog 238 [.int .u32 m] (.int .i64 (32-fB m)):=by
 have:=J4 m h;refine av (md:=1) (rf:=[]) mixed ak YM Tryz.func238 (by rfl) (by rfl) (by rfl) ?_
 repeat'((conv=>whnf);first|intro _|apply aI|with_reducible exact vM rfl|exact⟨⟩|apply nM|apply fM)
 all_goals((try apply vM);(try simp only[vq]at*);try omega)
 all_goals exact Sup.of rfl
def lzP:PSp:=fun xs K=>match xs with
 | [.int .u32 m]=>VC (0≤m∧m<4294967296)∧K (.int .i64 (32-fB m))
 |_=>False
theorem adj:POK Tryz.prog 238 lzP:=by
 intro xs K h;unfold lzP at h;split at h
 ·exact⟨_,h.2,YN _ h.1.get⟩
 ·exact h.elim
def Ng:PSp:=fun xs K=>match xs with
 | [.int .u32 m]=>VC (0≤m∧m<4294967296)∧K (.int .i64 (vF m))
 |_=>False
theorem YO:POK Tryz.prog 237 Ng:=by
 intro xs K h;unfold Ng at h;split at h
 ·exact⟨_,h.2,Qa _ h.1.get⟩
 ·exact h.elim
def pQ (m:Int):Int:=(Go.Lib.ctz 32 m.toNat:Nat)
theorem u32_neg (n:Nat) (h0:n≠0) (h:n<4294967296):IntKind.u32.wrap (0-(n:Int))=((4294967296-n:Nat):Int):=by
 simp only[IntKind.wrap,IntKind.bits,IntKind.signed];simp;omega
theorem YQ (m:Int) (h:0<m∧m<4294967296):∃k:Nat,k<32∧pQ m=k∧IntKind.u32.wrap (IntKind.u32.wrap ((afn IntKind.u32.bits m&&& afn IntKind.u32.bits (IntKind.u32.wrap (0-m))).toNat:Int)*125613361) / 2 ^ aht 27=((2 ^ k*125613361 % 4294967296 / 134217728:Nat):Int):=by
 obtain⟨n,rfl⟩:∃n:Nat,m=n:=⟨m.toNat,by omega⟩
 obtain⟨h1,h2⟩:=Go.Lib.lowest_bit 32 n (by omega) (by omega)
 refine⟨Go.Lib.ctz 32 n,h2,by simp[pQ],?_⟩
 have hp:2 ^ Go.Lib.ctz 32 n≤2 ^ 31:=ahc (by omega) (by omega)
 rw[u32_neg n (by omega) (by omega),El (k:=2 ^ Go.Lib.ctz 32 n) (by omega) (by omega) (fun i hi=>by rw[←h1,Nat.testBit_and]) (by omega)]
 have e:((2 ^ Go.Lib.ctz 32 n:Nat):Int)*125613361=((2 ^ Go.Lib.ctz 32 n*125613361:Nat):Int):=by rw[Int.natCast_mul];rfl
 rw[e,show(2:Int) ^ aht 27=((134217728:Nat):Int) by decide]
 have w:∀q:Nat,IntKind.u32.wrap (q:Int)=((q % 4294967296:Nat):Int):=fun q=>by simp only[IntKind.wrap,IntKind.bits,IntKind.signed];simp
 rw[w,Int.natCast_ediv]
theorem ab1:∀k:Nat,k<32→qY.getD (2 ^ k*125613361 % 4294967296 / 134217728) 0=(k:Int):=by decide+kernel
theorem Qb (n:Int) (h:0≤n∧n<1000):IntKind.i64.wrap n=n:=by
 simp only[IntKind.wrap,IntKind.bits,IntKind.signed];simp;omega
theorem SX:aF Tryz.prog 220 [.int .u32 0] (.int .i64 32):=by
 refine av (md:=2) (rf:=[]) mixed ak aD Tryz.func220 (by rfl) (by rfl) (by rfl) ?_
 repeat'((conv=>whnf);first|(intro hq;(try simp only[vw]at hq);try first|exact absurd hq (by decide)|exfalso;omega)|apply aI|with_reducible exact vM rfl|exact⟨⟩|apply nM|apply fM)
 all_goals exact Sup.of rfl
theorem YR (m q:Int) (k:Nat) (h0:¬m=0) (hk:k<32) (h1:IntKind.u32.wrap (IntKind.u32.wrap ((afn IntKind.u32.bits m&&& afn IntKind.u32.bits (IntKind.u32.wrap (0-m))).toNat:Int)*125613361)=q) (hq0:0≤q)
 (h2:q / 2 ^ aht 27=(k:Int)) (e:Int) (he:0≤e∧e<1000) (ht:qY.getD k 0=e):aF Tryz.prog 220 [.int .u32 m] (.int .i64 e):=by
 have e5:te5.size=1:=by rfl
 have d27:aht 27≤IntKind.u32.bits:=by decide
 have hl:qY.length=32:=rfl;refine av (md:=2) (rf:=[]) mixed ak aD Tryz.func220 (by rfl) (by rfl) (by rfl) ?_
 repeat'((conv=>whnf);first|(intro hq;(try simp only[vw]at hq);try first|exact absurd hq (by decide)|exfalso;omega)|apply aI|with_reducible exact vM rfl|exact⟨⟩|apply nM|apply fM)
 all_goals first|exact h0|exact d27|(rw[h1];exact hq0)|(rw[h1,h2];omega)|(rw[h1,h2,e5,af7];simp only[CL.ncell,hl];omega)|(refine Sup.of (congrArg (PV.int .i64) ?_);rw[h1,h2,e5,af7,afA,afr,ht,Qb _ he])|omega
theorem SY (m:Int) (h:0≤m∧m<4294967296):aF Tryz.prog 220 [.int .u32 m] (.int .i64 (pQ m)):=by
 by_cases h0:m=0
 ·subst h0
  exact SX
 obtain⟨k,hk,h1,h2⟩:=YQ m (by omega)
 have hb:=Go.Lib.deBruijn32_at k hk;have ht:=ab1 k hk;rw[h1];refine YR m _ _ h0 hb.1 rfl ?_ h2 _ (by omega) ht
 generalize IntKind.u32.wrap ((afn IntKind.u32.bits m&&& afn IntKind.u32.bits (IntKind.u32.wrap (0-m))).toNat:Int)*125613361=q
 simp only[IntKind.wrap,IntKind.bits,IntKind.signed];simp;omega
def Ta:PSp:=fun xs K=>match xs with
 | [.int .u32 m]=>VC (0≤m∧m<4294967296)∧K (.int .i64 (pQ m))
 |_=>False
theorem ab2:POK Tryz.prog 220 Ta:=by
 intro xs K h;unfold Ta at h;split at h
 ·exact⟨_,h.2,SY _ h.1.get⟩
 ·exact h.elim
noncomputable def adV:CPT:=aA 220 (aB Ta) (aA 237 (aB Ng) (aA 238 (aB lzP) noC))
theorem Bh:aZ Tryz.prog adV:=aj (au ab2) (aj (au YO) (aj (au adj) aD))
theorem Nh (m:Int) (h:0≤m∧m<4294967296):aF Tryz.prog 190 [.int .u32 m] (.int .i64 (pQ m)):=by
 refine av (md:=1) (rf:=[]) mixed ak Bh Tryz.func190 (by rfl) (by rfl) (by rfl) ?_
 repeat'((conv=>whnf);first|intro _|apply aI|with_reducible exact vM rfl|exact⟨⟩|apply nM|apply fM)
 all_goals((try apply vM);(try simp only[vq]at*);try omega)
 all_goals exact Sup.of rfl
theorem Qc (m:Int) (h:0≤m∧m<4294967296):aF Tryz.prog 210 [.int .u32 m] (.int .i64 (vF m)):=by
 refine av (md:=1) (rf:=[]) mixed ak Bh Tryz.func210 (by rfl) (by rfl) (by rfl) ?_
 repeat'((conv=>whnf);first|intro _|apply aI|with_reducible exact vM rfl|exact⟨⟩|apply nM|apply fM)
 all_goals((try apply vM);(try simp only[vq]at*);try omega)
 all_goals exact Sup.of rfl
theorem DF (m:Int) (h:0≤m∧m<4294967296):aF Tryz.prog 211 [.int .u32 m] (.int .i64 (fB m-1)):=by
 have:=J4 m h;have e:(31:Int)-(32-fB m)=fB m-1:=by omega
 refine av (md:=1) (rf:=[]) mixed ak Bh Tryz.func211 (by rfl) (by rfl) (by rfl) ?_
 repeat'((conv=>whnf);first|intro _|apply aI|with_reducible exact vM rfl|exact⟨⟩|apply nM|apply fM)
 all_goals((try apply vM);(try simp only[vq]at*);try omega)
 all_goals(rw[e];exact Sup.of rfl)
def Bj (m x:Int):Bool:=decide (IntKind.u32.wrap ((afn IntKind.u32.bits (m / 2 ^ x.toNat)&&& afn IntKind.u32.bits 1).toNat:Int)=1)
theorem Qd (m x:Int) (h:0≤m) (hx:0≤x∧x≤31):aF Tryz.prog 156 [.int .u32 m,.int .i64 x] (.bp (Bj m x)):=by
 have e:IntKind.u32.bits=32:=rfl;refine av (md:=1) (rf:=[]) mixed ak aD Tryz.func156 (by rfl) (by rfl) (by rfl) ?_
 repeat'((conv=>whnf);first|intro _|apply aI|with_reducible exact vM rfl|exact⟨⟩|apply nM|apply fM)
 all_goals((try apply vM);(try simp only[vq]at*);try omega)
 all_goals exact Sup.of rfl
def vG:PSp:=fun xs K=>match xs with
 | [.int .u32 m]=>VC (0≤m∧m<4294967296)∧K (.int .i64 (pQ m))
 |_=>False
theorem yF:POK Tryz.prog 190 vG:=by
 intro xs K h;unfold vG at h;split at h
 ·exact⟨_,h.2,Nh _ h.1.get⟩
 ·exact h.elim
def Ni:PSp:=fun xs K=>match xs with
 | [.int .u32 m]=>VC (0≤m∧m<4294967296)∧K (.int .i64 (vF m))
 |_=>False
theorem YS:POK Tryz.prog 210 Ni:=by
 intro xs K h;unfold Ni at h;split at h
 ·exact⟨_,h.2,Qc _ h.1.get⟩
 ·exact h.elim
def vH:PSp:=fun xs K=>match xs with
 | [.int .u32 m]=>VC (0≤m∧m<4294967296)∧K (.int .i64 (fB m-1))
 |_=>False
theorem Jh:POK Tryz.prog 211 vH:=by
 intro xs K h;unfold vH at h;split at h
 ·exact⟨_,h.2,DF _ h.1.get⟩
 ·exact h.elim
def En:PSp:=fun xs K=>match xs with
 | [.int .u32 m,.int .i64 x]=>VC (0≤m∧0≤x∧x≤31)∧K (.bp (Bj m x))
 |_=>False
theorem J5:POK Tryz.prog 156 En:=by
 intro xs K h;unfold En at h;split at h
 ·exact⟨_,h.2,Qd _ _ h.1.get.1 h.1.get.2⟩
 ·exact h.elim
theorem pR {l:List Int} (h:Asc l):0≤(mk l:Int)∧(mk l:Int)<131072:=by
 have:=abU (l:=l) (fun x hx=>by have:=h.rng x hx;omega)
 omega
theorem J6 {l:List Int} (h:Asc l) {x:Int} (hx:0≤x∧x≤31):Bj (mk l) x=decide (x∈l):=by
 unfold Bj;rw[P7 h.inM hx];by_cases hm:x∈l<;>simp[hm]
theorem J7 {x:Int} {l:List Int} (h:Asc (x::l)):pQ (mk (x::l))=x:=by
 unfold pQ;rw[af7,abY h];have:=h.rng x (by simp)
 omega
theorem YT {l:List Int} (h:Asc l) {z:Int} (hz:z∈l) (hm:∀x∈l,x≤z):fB (mk l)=z+1:=by
 have hr:=h.rng z hz;have e:((z.toNat:Nat):Int)=z:=by omega
 have h1:2 ^ z.toNat≤mk l:=Nat.ge_two_pow_of_testBit (by rw[dL h.inM,e];simp[hz])
 have h2:mk l<2 ^ (z.toNat+1):=aha _ fun i hi=>by
  rw[dL h.inM];simp only[decide_eq_false_iff_not];intro hm';have:=hm _ hm';omega
 have h3:=(pR h).2;rw[J2 z.toNat (mk l) h1 (by omega)]
 have h4:mk l / 2 ^ z.toNat=1:=by
  rw[Nat.div_eq_iff (ahl _)];rw[ahk]at h2;omega
 rw[h4];have:fB ((1:Nat):Int)=1:=by decide
 omega
theorem vI {p:Nat→Bool} {n:Nat} (h:∀i,i<n→p i=false):(afc n).find? p=none:=by
 simp only[ahz,agU];exact fun i hi=>by simp[h i hi]
theorem CU {p:Nat→Bool} {n y:Nat} (hy:y<n) (hp:p y=true) (h:∀i,i<y→p i=false):(afc n).find? p=some y:=by
 have e:afc n=afc y++(y::List.range' (y+1) (n-y-1)):=by
  rw[agH,agH,show n=y+(1+(n-y-1)) by omega,←ahA,←ahA]
  simp
 rw[e,List.find?_append,vI h];simp[hp]
def firstAt (p:Nat→Bool) (n:Nat):Int:=match(afc n).find? p with
 |some i=>i
 |none=> -1
theorem jN {p:Nat→Bool} {n:Nat} (h:∀i,i<n→p i=false):firstAt p n= -1:=by unfold firstAt;rw[vI h]
theorem jO {p:Nat→Bool} {n y:Nat} (hy:y<n) (hp:p y=true) (h:∀i,i<y→p i=false):firstAt p n=y:=by unfold firstAt;rw[CU hy hp h]
theorem gD {p:Nat→Bool} {n:Nat}:decide (0≤firstAt p n)=(afc n).any p:=by
 unfold firstAt;cases h:(afc n).find? p with
 |some i=>
  have:=ahB h;have hm:=List.mem_of_find?_eq_some h;rw[ahC.2 ⟨i,hm,this⟩];simp
 |none=>
  rw[ahz]at h;rw[ahD.2 (fun x hx=>h x hx)];simp
theorem nK {α:Type} (p:α→Bool) (d:α) (l:List α):(afc l.length).any (fun i=>p (l.getD i d))=l.any p:=by
 rw[ag9,ahC,ahC];constructor
 ·rintro⟨i,hi,h⟩
  have hi:=agU.1 hi;rw[afe,afj hi]at h;exact⟨l[i],ahr hi,h⟩
 ·rintro⟨x,hx,h⟩
  obtain⟨i,hi,rfl⟩:=afi hx;exact⟨i,agU.2 hi,by rw[afe,afj hi];exact h⟩
def Eo:PSp:=fun xs K=>match xs with
 | [.isl (.ints .i64 l) .none,.fn (.func f) fs cs]=>VC (l.length≤2000000)∧∃p:Int→Bool,(∀x∈l,aF Tryz.prog f (fs++[.int .i64 x]++cs) (.bp (p x)))∧K (.int .i64 (firstAt (fun i=>p (l.getD i 0)) l.length))
 |_=>False
theorem Qe (l:List Int) (hl:l.length≤2000000) (f:Nat) (fs cs:List PV) (p:Int→Bool) (hp:∀x∈l,aF Tryz.prog f (fs++[.int .i64 x]++cs) (.bp (p x))):
 aF Tryz.prog 207 [.isl (.ints .i64 l) .none,.fn (.func f) fs cs] (.int .i64 (firstAt (fun i=>p (l.getD i 0)) l.length)):=by
 refine zP 1 (enters' Tryz.func207 (by rfl) (by rfl)) rfl (by simp) fun S0 w0 us vs hu hv=>?_
 have hY:∀r,kI Tryz.prog r (wJ S0 w0) (fnY f us vs fun xs K=>match xs with
  | [.int .i64 x]=>VC (x∈l)∧K (.bp (p x))
  |_=>False):=fun r=>Pv (fs:=fs) (cs:=cs) (fun S w hb=>⟨hu.mono hb.1 (.refl _),hv.mono hb.1 (.refl _)⟩) fun xs K hk=>by
  split at hk
  ·exact⟨_,hk.2,hp _ hk.1.get⟩
  ·exact hk.elim
 have W:Walk Tryz.prog none (wJ S0 w0) tab.get noC _:=⟨sV,mixed,ak,aD.up _,hY none⟩;refine uS sV mixed ak (md:=1) (rf:=[]) (aD.up _) (hY none) Tryz.func207 (by rfl) (by rfl) ?_
 repeat'((conv=>whnf);first|intro _|apply aI|with_reducible exact vM rfl|exact⟨⟩|apply nM|apply fM)
 all_goals((try apply vM);(try simp only[vq]at*);try omega)
 conv=>whnf
 refine aL (X:=Nat) (fun i=>i≤l.length∧∀j,j<i→p (l.getD j 0)=false) (fun i=>[(8,.int .i64 i)]) (fun i=>[]) (fun i=>l.length-i) 0 W (by rfl) ⟨by omega,fun j hj=>by omega⟩ ?_ ?_
 ·repeat'((conv=>whnf);first|intro _|apply aI|with_reducible exact vM rfl|exact⟨⟩|apply nM|apply fM)
  all_goals((try apply vM);(try simp only[vq]at*);try omega)
 ·rintro i ⟨hi,hok⟩
  by_cases hlt:i<l.length
  ·have hm:l.getD i 0∈l:=by rw[afe,afj hlt];exact ahr hlt
   repeat'((conv=>whnf);first|intro _|apply aI|with_reducible exact vM rfl|exact⟨⟩|apply nM|apply fM)
   all_goals((try apply vM);(try simp only[vq]at*);try omega)
   ·rw[jO hlt ‹p (l.getD i 0)=true› hok];exact Sup.of rfl
   ·refine⟨i+1,[],⟨⟨by omega,fun j hj=>?_⟩,by omega⟩,?_⟩
    ·by_cases e:j=i
     ·subst e;assumption
     ·exact hok j (by omega)
    ·repeat'((conv=>whnf);first|intro _|apply aI|with_reducible exact vM rfl|exact⟨⟩|apply nM|apply fM)
     all_goals((try apply vM);(try simp only[vq]at*);try omega)
  ·have:i=l.length:=by omega
   subst this;rw[jN hok]
   repeat'((conv=>whnf);first|intro _|apply aI|with_reducible exact vM rfl|exact⟨⟩|apply nM|apply fM)
   all_goals((try apply vM);(try simp only[vq]at*);try omega)
   exact Sup.of rfl
theorem J8:POK Tryz.prog 207 Eo:=by
 intro xs K h;unfold Eo at h;split at h
 ·obtain⟨⟨h1⟩,p,h2,hK⟩:=h
  exact⟨_,hK,Qe _ h1 _ _ _ p h2⟩
 ·exact h.elim
def Nj:PSp:=fun xs K=>match xs with
 | [.isl (.ints .i64 l) .none,.fn (.func f) fs cs]=>VC (l.length≤2000000∧eY.inlF fs=true∧eY.inlF cs=true)∧∃p:Int→Bool,(∀x∈l,aF Tryz.prog f (fs++[.int .i64 x]++cs) (.bp (p x)))∧K (.bp (l.any p))
 |_=>False
theorem Qf (l:List Int) (hl:l.length≤2000000) (f:Nat) (fs cs:List PV) (hfs:eY.inlF fs=true) (hcs:eY.inlF cs=true) (p:Int→Bool) (hp:∀x∈l,aF Tryz.prog f (fs++[.int .i64 x]++cs) (.bp (p x))):
 aF Tryz.prog 215 [.isl (.ints .i64 l) .none,.fn (.func f) fs cs] (.bp (l.any p)):=by
 have hc:aZ Tryz.prog (aA 207 (aB Eo) noC):=aj (au J8) aD;refine av (md:=1) (rf:=[]) mixed ak hc Tryz.func215 (by rfl) (by rfl) (by rfl) ?_
 repeat'((conv=>whnf);first|intro _|apply aI|with_reducible exact vM rfl|exact⟨⟩|apply nM|apply fM)
 conv=>whnf
 simp only[aB,qx,jl,sG,eY,hfs,hcs]
 repeat'((conv=>whnf);first|intro _|apply aI|with_reducible exact vM rfl|exact⟨⟩|apply nM|apply fM)
 all_goals((try apply vM);(try simp only[vq]at*);try omega)
 refine⟨p,hp,?_⟩
 repeat'((conv=>whnf);first|intro _|apply aI|with_reducible exact vM rfl|exact⟨⟩|apply nM|apply fM)
 all_goals((try apply vM);(try simp only[vq]at*);try omega)
 refine Sup.via ?_
 repeat'((conv=>whnf);first|intro _|apply aI|with_reducible exact vM rfl|exact⟨⟩|apply nM|apply fM)
 refine VC.mk ?_;rw[gD,nK]
theorem YU:POK Tryz.prog 215 Nj:=by
 intro xs K h;unfold Nj at h;split at h
 ·obtain⟨⟨h1,h3,h4⟩,p,h2,hK⟩:=h
  exact⟨_,hK,Qf _ h1 _ _ _ h3 h4 p h2⟩
 ·exact h.elim
theorem Qg (l:List Bool) (hl:l.length≤2000000) (b:Bool):aF Tryz.prog 192 [.isl (.bools l) .none,.bp b] (.int .i64 (firstAt (fun i=>b==l.getD i false) l.length)):=by
 refine av (md:=1) (rf:=[]) mixed ak aD Tryz.func192 (by rfl) (by rfl) (by rfl) ?_
 repeat'((conv=>whnf);first|intro _|apply aI|with_reducible exact vM rfl|exact⟨⟩|apply nM|apply fM)
 all_goals((try apply vM);(try simp only[vq]at*);try omega)
 conv=>whnf
 refine aL (X:=Nat) (fun i=>i≤l.length∧∀j,j<i→(b==l.getD j false)=false) (fun i=>[(8,.int .i64 i)]) (fun i=>[]) (fun i=>l.length-i) 0 ⟨aJ,mixed,ak,aD,aP⟩ (by rfl) ⟨by omega,fun j hj=>by omega⟩ ?_ ?_
 ·repeat'((conv=>whnf);first|intro _|apply aI|with_reducible exact vM rfl|exact⟨⟩|apply nM|apply fM)
  all_goals((try apply vM);(try simp only[vq]at*);try omega)
 ·rintro i ⟨hi,hok⟩
  by_cases hlt:i<l.length
  ·repeat'((conv=>whnf);first|intro _|apply aI|with_reducible exact vM rfl|exact⟨⟩|apply nM|apply fM)
   all_goals((try apply vM);(try simp only[vq]at*);try omega)
   ·rw[jO hlt ‹(b==l.getD i false)=true› hok];exact Sup.of rfl
   ·refine⟨i+1,[],⟨⟨by omega,fun j hj=>?_⟩,by omega⟩,?_⟩
    ·by_cases e:j=i
     ·subst e;assumption
     ·exact hok j (by omega)
    ·repeat'((conv=>whnf);first|intro _|apply aI|with_reducible exact vM rfl|exact⟨⟩|apply nM|apply fM)
     all_goals((try apply vM);(try simp only[vq]at*);try omega)
  ·have:i=l.length:=by omega
   subst this;rw[jN hok]
   repeat'((conv=>whnf);first|intro _|apply aI|with_reducible exact vM rfl|exact⟨⟩|apply nM|apply fM)
   all_goals((try apply vM);(try simp only[vq]at*);try omega)
   exact Sup.of rfl
def Nk:PSp:=fun xs K=>match xs with
 | [.isl (.bools l) .none,.bp b]=>VC (l.length≤2000000)∧K (.int .i64 (firstAt (fun i=>b==l.getD i false) l.length))
 |_=>False
theorem YV:POK Tryz.prog 192 Nk:=by
 intro xs K h;unfold Nk at h;split at h
 ·exact⟨_,h.2,Qg _ h.1.get _⟩
 ·exact h.elim
theorem Qh (l:List Bool) (hl:l.length≤2000000) (b:Bool):aF Tryz.prog 152 [.isl (.bools l) .none,.bp b] (.bp (l.any fun x=>b==x)):=by
 have hc:aZ Tryz.prog (aA 192 (aB Nk) noC):=aj (au YV) aD;refine av (md:=1) (rf:=[]) mixed ak hc Tryz.func152 (by rfl) (by rfl) (by rfl) ?_
 repeat'((conv=>whnf);first|intro _|apply aI|with_reducible exact vM rfl|exact⟨⟩|apply nM|apply fM)
 all_goals((try apply vM);(try simp only[vq]at*);try omega)
 refine Sup.via ?_
 repeat'((conv=>whnf);first|intro _|apply aI|with_reducible exact vM rfl|exact⟨⟩|apply nM|apply fM)
 refine VC.mk ?_;rw[gD,nK (fun x=>b==x)]
def Nl:PSp:=fun xs K=>match xs with
 | [.isl (.bools l) .none,.bp b]=>VC (l.length≤2000000)∧K (.bp (l.any fun x=>b==x))
 |_=>False
theorem YW:POK Tryz.prog 152 Nl:=by
 intro xs K h;unfold Nl at h;split at h
 ·exact⟨_,h.2,Qh _ h.1.get _⟩
 ·exact h.elim
theorem F7:∀(l:List Int) (a b:Int),l.Pairwise (·< ·)→(∀x∈l,a<x∧x≤b)→a≤b→(l.length:Int)≤b-a:=by
 intro l;induction l with
 |nil=>intro a b _ _ h;simp;omega
 |cons x l ih=>
  intro a b hp hr hab;have hx:=hr x (by simp)
  have:=ih x b (agw.1 hp).2 (fun y hy=>⟨(agw.1 hp).1 y hy,(hr y (by simp[hy])).2⟩) hx.2
  rw[aeZ];omega
theorem Bl {l:List Int} (h:Asc l):l.length≤16:=by
 have:=F7 l 0 16 h.pw (fun x hx=>by have:=h.rng x hx;omega) (by omega)
 omega
theorem oN {l:List Int} {i:Nat} {x:PV} (hx:(l.map (PV.int .i64))[i]? =some x):i<l.length∧x=.int .i64 (l.getD i 0):=by
 rw[afZ]at hx;cases h:l[i]? with
 |none=>rw[h]at hx;cases hx
 |some y=>
  rw[h]at hx;cases hx
  exact⟨(agO.1 h).1,by rw[afe,h];rfl⟩
theorem Tc {l:List Int} (h:Asc l) (k:Nat):Asc (l.drop k):=⟨h.pw.sublist (List.drop_sublist k l),fun x hx=>h.rng x (List.mem_of_mem_drop hx)⟩
theorem drop_cons {l:List Int} {k:Nat} (hk:k<l.length):l.drop k=l.getD k 0::l.drop (k+1):=by
 rw[List.drop_eq_getElem_cons hk,afe,afj hk];rfl
noncomputable def ab3:CPT:=aA 190 (aB vG) noC
theorem J9:aZ Tryz.prog ab3:=aj (au yF) aD
theorem jP (l:List Int) (h:Asc l):nk Tryz.prog 189 [] [.ip (.pv [.int .u32 (mk l:Nat)]) 0] 1 (l.map (PV.int .i64)):=by
 refine kZ (md:=1) (rf:=[]) mixed ak Tryz.func189 (by rfl) (by rfl) (by rfl) fun G go b hY=>⟨_,J9,?_⟩
 obtain⟨L,hL⟩:∃L,L=l.map (PV.int .i64):=⟨_,rfl⟩;have hlen:L.length=l.length:=by simp[hL]
 have hget:∀i,i<l.length→L[i]? =some (.int .i64 (l.getD i 0)):=fun i hi=>by simp[hL,hi]
 rw[←hL]at hY⊢;have W:Walk Tryz.prog none kH tab.get ab3 (sZ b 1 G go L):=⟨aJ,mixed,ak,J9,hY _ _⟩;have stop:∀i,i<l.length→GoTo go L i→go (L.take i++[.int .i64 (l.getD i 0)])=false→L.take i++[.int .i64 (l.getD i 0)]=iH go [] L:=fun i hi hg h=>by
  rw[dX (hget i hi)]at h⊢;rw[uV (by omega) hg h]
 have cont:∀i,i<l.length→GoTo go L i→go (L.take i++[.int .i64 (l.getD i 0)])=true→GoTo go L (i+1):=fun i hi hg h=>hg.succ (by rw[←dX (hget i hi)];exact h)
 have done:GoTo go L l.length→L.take l.length=iH go [] L:=fun hg=>by rw[xZ (by omega) hg,←hlen];simp
 repeat'((conv=>whnf);first|intro _|apply aI|with_reducible exact vM rfl|exact⟨⟩|apply nM|apply fM)
 all_goals((try apply vM);(try simp only[vq]at*);try omega)
 conv=>whnf
 refine aL (X:=Nat) (fun k=>k≤l.length∧GoTo go L k) (fun k=>[(3,.int .u32 (mk (l.drop k):Nat))]) (fun k=>[(0,.ext G (L.take k))]) (fun k=>l.length-k) 0 W (by rfl) ⟨by omega,.zero⟩ ?_ ?_
 ·repeat'((conv=>whnf);first|intro _|apply aI|with_reducible exact vM rfl|exact⟨⟩|apply nM|apply fM)
  all_goals((try apply vM);(try simp only[vq]at*);try omega)
  all_goals simp
 intro k hk;obtain⟨hk1,hk3⟩:=hk;by_cases hlt:k<l.length
 ·have hA:=Tc h k
  have hr:=pR hA;have e:=drop_cons hlt;have hpos:0<mk (l.drop k):=by rw[e]at hA⊢;exact mk_pos hA
  have hlow:pQ (mk (l.drop k))=l.getD k 0:=by rw[e]at hA⊢;exact J7 hA
  have hrest:IntKind.u32.wrap ((afn IntKind.u32.bits (mk (l.drop k):Int)&&& afn IntKind.u32.bits ((mk (l.drop k):Int)-1)).toNat:Int)=(mk (l.drop (k+1)):Nat):=by rw[e]at hA⊢;exact YK hA
  repeat'((conv=>whnf);first|(intro hq;(try simp only[vw]at hq);try first|exact absurd hq (by decide)|exfalso;omega)|apply aI|with_reducible exact vM rfl|exact⟨⟩|apply nM|apply fM)
  all_goals(try rw[hlow]at*)
  all_goals((try apply vM);(try simp only[vq]at*);try omega)
  ·exact PU (hget k hlt) hk3
  ·exact stop k hlt hk3 (by rename_i hq;simpa using hq)
  ·refine⟨k+1,[],⟨⟨by omega,cont k hlt hk3 (by rename_i hq;simpa using hq)⟩,by omega⟩,?_⟩
   repeat'((conv=>whnf);first|intro _|apply aI|with_reducible exact vM rfl|exact⟨⟩|apply nM|apply fM)
   all_goals((try apply vM);(try simp only[vq]at*);try omega)
   all_goals exact dX (hget k hlt)
 ·have:l.length=k:=by omega
  subst this;have hz:mk (l.drop l.length)=0:=by rw[ahE];rfl
  rw[hz]
  repeat'((conv=>whnf);first|(intro hq;(try simp only[vw]at hq);try first|exact absurd hq (by decide)|exfalso;omega)|apply aI|with_reducible exact vM rfl|exact⟨⟩|apply nM|apply fM)
  all_goals((try apply vM);(try simp only[vq]at*);try omega)
  exact done hk3
def hsN (l:List Int):Nat→List (Nat × AO):=fun i=>[(0,.cells (.pv [.isl (.ints .i64 (l.take i)) (.own 5)]) false),(5,.tok 1 i)]
theorem Nn (l:List Int) (h:Asc l):aF Tryz.prog 188 [.nils,.fn (.func 189) [] [.ip (.pv [.int .u32 (mk l:Nat)]) 0]] (.isl (.ints .i64 l) .none):=by
 have h16:=Bl h;refine av (md:=1) (rf:=[]) mixed ak aD Tryz.func188 (by rfl) (by rfl) (by rfl) ?_
 repeat'((conv=>whnf);first|intro _|apply aI|with_reducible exact vM rfl|exact⟨⟩|apply nM|apply fM)
 all_goals((try apply vM);(try simp only[vq]at*);try omega)
 conv=>whnf
 refine jg aJ mixed ak aD (fun r=>aP) (fs:=[]) (cs:=[.ip (.pv [.int .u32 (mk l:Nat)]) 0]) (l.map (PV.int .i64)) (fun _=>true) (hsN l) (by rfl) (by rfl) (by rfl) (jP l h) (by rfl) (by rfl) (by rfl) (by rfl) ?_ ?_ ?_
 ·repeat'((conv=>whnf);first|intro _|apply aI|with_reducible exact vM rfl|exact⟨⟩|apply nM|apply fM)
  all_goals((try apply vM);(try simp only[vq]at*);try omega)
 ·intro hall
  rw[ag3]
  repeat'((conv=>whnf);first|intro _|apply aI|with_reducible exact vM rfl|exact⟨⟩|apply nM|apply fM)
  all_goals((try apply vM);(try simp only[vq]at*);try omega)
  all_goals(try rw[ag7])
  all_goals exact Sup.of rfl
 ·intro i x hx hall lp
  have hx':i<l.length∧x=.int .i64 (l.getD i 0):=by
   rw[afZ]at hx;cases h:l[i]? with
   |none=>rw[h]at hx;cases hx
   |some y=>
    rw[h]at hx;cases hx
    have:=(agO.1 h).1;exact⟨this,by rw[afe,h];rfl⟩
  obtain⟨hi,rfl⟩:=hx';have e1:(l.take i).length=i:=by rw[afR];omega
  have e2:l.take i++[l.getD i 0]=l.take (i+1):=by
   rw[ag5,afe,afj hi];rfl
  repeat'((conv=>whnf);first|intro _|apply aI|with_reducible exact vM rfl|exact⟨⟩|apply nM|apply fM)
  all_goals((try apply vM);(try simp only[vq]at*);try omega)
  all_goals(try(simp only[agl,afR,aeZ,aeV];omega))
  refine⟨[],?_⟩
  repeat'((conv=>whnf);first|intro _|apply aI|with_reducible exact vM rfl|exact⟨⟩|apply nM|apply fM)
  all_goals((try apply vM);(try simp only[vq]at*);try omega)
  all_goals(try(rw[e2]))
def F8:PSp:=fun xs K=>match xs with
 | [.nils,.fn (.func f) [] [.ip (.pv [.int .u32 m]) 0]]=>∃l,VC (f=189∧m=(mk l:Nat)∧Asc l)∧K (.isl (.ints .i64 l) .none)
 |_=>False
theorem Td:POK Tryz.prog 188 F8:=by
 intro xs K hk;unfold F8 at hk;split at hk
 ·obtain⟨l,⟨rfl,rfl,h⟩,hk⟩:=hk
  exact⟨_,hk,Nn _ h⟩
 ·exact hk.elim
noncomputable def adW:CPT:=aA 188 (MK F8) noC
theorem YX:aZ Tryz.prog adW:=aj (Sk Td) aD
theorem Qi (l:List Int) (h:Asc l):aF Tryz.prog 148 [.fn (.func 189) [] [.ip (.pv [.int .u32 (mk l:Nat)]) 0]] (.isl (.ints .i64 l) .none):=by
 refine av (md:=1) (rf:=[]) mixed ak YX Tryz.func148 (by rfl) (by rfl) (by rfl) ?_
 repeat'((conv=>whnf);first|intro _|apply aI|with_reducible exact vM rfl|exact⟨⟩|apply nM|apply fM)
 refine⟨l,VC.mk ⟨rfl,rfl,h⟩,?_⟩
 repeat'((conv=>whnf);first|intro _|apply aI|with_reducible exact vM rfl|exact⟨⟩|apply nM|apply fM)
 all_goals((try apply vM);(try simp only[vq]at*);try omega)
 all_goals exact Sup.of rfl
def Np:PSp:=fun xs K=>match xs with
 | [.fn (.func f) [] [.ip (.pv [.int .u32 m]) 0]]=>∃l,VC (f=189∧m=(mk l:Nat)∧Asc l)∧K (.isl (.ints .i64 l) .none)
 |_=>False
theorem YZ:POK Tryz.prog 148 Np:=by
 intro xs K hk;unfold Np at hk;split at hk
 ·obtain⟨l,⟨rfl,rfl,h⟩,hk⟩:=hk
  exact⟨_,hk,Qi _ h⟩
 ·exact hk.elim
theorem DI (m:Int):aF Tryz.prog 149 [.int .u32 m] (.fn (.func 189) [] [.ip (.pv [.int .u32 m]) 0]):=by
 refine av (md:=1) (rf:=[]) mixed ak aD Tryz.func149 (by rfl) (by rfl) (by rfl) ?_
 repeat'((conv=>whnf);first|intro _|apply aI|with_reducible exact vM rfl|exact⟨⟩|apply nM|apply fM)
 all_goals((try apply vM);(try simp only[vq]at*);try omega)
 all_goals exact Sup.of rfl
def Ab:PSp:=fun xs K=>match xs with
 | [.int .u32 m]=>VC (True)∧K (.fn (.func 189) [] [.ip (.pv [.int .u32 m]) 0])
 |_=>False
theorem Bn:POK Tryz.prog 149 Ab:=by
 intro xs K h;unfold Ab at h;split at h
 ·exact⟨_,h.2,DI _⟩
 ·exact h.elim
theorem Qj (l:List Int) (hl:l.length≤2000000) (b:Int):aF Tryz.prog 191 [.isl (.ints .u32 l) .none,.int .u32 b] (.int .i64 (firstAt (fun i=>decide (b=l.getD i 0)) l.length)):=by
 refine av (md:=1) (rf:=[]) mixed ak aD Tryz.func191 (by rfl) (by rfl) (by rfl) ?_
 repeat'((conv=>whnf);first|intro _|apply aI|with_reducible exact vM rfl|exact⟨⟩|apply nM|apply fM)
 all_goals((try apply vM);(try simp only[vq]at*);try omega)
 conv=>whnf
 refine aL (X:=Nat) (fun i=>i≤l.length∧∀j,j<i→decide (b=l.getD j 0)=false) (fun i=>[(8,.int .i64 i)]) (fun i=>[]) (fun i=>l.length-i) 0 ⟨aJ,mixed,ak,aD,aP⟩ (by rfl) ⟨by omega,fun j hj=>by omega⟩ ?_ ?_
 ·repeat'((conv=>whnf);first|intro _|apply aI|with_reducible exact vM rfl|exact⟨⟩|apply nM|apply fM)
  all_goals((try apply vM);(try simp only[vq]at*);try omega)
 ·rintro i ⟨hi,hok⟩
  by_cases hlt:i<l.length
  ·repeat'((conv=>whnf);first|intro _|apply aI|with_reducible exact vM rfl|exact⟨⟩|apply nM|apply fM)
   all_goals((try apply vM);(try simp only[vq]at*);try omega)
   ·rename_i hq
    rw[jO (p:=fun i=>decide (b=l.getD i 0)) hlt (decide_eq_true hq) (fun j hj=>decide_eq_false (hok j hj))];exact Sup.of rfl
   ·refine⟨i+1,[],⟨⟨by omega,fun j hj=>?_⟩,by omega⟩,?_⟩
    ·by_cases e:j=i
     ·subst e;first|assumption|(apply decide_eq_false;assumption)
     ·first|exact hok j (by omega)|exact decide_eq_false (hok j (by omega))
    ·repeat'((conv=>whnf);first|intro _|apply aI|with_reducible exact vM rfl|exact⟨⟩|apply nM|apply fM)
     all_goals((try apply vM);(try simp only[vq]at*);try omega)
  ·have:i=l.length:=by omega
   subst this;rw[jN hok]
   repeat'((conv=>whnf);first|intro _|apply aI|with_reducible exact vM rfl|exact⟨⟩|apply nM|apply fM)
   all_goals((try apply vM);(try simp only[vq]at*);try omega)
   exact Sup.of rfl
def Nq:PSp:=fun xs K=>match xs with
 | [.isl (.ints .u32 l) .none,.int .u32 b]=>VC (l.length≤2000000)∧K (.int .i64 (firstAt (fun i=>decide (b=l.getD i 0)) l.length))
 |_=>False
theorem Y0:POK Tryz.prog 191 Nq:=by
 intro xs K h;unfold Nq at h;split at h
 ·exact⟨_,h.2,Qj _ h.1.get _⟩
 ·exact h.elim
noncomputable def adX:CPT:=aA 191 (aB Nq) noC
theorem Y1:aZ Tryz.prog adX:=aj (au Y0) aD
theorem Qk (l:List Int) (hl:l.length≤2000000) (b:Int):aF Tryz.prog 150 [.isl (.ints .u32 l) .none,.int .u32 b] (.bp (l.any fun y=>decide (b=y))):=by
 refine av (md:=1) (rf:=[]) mixed ak Y1 Tryz.func150 (by rfl) (by rfl) (by rfl) ?_
 repeat'((conv=>whnf);first|intro _|apply aI|with_reducible exact vM rfl|exact⟨⟩|apply nM|apply fM)
 all_goals((try apply vM);(try simp only[vq]at*);try omega)
 refine Sup.via ?_
 repeat'((conv=>whnf);first|intro _|apply aI|with_reducible exact vM rfl|exact⟨⟩|apply nM|apply fM)
 refine VC.mk ?_;rw[gD,nK (fun y=>decide (b=y))]
def Nr:PSp:=fun xs K=>match xs with
 | [.isl (.ints .u32 l) .none,.int .u32 b]=>VC (l.length≤2000000)∧K (.bp (l.any fun y=>decide (b=y)))
 |_=>False
theorem Y2:POK Tryz.prog 150 Nr:=by
 intro xs K h;unfold Nr at h;split at h
 ·exact⟨_,h.2,Qk _ h.1.get _⟩
 ·exact h.elim
def fP (cs l:List Int) (i:Nat):Int:=(l.take i).foldl (fun s c=>s+cs.getD c.toNat 0) 0
theorem Ac (cs l:List Int) (i:Nat) (h:i<l.length):fP cs l (i+1)=fP cs l i+cs.getD (l.getD i 0).toNat 0:=by
 unfold fP;rw[ag5,ahq];simp[h]
theorem lI {ls:List (List Int)} {i:Nat} (h:i<ls.length):ls.getD i []∈ls:=by
 rw[afe,afj h];exact ahr _
theorem bW {l:List Int} {i:Nat} (h:i<l.length):l.getD i 0∈l:=by
 rw[afe,afj h];exact ahr _
theorem Ns (h:Bool) (e:Int):aF Tryz.prog 195 [.bp h,.int .i64 e] (.int .i64 (if h then e else 0)):=by
 refine av (md:=0) (rf:=[]) mixed ak aD Tryz.func195 (by rfl) (by rfl) (by rfl) ?_
 repeat'((conv=>whnf);first|intro _|apply aI|with_reducible exact vM rfl|exact⟨⟩|apply nM|apply fM)
 all_goals all_goals(first|(refine Sup.of ?_;first|rfl|(simp[*,bG];done))|(refine Sup.via ?_;repeat'((conv=>whnf);first|intro _|apply aI|with_reducible exact vM rfl|exact⟨⟩|apply nM|apply fM);all_goals((try apply vM);(try simp only[vq]at*);try omega);all_goals(try(simp[CL.sub];done))))
theorem Ji (h:Bool) (e:Int):aF Tryz.prog 195 [.bool h,.int .i64 e] (.int .i64 (if h then e else 0)):=by
 cases h
 all_goals
  refine av (md:=0) (rf:=[]) mixed ak aD Tryz.func195 (by rfl) (by rfl) (by rfl) ?_
  repeat'((conv=>whnf);first|intro _|apply aI|with_reducible exact vM rfl|exact⟨⟩|apply nM|apply fM)
  all_goals all_goals(first|(refine Sup.of ?_;first|rfl|(simp[*,bG];done))|(refine Sup.via ?_;repeat'((conv=>whnf);first|intro _|apply aI|with_reducible exact vM rfl|exact⟨⟩|apply nM|apply fM);all_goals((try apply vM);(try simp only[vq]at*);try omega);all_goals(try(simp[CL.sub];done))))
theorem pU:POK Tryz.prog 195 gW:=by
 intro xs K h;unfold gW at h;split at h
 ·exact⟨_,h,Ns _ _⟩
 ·exact⟨_,h,Ji _ _⟩
 ·exact h.elim
structure Ep (f l:List Int):Prop where
 len:l.length≤1000000
 at':∀c∈l,0≤c∧c<f.length
 bd:∀i,i≤l.length→ -1000000000000≤fP f l i∧fP f l i≤1000000000000
theorem Ql (l f:List Int) (h:Ep f l):aF Tryz.prog 232 [.isl (.ints .i64 l) .none,.isl (.ints .i64 f) .none] (.int .i64 (fP f l l.length)):=by
 obtain⟨hl,hm,hb⟩:=h;refine av (md:=1) (rf:=[]) mixed ak aD Tryz.func232 (by rfl) (by rfl) (by rfl) ?_
 repeat'((conv=>whnf);first|intro _|apply aI|with_reducible exact vM rfl|exact⟨⟩|apply nM|apply fM)
 all_goals((try apply vM);(try simp only[vq]at*);try omega)
 conv=>whnf
 refine aL (X:=Nat) (fun i=>i≤l.length) (fun i=>[(5,.int .i64 (fP f l i)),(10,.int .i64 i)]) (fun _=>[]) (fun i=>l.length-i) 0 ⟨aJ,mixed,ak,aD,aP⟩ (by rfl) (by omega) ?_ ?_
 ·repeat'((conv=>whnf);first|intro _|apply aI|with_reducible exact vM rfl|exact⟨⟩|apply nM|apply fM)
  all_goals((try apply vM);(try simp only[vq]at*);try omega)
  all_goals(try rfl)
 intro i hi;by_cases hlt:i<l.length
 ·have key:=hm (l.getD i 0) (by simp[hlt])
  have hs:=hb (i+1) hlt;have hs0:=hb i hi;have e:=Ac f l i hlt
  repeat'((conv=>whnf);first|intro _|apply aI|with_reducible exact vM rfl|exact⟨⟩|apply nM|apply fM)
  all_goals((try apply vM);(try simp only[vq]at*);try omega)
  refine⟨i+1,[],⟨by omega,by omega⟩,?_⟩
  repeat'((conv=>whnf);first|intro _|apply aI|with_reducible exact vM rfl|exact⟨⟩|apply nM|apply fM)
  all_goals((try apply vM);(try simp only[vq]at*);try omega)
  all_goals(try(rw[e]))
 ·have:i=l.length:=by omega
  subst this
  repeat'((conv=>whnf);first|intro _|apply aI|with_reducible exact vM rfl|exact⟨⟩|apply nM|apply fM)
  all_goals((try apply vM);(try simp only[vq]at*);try omega)
  all_goals(first|(refine Sup.of ?_;first|rfl|(simp[*,bG];done))|(refine Sup.via ?_;repeat'((conv=>whnf);first|intro _|apply aI|with_reducible exact vM rfl|exact⟨⟩|apply nM|apply fM);all_goals((try apply vM);(try simp only[vq]at*);try omega);all_goals(try(simp[CL.sub];done))))
def Nt:PSp:=fun xs K=>match xs with
 | [.isl (.ints .i64 l) .none,.isl (.ints .i64 f) .none]=>VC (Ep f l)∧K (.int .i64 (fP f l l.length))
 |_=>False
theorem Y3:POK Tryz.prog 232 Nt:=by
 intro xs K h;unfold Nt at h;split at h
 ·exact⟨_,h.2,Ql _ _ h.1.get⟩
 ·exact h.elim
def gL (f:List Int) (ls:List (List Int)) (m:Nat):List Int:=(ls.take m).map fun l=>fP f l l.length
theorem Nu (f:List Int) (ls:List (List Int)) (m:Nat) (h:m<ls.length):gL f ls (m+1)=gL f ls m++[fP f (ls.getD m []) (ls.getD m []).length]:=by
 unfold gL;rw[ag5,ag6,afe,afj h];rfl
theorem CV (f:List Int) (ls:List (List Int)) (m:Nat) (h:m≤ls.length):(gL f ls m).length=m:=by simp[gL];omega
noncomputable def adY:CPT:=aA 232 (aB Nt) noC
theorem Kc:aZ Tryz.prog adY:=aj (au Y3) aD
theorem Qm (c:Int) (ls:List (List Int)) (f:List Int) (hl:ls.length≤1000000) (h:∀i,i<ls.length→Ep f (ls.getD i [])):aF Tryz.prog 206 [.agg [.int .i64 c,.isl (.rows .i64 ls) .none],.isl (.ints .i64 f) .none] (.isl (.ints .i64 (gL f ls ls.length)) .none):=by
 refine av (md:=1) (rf:=[]) mixed ak Kc Tryz.func206 (by rfl) (by rfl) (by rfl) ?_
 repeat'((conv=>whnf);first|intro _|apply aI|with_reducible exact vM rfl|exact⟨⟩|apply nM|apply fM)
 all_goals((try apply vM);(try simp only[vq]at*);try omega)
 conv=>whnf
 refine aL (X:=Nat) (fun i=>i≤ls.length) (fun i=>[(11,.int .i64 i),(5,.isl (.ints .i64 (gL f ls i)) (.own 3)),(7,.any)]) (fun i=>[(3,.tok 1 i)]) (fun i=>ls.length-i) 0 ⟨aJ,mixed,ak,Kc,aP⟩ (by rfl) (by omega) ?_ ?_
 ·repeat'((conv=>whnf);first|intro _|apply aI|with_reducible exact vM rfl|exact⟨⟩|apply nM|apply fM)
  all_goals((try apply vM);(try simp only[vq]at*);try omega)
 intro i hi;by_cases hlt:i<ls.length
 ·have e0:=CV f ls i hi
  have e1:=Nu f ls i hlt;have e2:=h i hlt
  repeat'((conv=>whnf);first|intro _|apply aI|with_reducible exact vM rfl|exact⟨⟩|apply nM|apply fM)
  all_goals((try apply vM);(try simp only[vq]at*);try omega)
  all_goals(try exact e2)
  all_goals(try(simp only[agl,aeZ,aeV];omega))
  refine⟨i+1,[],⟨by omega,by omega⟩,?_⟩
  repeat'((conv=>whnf);first|intro _|apply aI|with_reducible exact vM rfl|exact⟨⟩|apply nM|apply fM)
  all_goals((try apply vM);(try simp only[vq]at*);try omega)
  all_goals(try(rw[e1]))
 ·have:ls.length=i:=by omega
  subst this
  repeat'((conv=>whnf);first|intro _|apply aI|with_reducible exact vM rfl|exact⟨⟩|apply nM|apply fM)
  all_goals((try apply vM);(try simp only[vq]at*);try omega)
  all_goals(refine Sup.via ?_;repeat'((conv=>whnf);first|intro _|apply aI|with_reducible exact vM rfl|exact⟨⟩|apply nM|apply fM);all_goals((try apply vM);(try simp only[vq]at*);try omega);all_goals(try(simp[CL.sub];done)))
structure rD (f:List Int) (ls:List (List Int)):Prop where
 len:1≤ls.length∧ls.length≤1000000
 all:∀i,i<ls.length→Ep f (ls.getD i [])
def Nv:PSp:=fun xs K=>match xs with
 | [.agg [.int .i64 c,.isl (.rows .i64 ls) .none],.isl (.ints .i64 f) .none]=>VC (rD f ls)∧K (.isl (.ints .i64 (gL f ls ls.length)) .none)
 |_=>False
theorem Y4:POK Tryz.prog 206 Nv:=by
 intro xs K h;unfold Nv at h;split at h
 ·exact⟨_,h.2,Qm _ _ _ h.1.get.len.2 h.1.get.all⟩
 ·exact h.elim
def wR (all:List Int) (x:Int):Bool:=decide (x≠all.getD 0 0)
theorem Te (all:List Int) (h:1≤all.length) (x:Int):aF Tryz.prog 208 ([]++[.int .i64 x]++[.ip (.pv [.isl (.ints .i64 all) .none]) 0]) (.bp (wR all x)):=by
 unfold wR;refine av (md:=0) (rf:=[]) mixed ak aD Tryz.func208 (by rfl) (by rfl) (by rfl) ?_
 repeat'((conv=>whnf);first|intro _|apply aI|with_reducible exact vM rfl|exact⟨⟩|apply nM|apply fM)
 all_goals((try apply vM);(try simp only[vq]at*);try omega)
 all_goals(refine Sup.via ?_;repeat'((conv=>whnf);first|intro _|apply aI|with_reducible exact vM rfl|exact⟨⟩|apply nM|apply fM);all_goals((try apply vM);(try simp only[vq]at*);try omega))
 all_goals rfl
def kC (all:List Int):Int:=firstAt (fun i=>wR all (all.getD i 0)) all.length
noncomputable def adZ:CPT:=aA 206 (aB Nv) (aA 207 (aB Eo) noC)
theorem Y5:aZ Tryz.prog adZ:=aj (au Y4) (aj (au J8) aD)
theorem F9 (c:Int) (ls:List (List Int)) (f:List Int) (h:rD f ls):aF Tryz.prog 169 [.agg [.int .i64 c,.isl (.rows .i64 ls) .none],.isl (.ints .i64 f) .none] (.int .i64 (kC (gL f ls ls.length))):=by
 have e:=CV f ls ls.length (ae3 _);have h1:=h.len;refine av (md:=1) (rf:=[]) mixed ak Y5 Tryz.func169 (by rfl) (by rfl) (by rfl) ?_
 repeat'((conv=>whnf);first|intro _|apply aI|with_reducible exact vM rfl|exact⟨⟩|apply nM|apply fM)
 all_goals((try apply vM);(try simp only[vq]at*);try omega)
 all_goals(try exact h)
 refine⟨wR (gL f ls ls.length),fun x _=>Te _ (by omega) x,?_⟩
 repeat'((conv=>whnf);first|intro _|apply aI|with_reducible exact vM rfl|exact⟨⟩|apply nM|apply fM)
 all_goals((try apply vM);(try simp only[vq]at*);try omega)
 all_goals(refine Sup.via ?_;repeat'((conv=>whnf);first|intro _|apply aI|with_reducible exact vM rfl|exact⟨⟩|apply nM|apply fM);all_goals((try apply vM);(try simp only[vq]at*);try omega);all_goals(try(simp[CL.sub];done)))
 rfl
def yG:PSp:=fun xs K=>match xs with
 | [.agg [.int .i64 c,.isl (.rows .i64 ls) .none],.isl (.ints .i64 f) .none]=>VC (rD f ls)∧K (.int .i64 (kC (gL f ls ls.length)))
 |_=>False
theorem Nw:POK Tryz.prog 169 yG:=by
 intro xs K h;unfold yG at h;split at h
 ·exact⟨_,h.2,F9 _ _ _ h.1.get⟩
 ·exact h.elim
theorem Jj (l:List Int) (hl:l.length<1000000):aF Tryz.prog 193 [.isl (.ints .i64 l) .none] (.int .i64 (aK l)):=by
 refine av (md:=1) (rf:=[]) mixed ak aD Tryz.func193 (by rfl) (by rfl) (by rfl) ?_
 repeat'((conv=>whnf);first|intro _|apply aI|with_reducible exact vM rfl|exact⟨⟩|apply nM|apply fM)
 all_goals((try apply vM);(try simp only[vq]at*);try omega)
 conv=>whnf
 refine aL (X:=Nat) (fun i=>i≤l.length∧∀j,j<i→l.getD j 0=0) (fun i=>[(7,.int .i64 i)]) (fun _=>[]) (fun i=>l.length-i) 0 ⟨aJ,mixed,ak,aD,aP⟩ (by rfl) ⟨by omega,fun j hj=>by omega⟩ ?_ ?_
 ·repeat'((conv=>whnf);first|intro _|apply aI|with_reducible exact vM rfl|exact⟨⟩|apply nM|apply fM)
  all_goals((try apply vM);(try simp only[vq]at*);try omega)
 ·intro i hi
  obtain⟨hi,hz⟩:=hi
  repeat'((conv=>whnf);first|intro _|apply aI|with_reducible exact vM rfl|exact⟨⟩|apply nM|apply fM)
  all_goals((try apply vM);(try simp only[vq]at*);try omega)
  ·rename_i hne
   have:=ku l i (by omega) hz (by simpa using hne)
   rw[this];exact Sup.of rfl
  ·rename_i hne
   have hne:l.getD i 0=0:=by simpa using hne
   refine⟨i+1,[],⟨⟨by omega,fun j hj=>?_⟩,by omega⟩,?_⟩
   ·by_cases e:j=i
    ·subst e;exact hne
    ·exact hz j (by omega)
   ·repeat'((conv=>whnf);first|intro _|apply aI|with_reducible exact vM rfl|exact⟨⟩|apply nM|apply fM)
    all_goals((try apply vM);(try simp only[vq]at*);try omega)
  ·have:i=l.length:=by omega
   subst this;rw[vE l hz];exact Sup.of rfl
def oO:PSp:=fun xs K=>match xs with
 | [.isl (.ints .i64 l) .none]=>VC (l.length<1000000)∧K (.int .i64 (aK l))
 |_=>False
theorem qF:POK Tryz.prog 193 oO:=by
 intro xs K h;unfold oO at h;split at h
 ·exact⟨_,h.2,Jj _ h.1.get⟩
 ·exact h.elim
def jQ (lo hi x:Int):Bool:=decide (x<lo)||decide (hi<x)
theorem Tf (lo hi x:Int):aF Tryz.prog 221 ([]++[.int .i64 x]++[.ip (.pv [.int .i64 lo]) 0,.ip (.pv [.int .i64 hi]) 0]) (.bp (jQ lo hi x)):=by
 refine av (md:=1) (rf:=[]) mixed ak aD Tryz.func221 (by rfl) (by rfl) (by rfl) ?_
 unfold jQ
 repeat'((conv=>whnf);first|intro _|apply aI|with_reducible exact vM rfl|exact⟨⟩|apply nM|apply fM)
 ·rename_i hq
  rw[show(decide (x<lo))=false from hq,ahF];exact Sup.of rfl
 ·rename_i hq
  rw[show(decide (x<lo))=true from hq,ahG];all_goals(refine Sup.via ?_;repeat'((conv=>whnf);first|intro _|apply aI|with_reducible exact vM rfl|exact⟨⟩|apply nM|apply fM);all_goals((try apply vM);(try simp only[vq]at*);try omega);all_goals(try(simp[CL.sub];done)))
noncomputable def ad1:CPT:=aA 215 (zR Nj) (aA 195 (aB gW) noC)
theorem Y6:aZ Tryz.prog ad1:=aj (CB YU) (aj (au pU) aD)
theorem Qn (lo hi:Int) (l:List Int) (hl:l.length≤2000000):aF Tryz.prog 194 [.int .i64 lo,.int .i64 hi,.isl (.ints .i64 l) .none] (.int .i64 (if l.any (jQ lo hi)then 3 else 0)):=by
 refine av (md:=1) (rf:=[]) mixed ak Y6 Tryz.func194 (by rfl) (by rfl) (by rfl) ?_
 repeat'((conv=>whnf);first|intro _|apply aI|with_reducible exact vM rfl|exact⟨⟩|apply nM|apply fM)
 all_goals((try apply vM);(try simp only[vq]at*);try omega)
 ·exact⟨hl,rfl,rfl⟩
 refine⟨jQ lo hi,fun x _=>Tf lo hi x,?_⟩
 repeat'((conv=>whnf);first|intro _|apply aI|with_reducible exact vM rfl|exact⟨⟩|apply nM|apply fM)
 all_goals((try apply vM);(try simp only[vq]at*);try omega)
 all_goals(first|(refine Sup.of ?_;first|rfl|(simp[*,bG];done))|(refine Sup.via ?_;repeat'((conv=>whnf);first|intro _|apply aI|with_reducible exact vM rfl|exact⟨⟩|apply nM|apply fM);all_goals((try apply vM);(try simp only[vq]at*);try omega);all_goals(try(simp[CL.sub];done))))
def Er:PSp:=fun xs K=>match xs with
 | [.int .i64 lo,.int .i64 hi,.isl (.ints .i64 l) .none]=>VC (l.length≤2000000)∧K (.int .i64 (if l.any (jQ lo hi)then 3 else 0))
 |_=>False
theorem Ke:POK Tryz.prog 194 Er:=by
 intro xs K h;unfold Er at h;split at h
 ·exact⟨_,h.2,Qn _ _ _ h.1.get⟩
 ·exact h.elim
noncomputable def ad3:CPT:=aA 194 (aB Er) noC
theorem Y7:aZ Tryz.prog ad3:=aj (au Ke) aD
def oG (l:List Int):Int:=if l.any (jQ (-999999999) 999999999)then 3 else 0
theorem Ga (l:List Int) (hl:l.length≤2000000):aF Tryz.prog 203 [.isl (.ints .i64 l) .none] (.int .i64 (oG l)):=by
 refine av (md:=1) (rf:=[]) mixed ak Y7 Tryz.func203 (by rfl) (by rfl) (by rfl) ?_
 unfold oG
 repeat'((conv=>whnf);first|intro _|apply aI|with_reducible exact vM rfl|exact⟨⟩|apply nM|apply fM)
 all_goals((try apply vM);(try simp only[vq]at*);try omega)
 all_goals(first|(refine Sup.of ?_;first|rfl|(simp[*,bG];done))|(refine Sup.via ?_;repeat'((conv=>whnf);first|intro _|apply aI|with_reducible exact vM rfl|exact⟨⟩|apply nM|apply fM);all_goals((try apply vM);(try simp only[vq]at*);try omega);all_goals(try(simp[CL.sub];done))))
def tK:PSp:=fun xs K=>match xs with
 | [.isl (.ints .i64 l) .none]=>VC (l.length≤2000000)∧K (.int .i64 (oG l))
 |_=>False
theorem Ad:POK Tryz.prog 203 tK:=by
 intro xs K h;unfold tK at h;split at h
 ·exact⟨_,h.2,Ga _ h.1.get⟩
 ·exact h.elim
theorem Ae {a b:List Int} (hl:a.length=b.length) (h:∀j,j<a.length→a.getD j 0=b.getD j 0):a=b:=by
 refine List.ext_getElem hl fun j h1 h2=>?_;have:=h j h1;rw[afe,afe,afj h1,afj h2]at this;exact this
theorem DJ (a b:List Int) (ha:a.length≤2000000):aF Tryz.prog 36 [.isl (.ints .i64 a) .none,.isl (.ints .i64 b) .none] (.bp (decide (a=b))):=by
 refine av (md:=1) (rf:=[]) mixed ak aD Tryz.func36 (by rfl) (by rfl) (by rfl) ?_
 repeat'((conv=>whnf);first|intro _|apply aI|with_reducible exact vM rfl|exact⟨⟩|apply nM|apply fM)
 all_goals((try apply vM);(try simp only[vq]at*);try omega)
 ·rw[show decide (a=b)=false from by simp;rintro rfl;simp at*];all_goals(refine Sup.via ?_;repeat'((conv=>whnf);first|intro _|apply aI|with_reducible exact vM rfl|exact⟨⟩|apply nM|apply fM);all_goals((try apply vM);(try simp only[vq]at*);try omega);all_goals(try(simp[CL.sub];done)))
 have hl:a.length=b.length:=by omega
 conv=>whnf
 refine aL (X:=Nat) (fun i=>i≤a.length∧∀j,j<i→a.getD j 0=b.getD j 0) (fun i=>[(5,.int .i64 i)]) (fun i=>[]) (fun i=>a.length-i) 0 ⟨aJ,mixed,ak,aD,aP⟩ (by rfl) ⟨by omega,fun j h=>by omega⟩ ?_ ?_
 ·repeat'((conv=>whnf);first|intro _|apply aI|with_reducible exact vM rfl|exact⟨⟩|apply nM|apply fM)
  all_goals((try apply vM);(try simp only[vq]at*);try omega)
 ·rintro i ⟨hi,hok⟩
  by_cases hlt:i<a.length
  ·repeat'((conv=>whnf);first|intro _|apply aI|with_reducible exact vM rfl|exact⟨⟩|apply nM|apply fM)
   all_goals((try apply vM);(try simp only[vq]at*);try omega)
   ·rw[show decide (a=b)=false from by simp;rintro rfl;simp_all];all_goals(refine Sup.via ?_;repeat'((conv=>whnf);first|intro _|apply aI|with_reducible exact vM rfl|exact⟨⟩|apply nM|apply fM);all_goals((try apply vM);(try simp only[vq]at*);try omega);all_goals(try(simp[CL.sub];done)))
   ·refine⟨i+1,[],⟨⟨by omega,fun j hj=>?_⟩,by omega⟩,?_⟩
    ·by_cases e:j=i
     ·subst e;omega
     ·exact hok j (by omega)
    ·repeat'((conv=>whnf);first|intro _|apply aI|with_reducible exact vM rfl|exact⟨⟩|apply nM|apply fM)
     all_goals((try apply vM);(try simp only[vq]at*);try omega)
  ·have:i=a.length:=by omega
   subst this;rw[show decide (a=b)=true from by simp;exact Ae hl hok]
   repeat'((conv=>whnf);first|intro _|apply aI|with_reducible exact vM rfl|exact⟨⟩|apply nM|apply fM)
   all_goals((try apply vM);(try simp only[vq]at*);try omega)
   all_goals(refine Sup.via ?_;repeat'((conv=>whnf);first|intro _|apply aI|with_reducible exact vM rfl|exact⟨⟩|apply nM|apply fM);all_goals((try apply vM);(try simp only[vq]at*);try omega);all_goals(try(simp[CL.sub];done)))
def qG:PSp:=fun xs K=>match xs with
 | [.isl (.ints .i64 a) .none,.isl (.ints .i64 b) .none]=>VC (a.length≤2000000)∧K (.bp (decide (a=b)))
 |_=>False
theorem xI:POK Tryz.prog 36 qG:=by
 intro xs K h;unfold qG at h;split at h
 ·exact⟨_,h.2,DJ _ _ h.1.get⟩
 ·exact h.elim
theorem Ny (a b:List Int) (ha:a.length≤2000000):aF Tryz.prog 223 [.isl (.ints .i64 a) .none,.isl (.ints .i64 b) .none] (.bp (decide (a=b))):=by
 refine av (md:=1) (rf:=[]) mixed ak aD Tryz.func223 (by rfl) (by rfl) (by rfl) ?_
 repeat'((conv=>whnf);first|intro _|apply aI|with_reducible exact vM rfl|exact⟨⟩|apply nM|apply fM)
 all_goals((try apply vM);(try simp only[vq]at*);try omega)
 ·rw[show decide (a=b)=false from by simp;rintro rfl;simp at*];all_goals(refine Sup.via ?_;repeat'((conv=>whnf);first|intro _|apply aI|with_reducible exact vM rfl|exact⟨⟩|apply nM|apply fM);all_goals((try apply vM);(try simp only[vq]at*);try omega);all_goals(try(simp[CL.sub];done)))
 have hl:a.length=b.length:=by omega
 conv=>whnf
 refine aL (X:=Nat) (fun i=>i≤a.length∧∀j,j<i→a.getD j 0=b.getD j 0) (fun i=>[(13,.int .i64 i)]) (fun i=>[]) (fun i=>a.length-i) 0 ⟨aJ,mixed,ak,aD,aP⟩ (by rfl) ⟨by omega,fun j h=>by omega⟩ ?_ ?_
 ·repeat'((conv=>whnf);first|intro _|apply aI|with_reducible exact vM rfl|exact⟨⟩|apply nM|apply fM)
  all_goals((try apply vM);(try simp only[vq]at*);try omega)
 ·rintro i ⟨hi,hok⟩
  by_cases hlt:i<a.length
  ·repeat'((conv=>whnf);first|intro _|apply aI|with_reducible exact vM rfl|exact⟨⟩|apply nM|apply fM)
   all_goals((try apply vM);(try simp only[vq]at*);try omega)
   ·rw[show decide (a=b)=false from by simp;rintro rfl;simp_all];all_goals(refine Sup.via ?_;repeat'((conv=>whnf);first|intro _|apply aI|with_reducible exact vM rfl|exact⟨⟩|apply nM|apply fM);all_goals((try apply vM);(try simp only[vq]at*);try omega);all_goals(try(simp[CL.sub];done)))
   ·refine⟨i+1,[],⟨⟨by omega,fun j hj=>?_⟩,by omega⟩,?_⟩
    ·by_cases e:j=i
     ·subst e;omega
     ·exact hok j (by omega)
    ·repeat'((conv=>whnf);first|intro _|apply aI|with_reducible exact vM rfl|exact⟨⟩|apply nM|apply fM)
     all_goals((try apply vM);(try simp only[vq]at*);try omega)
  ·have:i=a.length:=by omega
   subst this;rw[show decide (a=b)=true from by simp;exact Ae hl hok]
   repeat'((conv=>whnf);first|intro _|apply aI|with_reducible exact vM rfl|exact⟨⟩|apply nM|apply fM)
   all_goals((try apply vM);(try simp only[vq]at*);try omega)
   all_goals(refine Sup.via ?_;repeat'((conv=>whnf);first|intro _|apply aI|with_reducible exact vM rfl|exact⟨⟩|apply nM|apply fM);all_goals((try apply vM);(try simp only[vq]at*);try omega);all_goals(try(simp[CL.sub];done)))
def Gb:PSp:=fun xs K=>match xs with
 | [.isl (.ints .i64 a) .none,.isl (.ints .i64 b) .none]=>VC (a.length≤2000000)∧K (.bp (decide (a=b)))
 |_=>False
theorem Tg:POK Tryz.prog 223 Gb:=by
 intro xs K h;unfold Gb at h;split at h
 ·exact⟨_,h.2,Ny _ _ h.1.get⟩
 ·exact h.elim
noncomputable def ad4:CPT:=aA 36 (aB qG) noC
theorem Kg:aZ Tryz.prog ad4:=aj (au xI) aD
theorem Gc (ls:List (List Int)) (l:List Int) (hl:ls.length≤1000000∧∀x∈ls,x.length≤5000):aF Tryz.prog 165 [.isl (.rows .i64 ls) .none,.isl (.ints .i64 l) .none] (.bp (ls.any fun x=>decide (x=l))):=by
 refine av (md:=1) (rf:=[]) mixed ak Kg Tryz.func165 (by rfl) (by rfl) (by rfl) ?_
 repeat'((conv=>whnf);first|intro _|apply aI|with_reducible exact vM rfl|exact⟨⟩|apply nM|apply fM)
 all_goals((try apply vM);(try simp only[vq]at*);try omega)
 conv=>whnf
 refine aL (X:=Nat) (fun i=>i≤ls.length∧∀j,j<i→ls.getD j []≠l) (fun i=>[(5,.int .i64 i)]) (fun i=>[]) (fun i=>ls.length-i) 0 ⟨aJ,mixed,ak,Kg,aP⟩ (by rfl) ⟨by omega,fun j h=>by omega⟩ ?_ ?_
 ·repeat'((conv=>whnf);first|intro _|apply aI|with_reducible exact vM rfl|exact⟨⟩|apply nM|apply fM)
  all_goals((try apply vM);(try simp only[vq]at*);try omega)
 ·rintro i ⟨hi,hok⟩
  by_cases hlt:i<ls.length
  ·have hm:=hl.2 _ (lI hlt)
   repeat'((conv=>whnf);first|intro _|apply aI|with_reducible exact vM rfl|exact⟨⟩|apply nM|apply fM)
   all_goals((try apply vM);(try simp only[vq]at*);try omega)
   ·rename_i hq
    rw[show(ls.any fun x=>decide (x=l))=true from ahC.2 ⟨_,lI hlt,decide_eq_true hq⟩];all_goals(refine Sup.via ?_;repeat'((conv=>whnf);first|intro _|apply aI|with_reducible exact vM rfl|exact⟨⟩|apply nM|apply fM);all_goals((try apply vM);(try simp only[vq]at*);try omega);all_goals(try(simp[CL.sub];done)))
   ·refine⟨i+1,[],⟨⟨by omega,fun j hj=>?_⟩,by omega⟩,?_⟩
    ·by_cases e:j=i
     ·subst e;assumption
     ·exact hok j (by omega)
    ·repeat'((conv=>whnf);first|intro _|apply aI|with_reducible exact vM rfl|exact⟨⟩|apply nM|apply fM)
     all_goals((try apply vM);(try simp only[vq]at*);try omega)
  ·have:i=ls.length:=by omega
   subst this;rw[show(ls.any fun x=>decide (x=l))=false from ahD.2 fun x hx=>by
    obtain⟨j,hj,rfl⟩:=afi hx;have:=hok j hj;rw[afe,afj hj]at this;simpa using this]
   repeat'((conv=>whnf);first|intro _|apply aI|with_reducible exact vM rfl|exact⟨⟩|apply nM|apply fM)
   all_goals((try apply vM);(try simp only[vq]at*);try omega)
   all_goals(refine Sup.via ?_;repeat'((conv=>whnf);first|intro _|apply aI|with_reducible exact vM rfl|exact⟨⟩|apply nM|apply fM);all_goals((try apply vM);(try simp only[vq]at*);try omega);all_goals(try(simp[CL.sub];done)))
def yH:PSp:=fun xs K=>match xs with
 | [.isl (.rows .i64 ls) .none,.isl (.ints .i64 l) .none]=>VC (ls.length≤1000000∧∀x∈ls,x.length≤5000)∧K (.bp (ls.any fun x=>decide (x=l)))
 |_=>False
theorem Nz:POK Tryz.prog 165 yH:=by
 intro xs K h;unfold yH at h;split at h
 ·exact⟨_,h.2,Gc _ _ h.1.get⟩
 ·exact h.elim
def cO (f:Nat→Int) (n:Nat):Int:=match(afc n).find? (fun i=>decide (f i≠0))with
 |some i=>f i
 |none=>0
theorem dU {f:Nat→Int} {n:Nat} (h:∀i,i<n→f i=0):cO f n=0:=by
 unfold cO;rw[vI (fun i hi=>by simpa using h i hi)]
theorem dV {f:Nat→Int} {n y:Nat} (hy:y<n) (hp:f y≠0) (h:∀i,i<y→f i=0):cO f n=f y:=by
 unfold cO;rw[CU hy (by simpa using hp) (fun i hi=>by simpa using h i hi)]
theorem gZ {f:Nat→Int} {n:Nat} (h:cO f n=0):∀i,i<n→f i=0:=by
 intro i hi;unfold cO at h;cases hf:(afc n).find? (fun i=>decide (f i≠0))with
 |some j=>
  rw[hf]at h;have:=ahB hf;simp only[decide_eq_true_eq]at this;exact absurd h this
 |none=>
  rw[ahz]at hf;simpa using hf i (by simpa using hi)
def bR (c:Int) (l:List Int) (k:Nat):Int:=if l.getD k 0<0∨c≤l.getD k 0 then 10 else if 0<k∧l.getD k 0≤l.getD (k-1) 0 then 11 else 0
def jh (c:Int) (ls:List (List Int)) (i:Nat):Int:=
 if(ls.getD i []).length=0 then 12 else if cO (bR c (ls.getD i [])) (ls.getD i []).length≠0 then cO (bR c (ls.getD i [])) (ls.getD i []).length
 else if(ls.take i).any (fun x=>decide (x=ls.getD i []))then 9 else 0
def iJ (c:Int) (ls:List (List Int)):Int:=if c<1∨256<c then 3 else if 128<ls.length then 5 else cO (jh c ls) ls.length
structure bN (ls:List (List Int)):Prop where
 len:ls.length≤1000000
 all:∀x∈ls,x.length≤5000
theorem bN.at' {ls:List (List Int)} (h:bN ls) (i:Nat):(ls.getD i []).length≤5000:=by
 by_cases hi:i<ls.length
 ·exact h.all _ (lI hi)
 ·rw[afe,agZ (by omega)];simp
theorem CW {ls:List (List Int)} (h:bN ls) (i:Nat):(ls.take i).length≤1000000∧∀x∈ls.take i,x.length≤5000:=
 ⟨by have:=h.len;rw[afR];omega,fun x hx=>h.all x (agV hx)⟩
noncomputable def ad5:CPT:=aA 165 (aB yH) noC
theorem rE:aZ Tryz.prog ad5:=aj (au Nz) aD
theorem Qo (c:Int) (ls:List (List Int)) (h:bN ls):aF Tryz.prog 120 [.agg [.int .i64 c,.isl (.rows .i64 ls) .none]] (.int .i64 (iJ c ls)):=by
 have h2:=h.len;unfold iJ;by_cases hc:c<1∨256<c
 ·rw[if_pos hc]
  refine av (md:=1) (rf:=[]) mixed ak rE Tryz.func120 (by rfl) (by rfl) (by rfl) ?_
  repeat'((conv=>whnf);first|(intro hq;(try simp only[vw]at hq);try first|exact absurd hq (by decide)|exfalso;omega)|apply aI|with_reducible exact vM rfl|exact⟨⟩|apply nM|apply fM)
  all_goals((try apply vM);(try simp only[vq]at*);try omega)
  all_goals first|exact Sup.of rfl|(exfalso;omega)
 rw[if_neg hc];by_cases hl:128<ls.length
 ·rw[if_pos hl]
  refine av (md:=1) (rf:=[]) mixed ak rE Tryz.func120 (by rfl) (by rfl) (by rfl) ?_
  repeat'((conv=>whnf);first|(intro hq;(try simp only[vw]at hq);try first|exact absurd hq (by decide)|exfalso;omega)|apply aI|with_reducible exact vM rfl|exact⟨⟩|apply nM|apply fM)
  all_goals((try apply vM);(try simp only[vq]at*);try omega)
  all_goals first|exact Sup.of rfl|(exfalso;omega)
 rw[if_neg hl];refine av (md:=1) (rf:=[]) mixed ak rE Tryz.func120 (by rfl) (by rfl) (by rfl) ?_
 repeat'((conv=>whnf);first|(intro hq;(try simp only[vw]at hq);try first|exact absurd hq (by decide)|exfalso;omega)|apply aI|with_reducible exact vM rfl|exact⟨⟩|apply nM|apply fM)
 all_goals((try apply vM);(try simp only[vq]at*);try omega)
 conv=>whnf
 refine aL (X:=Nat) (fun i=>i≤ls.length∧∀j,j<i→jh c ls j=0) (fun i=>[(3,.int .i64 i)]) (fun i=>[]) (fun i=>ls.length-i) 0 ⟨aJ,mixed,ak,rE,aP⟩ (by rfl) ⟨by omega,fun j hj=>by omega⟩ ?_ ?_
 ·repeat'((conv=>whnf);first|intro _|apply aI|with_reducible exact vM rfl|exact⟨⟩|apply nM|apply fM)
  all_goals((try apply vM);(try simp only[vq]at*);try omega)
 intro i ⟨hi,hok⟩;by_cases hlt:i<ls.length
 ·have e1:=h.at' i
  have e4:=CW h i;obtain⟨l,hL⟩:∃l,ls.getD i []=l:=⟨_,rfl⟩;have eE:jh c ls i=if l.length=0 then 12 else if cO (bR c l) l.length≠0 then cO (bR c l) l.length else if(ls.take i).any (fun x=>decide (x=l))then 9 else 0:=by unfold jh;rw[hL]
  rw[hL]at e1
  repeat'((conv=>whnf);first|(intro hq;(try simp only[vw]at hq);try first|exact absurd hq (by decide)|exfalso;omega)|apply aI|with_reducible exact vM rfl|exact⟨⟩|apply nM|apply fM)
  all_goals((try apply vM);(try simp only[vq]at*);try omega)
  ·rename_i hq
   rw[hL]at hq;rw[if_pos (by omega)]at eE
   rw[dV hlt (by rw[eE];decide) hok,eE]
   exact Sup.of rfl
  rename_i hq;rw[hL]at hq⊢;rw[if_neg (by omega)]at eE
  conv=>whnf
  refine aL (X:=Nat) (fun k=>k≤l.length∧∀j,j<k→bR c l j=0) (fun k=>[(5,.int .i64 k)]) (fun k=>[]) (fun k=>l.length-k) 0 ⟨aJ,mixed,ak,rE,aP⟩ (by rfl) ⟨by omega,fun j hj=>by omega⟩ ?_ ?_
  ·repeat'((conv=>whnf);first|intro _|apply aI|with_reducible exact vM rfl|exact⟨⟩|apply nM|apply fM)
   all_goals((try apply vM);(try simp only[vq]at*);try omega)
   all_goals first|exact hL|exact hL.symm|skip
  intro k ⟨hk,hok2⟩;by_cases hkl:k<l.length
  ·have eS:bR c l k=if l.getD k 0<0∨c≤l.getD k 0 then 10 else if 0<k∧l.getD k 0≤l.getD (k-1) 0 then 11 else 0:=rfl
   have ek:((k:Int)-1).toNat=k-1:=by omega
   have fin:∀e,bR c l k=e→e≠0→cO (jh c ls) ls.length=e:=fun e a1 a2=>by
    have a3:cO (bR c l) l.length=e:=(dV hkl (by rw[a1];exact a2) hok2).trans a1
    have a4:jh c ls i=e:=by rw[eE,if_pos (by rw[a3];exact a2),a3]
    exact(dV hlt (by rw[a4];exact a2) hok).trans a4
   have nxt:bR c l k=0→∀j,j<k+1→bR c l j=0:=fun a j hj=>by
    by_cases e:j=k
    ·subst e;exact a
    ·exact hok2 j (by omega)
   repeat'((conv=>whnf);first|(intro hq;(try simp only[vw]at hq);try first|exact absurd hq (by decide)|exfalso;omega)|apply aI|with_reducible exact vM rfl|exact⟨⟩|apply nM|apply fM)
   all_goals((try apply vM);(try simp only[vq]at*);try omega)
   ·rw[fin 10 (by rw[eS,if_pos (by omega)]) (by decide)];exact Sup.of rfl
   ·rename_i hq
    rw[ek]at hq;rw[fin 11 (by rw[eS,if_neg (by omega),if_pos (by omega)]) (by decide)];exact Sup.of rfl
   ·rename_i hq
    rw[ek]at hq;refine⟨k+1,[],⟨⟨by omega,nxt (by rw[eS,if_neg (by omega),if_neg (by omega)])⟩,by omega⟩,?_⟩
    repeat'((conv=>whnf);first|(intro hq;(try simp only[vw]at hq);try first|exact absurd hq (by decide)|exfalso;omega)|apply aI|with_reducible exact vM rfl|exact⟨⟩|apply nM|apply fM)
   ·refine⟨k+1,[],⟨⟨by omega,nxt (by rw[eS,if_neg (by omega),if_neg (by omega)])⟩,by omega⟩,?_⟩
    repeat'((conv=>whnf);first|(intro hq;(try simp only[vw]at hq);try first|exact absurd hq (by decide)|exfalso;omega)|apply aI|with_reducible exact vM rfl|exact⟨⟩|apply nM|apply fM)
   ·rw[fin 10 (by rw[eS,if_pos (by omega)]) (by decide)];exact Sup.of rfl
  ·have a3:cO (bR c l) l.length=0:=dU (n:=l.length) (by rw[show l.length=k by omega];exact hok2)
   rw[if_neg (by rw[a3];simp)]at eE
   have et:ahH (i-0) (ahI 0 ls)=ls.take i:=by rw[ahJ,ahK]
   repeat'((conv=>whnf);first|(intro hq;(try simp only[vw]at hq);try first|exact absurd hq (by decide)|exfalso;omega)|apply aI|with_reducible exact vM rfl|exact⟨⟩|apply nM|apply fM)
   all_goals((try apply vM);(try simp only[vq]at*);try omega)
   ·rw[et];exact e4
   ·rename_i hq
    rw[et]at hq;rw[if_pos hq]at eE;rw[dV hlt (by rw[eE];decide) hok,eE]
    exact Sup.of rfl
   ·rename_i hq
    rw[et]at hq;rw[if_neg (by rw[hq];decide)]at eE
    refine⟨i+1,[],⟨⟨by omega,fun j hj=>?_⟩,by omega⟩,?_⟩
    ·by_cases e:j=i
     ·subst e;exact eE
     ·exact hok j (by omega)
    repeat'((conv=>whnf);first|(intro hq;(try simp only[vw]at hq);try first|exact absurd hq (by decide)|exfalso;omega)|apply aI|with_reducible exact vM rfl|exact⟨⟩|apply nM|apply fM)
 ·rw[dU (n:=ls.length) (by rw[show ls.length=i by omega];exact hok)]
  repeat'((conv=>whnf);first|(intro hq;(try simp only[vw]at hq);try first|exact absurd hq (by decide)|exfalso;omega)|apply aI|with_reducible exact vM rfl|exact⟨⟩|apply nM|apply fM)
  exact Sup.of rfl
def Es:PSp:=fun xs K=>match xs with
 | [.agg [.int .i64 c,.isl (.rows .i64 ls) .none]]=>VC (bN ls)∧K (.int .i64 (iJ c ls))
 |_=>False
theorem Kh:POK Tryz.prog 120 Es:=by
 intro xs K h;unfold Es at h;split at h
 ·exact⟨_,h.2,Qo _ _ h.1.get⟩
 ·exact h.elim
def NA:PSp:=fun xs K=>match xs with
 | [.isl (.rows .i64 l) .none,.fn (.func f) fs cs]=>VC (l.length≤2000000)∧∃p:List Int→Bool,(∀x∈l,aF Tryz.prog f (fs++[.isl (.ints .i64 x) .none]++cs) (.bp (p x)))∧K (.int .i64 (firstAt (fun i=>p (l.getD i [])) l.length))
 |_=>False
theorem Qp (l:List (List Int)) (hl:l.length≤2000000) (f:Nat) (fs cs:List PV) (p:List Int→Bool) (hp:∀x∈l,aF Tryz.prog f (fs++[.isl (.ints .i64 x) .none]++cs) (.bp (p x))):
 aF Tryz.prog 185 [.isl (.rows .i64 l) .none,.fn (.func f) fs cs] (.int .i64 (firstAt (fun i=>p (l.getD i [])) l.length)):=by
 refine zP 1 (enters' Tryz.func185 (by rfl) (by rfl)) rfl (by simp) fun S0 w0 us vs hu hv=>?_
 have hY:∀r,kI Tryz.prog r (wJ S0 w0) (fnY f us vs fun xs K=>match xs with
  | [.isl (.ints .i64 x) .none]=>VC (x∈l)∧K (.bp (p x))
  |_=>False):=fun r=>Pv (fs:=fs) (cs:=cs) (fun S w hb=>⟨hu.mono hb.1 (.refl _),hv.mono hb.1 (.refl _)⟩) fun xs K hk=>by
  split at hk
  ·exact⟨_,hk.2,hp _ hk.1.get⟩
  ·exact hk.elim
 have W:Walk Tryz.prog none (wJ S0 w0) tab.get noC _:=⟨sV,mixed,ak,aD.up _,hY none⟩;refine uS sV mixed ak (md:=1) (rf:=[]) (aD.up _) (hY none) Tryz.func185 (by rfl) (by rfl) ?_
 repeat'((conv=>whnf);first|intro _|apply aI|with_reducible exact vM rfl|exact⟨⟩|apply nM|apply fM)
 all_goals((try apply vM);(try simp only[vq]at*);try omega)
 conv=>whnf
 refine aL (X:=Nat) (fun i=>i≤l.length∧∀j,j<i→p (l.getD j [])=false) (fun i=>[(8,.int .i64 i)]) (fun i=>[]) (fun i=>l.length-i) 0 W (by rfl) ⟨by omega,fun j hj=>by omega⟩ ?_ ?_
 ·repeat'((conv=>whnf);first|intro _|apply aI|with_reducible exact vM rfl|exact⟨⟩|apply nM|apply fM)
  all_goals((try apply vM);(try simp only[vq]at*);try omega)
 ·rintro i ⟨hi,hok⟩
  by_cases hlt:i<l.length
  ·have hm:l.getD i []∈l:=lI hlt
   repeat'((conv=>whnf);first|intro _|apply aI|with_reducible exact vM rfl|exact⟨⟩|apply nM|apply fM)
   all_goals((try apply vM);(try simp only[vq]at*);try omega)
   ·rw[jO hlt ‹p (l.getD i [])=true› hok];exact Sup.of rfl
   ·refine⟨i+1,[],⟨⟨by omega,fun j hj=>?_⟩,by omega⟩,?_⟩
    ·by_cases e:j=i
     ·subst e;assumption
     ·exact hok j (by omega)
    ·repeat'((conv=>whnf);first|intro _|apply aI|with_reducible exact vM rfl|exact⟨⟩|apply nM|apply fM)
     all_goals((try apply vM);(try simp only[vq]at*);try omega)
  ·have:i=l.length:=by omega
   subst this;rw[jN hok]
   repeat'((conv=>whnf);first|intro _|apply aI|with_reducible exact vM rfl|exact⟨⟩|apply nM|apply fM)
   all_goals((try apply vM);(try simp only[vq]at*);try omega)
   exact Sup.of rfl
theorem Y8:POK Tryz.prog 185 NA:=by
 intro xs K h;unfold NA at h;split at h
 ·obtain⟨⟨h1⟩,p,h2,hK⟩:=h
  exact⟨_,hK,Qp _ h1 _ _ _ p h2⟩
 ·exact h.elim
def NC:PSp:=fun xs K=>match xs with
 | [.isl (.rows .i64 l) .none,.fn (.func f) fs cs]=>VC (l.length≤2000000∧eY.inlF fs=true∧eY.inlF cs=true)∧∃p:List Int→Bool,(∀x∈l,aF Tryz.prog f (fs++[.isl (.ints .i64 x) .none]++cs) (.bp (p x)))∧K (.bp (l.any p))
 |_=>False
theorem Qq (l:List (List Int)) (hl:l.length≤2000000) (f:Nat) (fs cs:List PV) (hfs:eY.inlF fs=true) (hcs:eY.inlF cs=true) (p:List Int→Bool) (hp:∀x∈l,aF Tryz.prog f (fs++[.isl (.ints .i64 x) .none]++cs) (.bp (p x))):
 aF Tryz.prog 140 [.isl (.rows .i64 l) .none,.fn (.func f) fs cs] (.bp (l.any p)):=by
 have hc:aZ Tryz.prog (aA 185 (aB NA) noC):=aj (au Y8) aD;refine av (md:=1) (rf:=[]) mixed ak hc Tryz.func140 (by rfl) (by rfl) (by rfl) ?_
 repeat'((conv=>whnf);first|intro _|apply aI|with_reducible exact vM rfl|exact⟨⟩|apply nM|apply fM)
 conv=>whnf
 simp only[aB,qx,jl,sG,eY,hfs,hcs]
 repeat'((conv=>whnf);first|intro _|apply aI|with_reducible exact vM rfl|exact⟨⟩|apply nM|apply fM)
 all_goals((try apply vM);(try simp only[vq]at*);try omega)
 refine⟨p,hp,?_⟩
 repeat'((conv=>whnf);first|intro _|apply aI|with_reducible exact vM rfl|exact⟨⟩|apply nM|apply fM)
 all_goals((try apply vM);(try simp only[vq]at*);try omega)
 refine Sup.via ?_
 repeat'((conv=>whnf);first|intro _|apply aI|with_reducible exact vM rfl|exact⟨⟩|apply nM|apply fM)
 refine VC.mk ?_;rw[gD,nK]
theorem Y9:POK Tryz.prog 140 NC:=by
 intro xs K h;unfold NC at h;split at h
 ·obtain⟨⟨h1,h3,h4⟩,p,h2,hK⟩:=h
  exact⟨_,hK,Qq _ h1 _ _ _ h3 h4 p h2⟩
 ·exact h.elim
noncomputable def adk:CPT:=aA 223 (aB Gb) noC
theorem Ti:aZ Tryz.prog adk:=aj (au Tg) aD
theorem Qr (l x:List Int) (hx:x.length≤2000000):aF Tryz.prog 222 ([]++[.isl (.ints .i64 x) .none]++[.ip (.pv [.isl (.ints .i64 l) .none]) 0]) (.bp (decide (x=l))):=by
 refine av (md:=1) (rf:=[]) mixed ak Ti Tryz.func222 (by rfl) (by rfl) (by rfl) ?_
 repeat'((conv=>whnf);first|intro _|apply aI|with_reducible exact vM rfl|exact⟨⟩|apply nM|apply fM)
 all_goals((try apply vM);(try simp only[vq]at*);try omega)
 exact Sup.of rfl
noncomputable def adl:CPT:=aA 193 (aB oO) (aA 195 (aB gW) (aA 140 (zR NC) noC))
theorem Gd:aZ Tryz.prog adl:=aj (au qF) (aj (au pU) (aj (CB Y9) aD))
theorem Gf (c:Int) (ls:List (List Int)) (i:Nat) (h:bN ls) (hlt:i<ls.length):aF Tryz.prog 196 [.agg [.int .i64 c,.isl (.rows .i64 ls) .none],.int .i64 (i:Int)] (.int .i64 (jh c ls i)):=by
 have h2:=h.len;have e1:=h.at' i;have e4:=CW h i;obtain⟨l,hL⟩:∃l,ls.getD i []=l:=⟨_,rfl⟩;have eE:jh c ls i=if l.length=0 then 12 else if cO (bR c l) l.length≠0 then cO (bR c l) l.length else if(ls.take i).any (fun x=>decide (x=l))then 9 else 0:=by unfold jh;rw[hL]
 rw[hL]at e1;refine av (md:=1) (rf:=[]) mixed ak Gd Tryz.func196 (by rfl) (by rfl) (by rfl) ?_
 repeat'((conv=>whnf);first|intro _|apply aI|with_reducible exact vM rfl|exact⟨⟩|apply nM|apply fM)
 all_goals((try apply vM);(try simp only[vq]at*);try omega)
 ·rw[hL]at*
  rw[eE,if_pos (by omega)];exact Sup.of rfl
 rename_i h0;rw[hL]at h0⊢;rw[if_neg (by omega)]at eE
 conv=>whnf
 refine aL (X:=Nat) (fun k=>k≤l.length∧∀j,j<k→bR c l j=0) (fun k=>[(19,.int .i64 k)]) (fun k=>[]) (fun k=>l.length-k) 0 ⟨aJ,mixed,ak,Gd,aP⟩ (by rfl) ⟨by omega,fun j hj=>by omega⟩ ?_ ?_
 ·repeat'((conv=>whnf);first|intro _|apply aI|with_reducible exact vM rfl|exact⟨⟩|apply nM|apply fM)
  all_goals((try apply vM);(try simp only[vq]at*);try omega)
  all_goals first|exact hL|exact hL.symm|skip
 intro k ⟨hk,hok2⟩;by_cases hkl:k<l.length
 ·have eS:bR c l k=if l.getD k 0<0∨c≤l.getD k 0 then 10 else if 0<k∧l.getD k 0≤l.getD (k-1) 0 then 11 else 0:=rfl
  have ek:((k:Int)-1).toNat=k-1:=by omega
  have fin:∀e,bR c l k=e→e≠0→jh c ls i=e:=fun e a1 a2=>by
   have a3:cO (bR c l) l.length=e:=(dV hkl (by rw[a1];exact a2) hok2).trans a1
   rw[eE,if_pos (by rw[a3];exact a2),a3]
  have nxt:bR c l k=0→∀j,j<k+1→bR c l j=0:=fun a j hj=>by
   by_cases e:j=k
   ·subst e;exact a
   ·exact hok2 j (by omega)
  repeat'((conv=>whnf);first|intro _|apply aI|with_reducible exact vM rfl|exact⟨⟩|apply nM|apply fM)
  all_goals((try apply vM);(try simp only[vq]at*);try omega)
  ·rename_i hq
   refine Sup.of (congrArg (PV.int .i64) (fin _ ?_ hq).symm)
   (rw[eS];simp only[aK,ek,if_true,if_false,ite_true,ite_false];(repeat' split)<;>(first|rfl|omega))
  ·rename_i hq
   refine⟨k+1,[],⟨⟨by omega,nxt (Eq.trans ?_ (afV.1 hq))⟩,by omega⟩,?_⟩
   ·(rw[eS];simp only[aK,ek,if_true,if_false,ite_true,ite_false];(repeat' split)<;>(first|rfl|omega))
   repeat'((conv=>whnf);first|intro _|apply aI|with_reducible exact vM rfl|exact⟨⟩|apply nM|apply fM)
  ·rename_i hq
   refine Sup.of (congrArg (PV.int .i64) (fin _ ?_ hq).symm)
   (rw[eS];simp only[aK,ek,if_true,if_false,ite_true,ite_false];(repeat' split)<;>(first|rfl|omega))
  ·rename_i hq
   refine⟨k+1,[],⟨⟨by omega,nxt (Eq.trans ?_ (afV.1 hq))⟩,by omega⟩,?_⟩
   ·(rw[eS];simp only[aK,ek,if_true,if_false,ite_true,ite_false];(repeat' split)<;>(first|rfl|omega))
   repeat'((conv=>whnf);first|intro _|apply aI|with_reducible exact vM rfl|exact⟨⟩|apply nM|apply fM)
  ·rename_i hq
   refine Sup.of (congrArg (PV.int .i64) (fin _ ?_ hq).symm)
   (rw[eS];simp only[aK,ek,if_true,if_false,ite_true,ite_false];(repeat' split)<;>(first|rfl|omega))
  ·rename_i hq
   refine⟨k+1,[],⟨⟨by omega,nxt (Eq.trans ?_ (afV.1 hq))⟩,by omega⟩,?_⟩
   ·(rw[eS];simp only[aK,ek,if_true,if_false,ite_true,ite_false];(repeat' split)<;>(first|rfl|omega))
   repeat'((conv=>whnf);first|intro _|apply aI|with_reducible exact vM rfl|exact⟨⟩|apply nM|apply fM)
  ·rename_i hq
   refine Sup.of (congrArg (PV.int .i64) (fin _ ?_ hq).symm)
   (rw[eS];simp only[aK,ek,if_true,if_false,ite_true,ite_false];(repeat' split)<;>(first|rfl|omega))
  ·rename_i hq
   refine⟨k+1,[],⟨⟨by omega,nxt (Eq.trans ?_ (afV.1 hq))⟩,by omega⟩,?_⟩
   ·(rw[eS];simp only[aK,ek,if_true,if_false,ite_true,ite_false];(repeat' split)<;>(first|rfl|omega))
   repeat'((conv=>whnf);first|intro _|apply aI|with_reducible exact vM rfl|exact⟨⟩|apply nM|apply fM)
 ·have a3:cO (bR c l) l.length=0:=dU (n:=l.length) (by rw[show l.length=k by omega];exact hok2)
  rw[if_neg (by rw[a3];simp)]at eE
  have et:ahH (i-0) (ahI 0 ls)=ls.take i:=by rw[ahJ,ahK]
  repeat'((conv=>whnf);first|intro _|apply aI|with_reducible exact vM rfl|exact⟨⟩|apply nM|apply fM)
  all_goals((try apply vM);(try simp only[vq]at*);try omega)
  ·rw[et];exact⟨by omega,rfl,rfl⟩
  rw[et];refine⟨fun x=>decide (x=l),fun x hx=>Qr l x (by have:=e4.2 x hx;omega),?_⟩
  rw[eE]
  repeat'((conv=>whnf);first|intro _|apply aI|with_reducible exact vM rfl|exact⟨⟩|apply nM|apply fM)
  all_goals((try apply vM);(try simp only[vq]at*);try omega)
  exact Sup.of rfl
theorem DK {c:Int} {ls:List (List Int)} {i:Int} (h:bN ls) (h0:0≤i) (hlt:i<ls.length):aF Tryz.prog 196 [.agg [.int .i64 c,.isl (.rows .i64 ls) .none],.int .i64 i] (.int .i64 (jh c ls i.toNat)):=by
 have:=Gf c ls i.toNat h (by omega)
 rwa [Int.toNat_of_nonneg h0]at this
def yI:PSp:=fun xs K=>match xs with
 | [.agg [.int .i64 c,.isl (.rows .i64 ls) .none],.int .i64 i]=>VC (bN ls∧0≤i∧i<ls.length)∧K (.int .i64 (jh c ls i.toNat))
 |_=>False
theorem ND:POK Tryz.prog 196 yI:=by
 intro xs K h;unfold yI at h;split at h
 ·exact⟨_,h.2,DK h.1.get.1 h.1.get.2.1 h.1.get.2.2⟩
 ·exact h.elim
noncomputable def ad6:CPT:=aA 193 (aB oO) (aA 195 (aB gW) (aA 194 (aB Er) (aA 196 (aB yI) noC)))
theorem Ki:aZ Tryz.prog ad6:=aj (au qF) (aj (au pU) (aj (au Ke) (aj (au ND) aD)))
theorem Tj (c:Int) (ls:List (List Int)) (h:bN ls):aF Tryz.prog 153 [.agg [.int .i64 c,.isl (.rows .i64 ls) .none]] (.int .i64 (iJ c ls)):=by
 have h2:=h.len;have hf:aK [if [c].any (jQ 1 256)then 3 else 0,if 128<(ls.length:Int)then 5 else 0]=if c<1∨256<c then 3 else if 128<ls.length then 5 else 0:=by
  simp only[aK,List.any_cons,List.any_nil,Bool.or_false,jQ,Bool.or_eq_true,decide_eq_true_eq]
  (repeat' split)<;>(first|rfl|omega)
 unfold iJ;refine av (md:=1) (rf:=[]) mixed ak Ki Tryz.func153 (by rfl) (by rfl) (by rfl) ?_
 repeat'((conv=>whnf);first|intro _|apply aI|with_reducible exact vM rfl|exact⟨⟩|apply nM|apply fM)
 all_goals((try apply vM);(try simp only[vq]at*);try omega)
 ·rename_i hq
  rw[hf]at hq⊢;by_cases hc:c<1∨256<c
  ·rw[if_pos hc,if_pos hc];exact Sup.of rfl
  rw[if_neg hc]at hq⊢;by_cases hl:128<ls.length
  ·rw[if_neg hc,if_pos hl,if_pos hl];exact Sup.of rfl
  ·rw[if_neg hl]at hq;exact absurd rfl hq
 rename_i hq;have hq:=afV.1 hq;rw[hf]at hq;have hc:¬(c<1∨256<c):=fun hc=>by rw[if_pos hc]at hq;cases hq
 rw[if_neg hc]at hq⊢;have hl:¬128<ls.length:=fun hl=>by rw[if_pos hl]at hq;cases hq
 rw[if_neg hl];conv=>whnf
 refine aL (X:=Nat) (fun i=>i≤ls.length∧∀j,j<i→jh c ls j=0) (fun i=>[(23,.int .i64 i)]) (fun i=>[]) (fun i=>ls.length-i) 0 ⟨aJ,mixed,ak,Ki,aP⟩ (by rfl) ⟨by omega,fun j hj=>by omega⟩ ?_ ?_
 ·repeat'((conv=>whnf);first|intro _|apply aI|with_reducible exact vM rfl|exact⟨⟩|apply nM|apply fM)
  all_goals((try apply vM);(try simp only[vq]at*);try omega)
 intro i ⟨hi,hok⟩;by_cases hlt:i<ls.length
 ·repeat'((conv=>whnf);first|intro _|apply aI|with_reducible exact vM rfl|exact⟨⟩|apply nM|apply fM)
  all_goals((try apply vM);(try simp only[vq]at*);try omega)
  ·exact⟨h,by omega,by omega⟩
  ·rename_i hq
   rw[dV hlt hq hok];exact Sup.of rfl
  ·rename_i hq
   refine⟨i+1,[],⟨⟨by omega,fun j hj=>?_⟩,by omega⟩,?_⟩
   ·by_cases e:j=i
    ·subst e;exact afV.1 hq
    ·exact hok j (by omega)
   repeat'((conv=>whnf);first|intro _|apply aI|with_reducible exact vM rfl|exact⟨⟩|apply nM|apply fM)
   all_goals((try apply vM);(try simp only[vq]at*);try omega)
 ·rw[dU (n:=ls.length) (by rw[show ls.length=i by omega];exact hok)]
  repeat'((conv=>whnf);first|intro _|apply aI|with_reducible exact vM rfl|exact⟨⟩|apply nM|apply fM)
  all_goals((try apply vM);(try simp only[vq]at*);try omega)
  exact Sup.of rfl
def NG:PSp:=fun xs K=>match xs with
 | [.agg [.int .i64 c,.isl (.rows .i64 ls) .none]]=>VC (bN ls)∧K (.int .i64 (iJ c ls))
 |_=>False
theorem Qs:POK Tryz.prog 153 NG:=by
 intro xs K h;unfold NG at h;split at h
 ·exact⟨_,h.2,Tj _ _ h.1.get⟩
 ·exact h.elim
def tL (c:Int) (ls:List (List Int)) (f:List Int):Int:=aK [iJ c ls,if(f.length:Int)≠c then 2 else 0,oG f]
noncomputable def ad7:CPT:=aA 193 (aB oO) (aA 195 (aB gW) (aA 153 (aB NG) (aA 203 (aB tK) noC)))
theorem Za:aZ Tryz.prog ad7:=aj (au qF) (aj (au pU) (aj (au Qs) (aj (au Ad) aD)))
theorem NH (c:Int) (ls:List (List Int)) (f:List Int) (h:bN ls) (hf:f.length≤2000000):aF Tryz.prog 168 [.agg [.int .i64 c,.isl (.rows .i64 ls) .none],.isl (.ints .i64 f) .none] (.int .i64 (tL c ls f)):=by
 unfold tL;refine av (md:=1) (rf:=[]) mixed ak Za Tryz.func168 (by rfl) (by rfl) (by rfl) ?_
 repeat'((conv=>whnf);first|intro _|apply aI|with_reducible exact vM rfl|exact⟨⟩|apply nM|apply fM)
 all_goals((try apply vM);(try simp only[vq]at*);try omega)
 all_goals first|exact h|exact Sup.of rfl
def Gg:PSp:=fun xs K=>match xs with
 | [.agg [.int .i64 c,.isl (.rows .i64 ls) .none],.isl (.ints .i64 f) .none]=>VC (bN ls∧f.length≤2000000)∧K (.int .i64 (tL c ls f))
 |_=>False
theorem Tk:POK Tryz.prog 168 Gg:=by
 intro xs K h;unfold Gg at h;split at h
 ·exact⟨_,h.2,NH _ _ _ h.1.get.1 h.1.get.2⟩
 ·exact h.elim
noncomputable def ad8:CPT:=aA 168 (aB Gg) (aA 169 (aB yG) noC)
theorem Zb:aZ Tryz.prog ad8:=aj (au Tk) (aj (au Nw) aD)
theorem DL (c:Int) (ls:List (List Int)) (f:List Int) (h:bN ls) (hf:f.length≤2000000) (he:tL c ls f=0) (hs:rD f ls):aF Tryz.prog 122 [.agg [.int .i64 c,.isl (.rows .i64 ls) .none],.isl (.ints .i64 f) .none] (.tup [.bp (decide (kC (gL f ls ls.length)<0)),.int .i64 0]):=by
 refine av (md:=1) (rf:=[]) mixed ak Zb Tryz.func122 (by rfl) (by rfl) (by rfl) ?_
 repeat'((conv=>whnf);first|intro _|apply aI|with_reducible exact vM rfl|exact⟨⟩|apply nM|apply fM)
 all_goals((try apply vM);(try simp only[vq]at*);try omega)
 all_goals first|exact⟨h,by omega⟩|exact hs|exact Sup.of rfl|skip
theorem NI (h:Bool) (e:Int):aF Tryz.prog 89 [.bp h,.int .i64 e] (.int .i64 (if h then e else 0)):=by
 refine av (md:=0) (rf:=[]) mixed ak aD Tryz.func89 (by rfl) (by rfl) (by rfl) ?_
 repeat'((conv=>whnf);first|intro _|apply aI|with_reducible exact vM rfl|exact⟨⟩|apply nM|apply fM)
 all_goals all_goals(first|(refine Sup.of ?_;first|rfl|(simp[*,bG];done))|(refine Sup.via ?_;repeat'((conv=>whnf);first|intro _|apply aI|with_reducible exact vM rfl|exact⟨⟩|apply nM|apply fM);all_goals((try apply vM);(try simp only[vq]at*);try omega);all_goals(try(simp[CL.sub];done))))
theorem Jk (h:Bool) (e:Int):aF Tryz.prog 89 [.bool h,.int .i64 e] (.int .i64 (if h then e else 0)):=by
 cases h
 all_goals
  refine av (md:=0) (rf:=[]) mixed ak aD Tryz.func89 (by rfl) (by rfl) (by rfl) ?_
  repeat'((conv=>whnf);first|intro _|apply aI|with_reducible exact vM rfl|exact⟨⟩|apply nM|apply fM)
  all_goals all_goals(first|(refine Sup.of ?_;first|rfl|(simp[*,bG];done))|(refine Sup.via ?_;repeat'((conv=>whnf);first|intro _|apply aI|with_reducible exact vM rfl|exact⟨⟩|apply nM|apply fM);all_goals((try apply vM);(try simp only[vq]at*);try omega);all_goals(try(simp[CL.sub];done))))
theorem jR:POK Tryz.prog 89 gW:=by
 intro xs K h;unfold gW at h;split at h
 ·exact⟨_,h,NI _ _⟩
 ·exact⟨_,h,Jk _ _⟩
 ·exact h.elim
theorem Jl (l:List Int) (hl:l.length<1000000):aF Tryz.prog 88 [.isl (.ints .i64 l) .none] (.int .i64 (aK l)):=by
 refine av (md:=1) (rf:=[]) mixed ak aD Tryz.func88 (by rfl) (by rfl) (by rfl) ?_
 repeat'((conv=>whnf);first|intro _|apply aI|with_reducible exact vM rfl|exact⟨⟩|apply nM|apply fM)
 all_goals((try apply vM);(try simp only[vq]at*);try omega)
 conv=>whnf
 refine aL (X:=Nat) (fun i=>i≤l.length∧∀j,j<i→l.getD j 0=0) (fun i=>[(7,.int .i64 i)]) (fun _=>[]) (fun i=>l.length-i) 0 ⟨aJ,mixed,ak,aD,aP⟩ (by rfl) ⟨by omega,fun j hj=>by omega⟩ ?_ ?_
 ·repeat'((conv=>whnf);first|intro _|apply aI|with_reducible exact vM rfl|exact⟨⟩|apply nM|apply fM)
  all_goals((try apply vM);(try simp only[vq]at*);try omega)
 ·intro i hi
  obtain⟨hi,hz⟩:=hi
  repeat'((conv=>whnf);first|intro _|apply aI|with_reducible exact vM rfl|exact⟨⟩|apply nM|apply fM)
  all_goals((try apply vM);(try simp only[vq]at*);try omega)
  ·rename_i hne
   have:=ku l i (by omega) hz (by simpa using hne)
   rw[this];exact Sup.of rfl
  ·rename_i hne
   have hne:l.getD i 0=0:=by simpa using hne
   refine⟨i+1,[],⟨⟨by omega,fun j hj=>?_⟩,by omega⟩,?_⟩
   ·by_cases e:j=i
    ·subst e;exact hne
    ·exact hz j (by omega)
   ·repeat'((conv=>whnf);first|intro _|apply aI|with_reducible exact vM rfl|exact⟨⟩|apply nM|apply fM)
    all_goals((try apply vM);(try simp only[vq]at*);try omega)
  ·have:i=l.length:=by omega
   subst this;rw[vE l hz];exact Sup.of rfl
def jv:PSp:=fun xs K=>match xs with
 | [.isl (.ints .i64 l) .none]=>VC (l.length<1000000)∧K (.int .i64 (aK l))
 |_=>False
theorem iV:POK Tryz.prog 88 jv:=by
 intro xs K h;unfold jv at h;split at h
 ·exact⟨_,h.2,Jl _ h.1.get⟩
 ·exact h.elim
theorem bO (l:List Int) (b:Int):b∈l↔∃i,i<l.length∧l.getD i 0=b:=by
 rw[agX];constructor
 ·rintro⟨i,hi,e⟩;exact⟨i,hi,by rw[afe,afj hi];exact e⟩
 ·rintro⟨i,hi,e⟩;exact⟨i,hi,by rw[afe,afj hi]at e;exact e⟩
theorem nU (l:List Int) (b:Int) (i:Nat) (hi:i<l.length):b∈l.take (i+1)↔b∈l.take i∨b=l.getD i 0:=by
 have e:l.take (i+1)=l.take i++[l.getD i 0]:=by rw[ag5,afe,afj hi];rfl
 rw[e,aff,ahL]
theorem Qt (l:List Int) (hl:l.length≤2000000) (b:Int):aF Tryz.prog 154 [.isl (.ints .i64 l) .none,.int .i64 b] (.int .i64 (firstAt (fun i=>decide (b=l.getD i 0)) l.length)):=by
 refine av (md:=1) (rf:=[]) mixed ak aD Tryz.func154 (by rfl) (by rfl) (by rfl) ?_
 repeat'((conv=>whnf);first|intro _|apply aI|with_reducible exact vM rfl|exact⟨⟩|apply nM|apply fM)
 all_goals((try apply vM);(try simp only[vq]at*);try omega)
 conv=>whnf
 refine aL (X:=Nat) (fun i=>i≤l.length∧∀j,j<i→decide (b=l.getD j 0)=false) (fun i=>[(8,.int .i64 i)]) (fun i=>[]) (fun i=>l.length-i) 0 ⟨aJ,mixed,ak,aD,aP⟩ (by rfl) ⟨by omega,fun j hj=>by omega⟩ ?_ ?_
 ·repeat'((conv=>whnf);first|intro _|apply aI|with_reducible exact vM rfl|exact⟨⟩|apply nM|apply fM)
  all_goals((try apply vM);(try simp only[vq]at*);try omega)
 ·rintro i ⟨hi,hok⟩
  by_cases hlt:i<l.length
  ·repeat'((conv=>whnf);first|intro _|apply aI|with_reducible exact vM rfl|exact⟨⟩|apply nM|apply fM)
   all_goals((try apply vM);(try simp only[vq]at*);try omega)
   ·rename_i hq
    rw[jO (p:=fun i=>decide (b=l.getD i 0)) hlt (decide_eq_true hq) (fun j hj=>decide_eq_false (hok j hj))];exact Sup.of rfl
   ·refine⟨i+1,[],⟨⟨by omega,fun j hj=>?_⟩,by omega⟩,?_⟩
    ·by_cases e:j=i
     ·subst e;first|assumption|(apply decide_eq_false;assumption)
     ·first|exact hok j (by omega)|exact decide_eq_false (hok j (by omega))
    ·repeat'((conv=>whnf);first|intro _|apply aI|with_reducible exact vM rfl|exact⟨⟩|apply nM|apply fM)
     all_goals((try apply vM);(try simp only[vq]at*);try omega)
  ·have:i=l.length:=by omega
   subst this;rw[jN hok]
   repeat'((conv=>whnf);first|intro _|apply aI|with_reducible exact vM rfl|exact⟨⟩|apply nM|apply fM)
   all_goals((try apply vM);(try simp only[vq]at*);try omega)
   exact Sup.of rfl
def NJ:PSp:=fun xs K=>match xs with
 | [.isl (.ints .i64 l) .none,.int .i64 b]=>VC (l.length≤2000000)∧K (.int .i64 (firstAt (fun i=>decide (b=l.getD i 0)) l.length))
 |_=>False
theorem Zc:POK Tryz.prog 154 NJ:=by
 intro xs K h;unfold NJ at h;split at h
 ·exact⟨_,h.2,Qt _ h.1.get _⟩
 ·exact h.elim
noncomputable def ad9:CPT:=aA 154 (aB NJ) noC
theorem Zd:aZ Tryz.prog ad9:=aj (au Zc) aD
theorem Qu (l:List Int) (hl:l.length≤2000000) (b:Int):aF Tryz.prog 94 [.isl (.ints .i64 l) .none,.int .i64 b] (.bp (decide (b∈l))):=by
 refine av (md:=1) (rf:=[]) mixed ak Zd Tryz.func94 (by rfl) (by rfl) (by rfl) ?_
 repeat'((conv=>whnf);first|intro _|apply aI|with_reducible exact vM rfl|exact⟨⟩|apply nM|apply fM)
 all_goals((try apply vM);(try simp only[vq]at*);try omega)
 refine Sup.via ?_
 repeat'((conv=>whnf);first|intro _|apply aI|with_reducible exact vM rfl|exact⟨⟩|apply nM|apply fM)
 refine VC.mk ?_;rw[gD,nK (fun y=>decide (b=y))];rw[ag9];simp[ahC]
def Af:PSp:=fun xs K=>match xs with
 | [.isl (.ints .i64 l) .none,.int .i64 b]=>VC (l.length≤2000000)∧K (.bp (decide (b∈l)))
 |_=>False
theorem Bo:POK Tryz.prog 94 Af:=by
 intro xs K h;unfold Af at h;split at h
 ·exact⟨_,h.2,Qu _ h.1.get _⟩
 ·exact h.elim
theorem Qv (l:List Int) (hl:l.length≤2000000) (b:Int):aF Tryz.prog 95 [.isl (.ints .i64 l) .none,.int .i64 b] (.bp (decide (b∈l))):=by
 refine av (md:=1) (rf:=[]) mixed ak aD Tryz.func95 (by rfl) (by rfl) (by rfl) ?_
 repeat'((conv=>whnf);first|intro _|apply aI|with_reducible exact vM rfl|exact⟨⟩|apply nM|apply fM)
 all_goals((try apply vM);(try simp only[vq]at*);try omega)
 conv=>whnf
 refine aL (X:=Nat) (fun i=>i≤l.length∧b∉l.take i) (fun i=>[(5,.int .i64 i)]) (fun i=>[]) (fun i=>l.length-i) 0 ⟨aJ,mixed,ak,aD,aP⟩ (by rfl) ⟨by omega,by simp⟩ ?_ ?_
 ·repeat'((conv=>whnf);first|intro _|apply aI|with_reducible exact vM rfl|exact⟨⟩|apply nM|apply fM)
  all_goals((try apply vM);(try simp only[vq]at*);try omega)
 ·rintro i ⟨hi,hok⟩
  by_cases hlt:i<l.length
  ·repeat'((conv=>whnf);first|(intro hq;(try simp only[vw]at hq);try first|exact absurd hq (by decide)|exfalso;omega)|apply aI|with_reducible exact vM rfl|exact⟨⟩|apply nM|apply fM)
   all_goals((try apply vM);(try simp only[vq]at*);try omega)
   ·rename_i hq
    rw[show decide (b∈l)=true by rw[decide_eq_true_eq,←hq];exact bW hlt]
    all_goals(refine Sup.via ?_;repeat'((conv=>whnf);first|intro _|apply aI|with_reducible exact vM rfl|exact⟨⟩|apply nM|apply fM);all_goals((try apply vM);(try simp only[vq]at*);try omega);all_goals(try(simp[CL.sub];done)))
   ·rename_i hq
    refine⟨i+1,[],⟨⟨by omega,fun hm=>?_⟩,by omega⟩,?_⟩
    ·rcases(nU l b i hlt).1 hm with h|h
     ·exact hok h
     ·exact hq h.symm
    ·repeat'((conv=>whnf);first|intro _|apply aI|with_reducible exact vM rfl|exact⟨⟩|apply nM|apply fM)
     all_goals((try apply vM);(try simp only[vq]at*);try omega)
  ·have:i=l.length:=by omega
   subst this;rw[ag7]at hok;rw[decide_eq_false hok]
   repeat'((conv=>whnf);first|(intro hq;(try simp only[vw]at hq);try first|exact absurd hq (by decide)|exfalso;omega)|apply aI|with_reducible exact vM rfl|exact⟨⟩|apply nM|apply fM)
   all_goals((try apply vM);(try simp only[vq]at*);try omega)
   all_goals(refine Sup.via ?_;repeat'((conv=>whnf);first|intro _|apply aI|with_reducible exact vM rfl|exact⟨⟩|apply nM|apply fM);all_goals((try apply vM);(try simp only[vq]at*);try omega);all_goals(try(simp[CL.sub];done)))
def NK:PSp:=fun xs K=>match xs with
 | [.isl (.ints .i64 l) .none,.int .i64 b]=>VC (l.length≤2000000)∧K (.bp (decide (b∈l)))
 |_=>False
theorem Ze:POK Tryz.prog 95 NK:=by
 intro xs K h;unfold NK at h;split at h
 ·exact⟨_,h.2,Qv _ h.1.get _⟩
 ·exact h.elim
noncomputable def cpG:CPT:=aA 89 (aB gW) noC
theorem ab4:aZ Tryz.prog cpG:=aj (au jR) aD
def fI (g:Int):Int:=if g<1∨5<g then 3 else 0
theorem DN (g:Int):aF Tryz.prog 98 [.int .i64 g] (.int .i64 (fI g)):=by
 unfold fI;refine av (md:=1) (rf:=[]) mixed ak ab4 Tryz.func98 (by rfl) (by rfl) (by rfl) ?_
 repeat'((conv=>whnf);first|intro _|apply aI|with_reducible exact vM rfl|exact⟨⟩|apply nM|apply fM)
 all_goals refine Sup.of ?_
 all_goals simp_all[bG]
 all_goals(split<;>split<;>omega)
def nL:PSp:=fun xs K=>match xs with
 | [.int .i64 g]=>VC (True)∧K (.int .i64 (fI g))
 |_=>False
theorem qV:POK Tryz.prog 98 nL:=by
 intro xs K h;unfold nL at h;split at h
 ·exact⟨_,h.2,DN _⟩
 ·exact h.elim
def eO (c:Int) (ls:List (List Int)):Int:=aK [iJ c ls,if 16<c then 20 else 0,if ls.length=0 then 12 else 0]
noncomputable def aea:CPT:=aA 88 (aB jv) (aA 89 (aB gW) (aA 153 (aB NG) noC))
theorem Zf:aZ Tryz.prog aea:=aj (au iV) (aj (au jR) (aj (au Qs) aD))
theorem NM (c:Int) (ls:List (List Int)) (h:bN ls):aF Tryz.prog 93 [.agg [.int .i64 c,.isl (.rows .i64 ls) .none]] (.int .i64 (eO c ls)):=by
 unfold eO;refine av (md:=1) (rf:=[]) mixed ak Zf Tryz.func93 (by rfl) (by rfl) (by rfl) ?_
 repeat'((conv=>whnf);first|intro _|apply aI|with_reducible exact vM rfl|exact⟨⟩|apply nM|apply fM)
 all_goals((try apply vM);(try simp only[vq]at*);try omega)
 all_goals first|exact h|skip
 refine Sup.of (congrArg (PV.int .i64) ?_);simp only[decide_eq_true_eq,Int.natCast_eq_zero]
def Ag:PSp:=fun xs K=>match xs with
 | [.agg [.int .i64 c,.isl (.rows .i64 ls) .none]]=>VC (bN ls)∧K (.int .i64 (eO c ls))
 |_=>False
theorem Gh:POK Tryz.prog 93 Ag:=by
 intro xs K h;unfold Ag at h;split at h
 ·exact⟨_,h.2,NM _ _ h.1.get⟩
 ·exact h.elim
noncomputable def aeb:CPT:=aA 120 (aB Es) noC
theorem Zg:aZ Tryz.prog aeb:=aj (au Kh) aD
theorem Jm (c:Int) (ls:List (List Int)) (h:bN ls):aF Tryz.prog 51 [.agg [.int .i64 c,.isl (.rows .i64 ls) .none]] (.int .i64 (eO c ls)):=by
 unfold eO aK aK aK aK;refine av (md:=1) (rf:=[]) mixed ak Zg Tryz.func51 (by rfl) (by rfl) (by rfl) ?_
 repeat'((conv=>whnf);first|(intro hq;(try simp only[vw]at hq);try first|exact absurd hq (by decide)|exfalso;omega)|apply aI|with_reducible exact vM rfl|exact⟨⟩|apply nM|apply fM)
 all_goals((try apply vM);(try simp only[vq]at*);try omega)
 all_goals first|exact h|(refine Sup.of (congrArg (PV.int .i64) ?_);(repeat' split)<;>simp_all<;>omega)
def Bp:PSp:=fun xs K=>match xs with
 | [.agg [.int .i64 c,.isl (.rows .i64 ls) .none]]=>VC (bN ls)∧K (.int .i64 (eO c ls))
 |_=>False
theorem Qw:POK Tryz.prog 51 Bp:=by
 intro xs K h;unfold Bp at h;split at h
 ·exact⟨_,h.2,Jm _ _ h.1.get⟩
 ·exact h.elim
def gvE (c:Int) (gv:List Int) (i:Nat):Int:=if gv.getD i 0<0∨c<gv.getD i 0 then 3 else if 0<gv.getD i 0∧gv.getD i 0∈gv.take i then 9 else 0
def pV (c:Int) (ls:List (List Int)) (sum:Int) (gv:List Int):Int:=aK [eO c ls,if sum< -999999999∨999999999<sum then 3 else 0,if(gv.length:Int)≠c then 2 else 0]
def pzE (c:Int) (ls:List (List Int)) (sum:Int) (gv:List Int):Int:=if pV c ls sum gv≠0 then pV c ls sum gv else cO (gvE c gv) gv.length
abbrev pzV (c:Int) (ls:List (List Int)) (sum:Int) (gv:List Int):PV:=.agg [.int .i64 c,.isl (.rows .i64 ls) .none,.int .i64 sum,.isl (.ints .i64 gv) .none]
noncomputable def aec:CPT:=aA 88 (aB jv) (aA 89 (aB gW) (aA 93 (aB Ag) (aA 94 (aB Af) noC)))
theorem Kj:aZ Tryz.prog aec:=aj (au iV) (aj (au jR) (aj (au Gh) (aj (au Bo) aD)))
theorem NP (c:Int) (ls:List (List Int)) (sum:Int) (gv:List Int) (h:bN ls) (hg:gv.length≤5000):aF Tryz.prog 22 [pzV c ls sum gv] (.int .i64 (pzE c ls sum gv)):=by
 obtain⟨B,hB⟩:∃B,eO c ls=B:=⟨_,rfl⟩;have hE0:∀x,(x=if sum< -999999999∨999999999<sum then 3 else 0)→pV c ls sum gv=aK [B,x,if(gv.length:Int)≠c then 2 else 0]:=fun x hx=>by rw[hx,←hB];rfl
 obtain⟨E,hE⟩:∃E,pV c ls sum gv=E:=⟨_,rfl⟩;unfold pzE;rw[hE]at hE0⊢;refine av (md:=1) (rf:=[]) mixed ak Kj Tryz.func22 (by rfl) (by rfl) (by rfl) ?_
 repeat'((conv=>whnf);first|(intro hq;(try simp only[vw]at hq);try first|exact absurd hq (by decide)|exfalso;omega)|apply aI|with_reducible exact vM rfl|exact⟨⟩|apply nM|apply fM)
 all_goals((try apply vM);(try simp only[vq]at*);try omega)
 all_goals first|exact h|skip
 ·rename_i h1
  have e:=hE0 (if 999999999<sum then 3 else 0) (by simp[h1])
  rw[hB]at hq⊢;rw[←e]at hq⊢;rw[if_pos hq];exact Sup.of rfl
 rotate_left
 ·rename_i h1
  have e:=hE0 3 (by simp[h1])
  rw[hB]at hq⊢;rw[←e]at hq;rw[if_pos hq,e];exact Sup.of (by simp[bG])
 ·rename_i h1
  exfalso
  have hq:=afV.1 hq;by_cases h2:eO c ls=0
  ·simp[aK,h2]at hq
  ·simp[aK,h2]at hq
 rename_i h1;have e:=hE0 (if 999999999<sum then 3 else 0) (by simp[h1])
 rw[hB,←e]at hq;rw[if_neg hq];conv=>whnf
 refine aL (X:=Nat) (fun i=>i≤gv.length∧∀j,j<i→gvE c gv j=0) (fun i=>[(39,.int .i64 i)]) (fun i=>[]) (fun i=>gv.length-i) 0 ⟨aJ,mixed,ak,Kj,aP⟩ (by rfl) ⟨by omega,fun j hj=>by omega⟩ ?_ ?_
 ·repeat'((conv=>whnf);first|intro _|apply aI|with_reducible exact vM rfl|exact⟨⟩|apply nM|apply fM)
  all_goals((try apply vM);(try simp only[vq]at*);try omega)
 intro i ⟨hi,hok⟩;by_cases hlt:i<gv.length
 ·have eS:gvE c gv i=if gv.getD i 0<0∨c<gv.getD i 0 then 3 else if 0<gv.getD i 0∧gv.getD i 0∈gv.take i then 9 else 0:=rfl
  have et:ahH (i-0) (ahI 0 gv)=gv.take i:=by rw[ahJ,ahK]
  have fin:∀e,gvE c gv i=e→e≠0→cO (gvE c gv) gv.length=e:=fun e a1 a2=>(dV hlt (by rw[a1];exact a2) hok).trans a1
  have nxt:gvE c gv i=0→∀j,j<i+1→gvE c gv j=0:=fun a j hj=>by
   by_cases e:j=i
   ·subst e;exact a
   ·exact hok j (by omega)
  repeat'((conv=>whnf);first|(intro hq;(try simp only[vw]at hq);try first|exact absurd hq (by decide)|exfalso;omega)|apply aI|with_reducible exact vM rfl|exact⟨⟩|apply nM|apply fM)
  all_goals((try apply vM);(try simp only[vq]at*);try omega)
  all_goals first
   |(rw[et,afR];omega)
   |(rw[afR,List.length_drop];omega)
   |skip
  all_goals(try rw[et]at*)
  ·refine Sup.of (congrArg (PV.int .i64) (fin _ ?_ ?_).symm)
   ·clear fin nxt hok hE0
    rw[eS];simp only[aK];(repeat' split)<;>simp_all<;>omega
   ·exact hq
  ·refine⟨i+1,[],⟨⟨by omega,nxt ?_⟩,by omega⟩,?_⟩
   ·refine Eq.trans ?_ (afV.1 hq)
    clear fin nxt hok hE0;rw[eS];simp only[aK];(repeat' split)<;>simp_all<;>omega
   ·repeat'((conv=>whnf);first|intro _|apply aI|with_reducible exact vM rfl|exact⟨⟩|apply nM|apply fM)
    all_goals((try apply vM);(try simp only[vq]at*);try omega)
  ·refine Sup.of (congrArg (PV.int .i64) (fin _ ?_ ?_).symm)
   ·clear fin nxt hok hE0
    rw[eS];simp only[aK];(repeat' split)<;>simp_all<;>omega
   ·exact hq
  ·refine⟨i+1,[],⟨⟨by omega,nxt ?_⟩,by omega⟩,?_⟩
   ·refine Eq.trans ?_ (afV.1 hq)
    clear fin nxt hok hE0;rw[eS];simp only[aK];(repeat' split)<;>simp_all<;>omega
   ·repeat'((conv=>whnf);first|intro _|apply aI|with_reducible exact vM rfl|exact⟨⟩|apply nM|apply fM)
    all_goals((try apply vM);(try simp only[vq]at*);try omega)
  ·refine Sup.of (congrArg (PV.int .i64) (fin _ ?_ ?_).symm)
   ·rw[eS,if_pos (.inl (by assumption))];simp[aK]
   ·simp[aK]
 ·have:gv.length=i:=by omega
  rw[dU (n:=gv.length) (by rw[this];exact hok)]
  repeat'((conv=>whnf);first|intro _|apply aI|with_reducible exact vM rfl|exact⟨⟩|apply nM|apply fM)
  all_goals((try apply vM);(try simp only[vq]at*);try omega)
  exact Sup.of rfl
def lV:PSp:=fun xs K=>match xs with
 | [.agg [.int .i64 c,.isl (.rows .i64 ls) .none,.int .i64 sum,.isl (.ints .i64 gv) .none]]=>VC (bN ls∧gv.length≤5000)∧K (.int .i64 (pzE c ls sum gv))
 |_=>False
theorem lq:POK Tryz.prog 22 lV:=by
 intro xs K h;unfold lV at h;split at h
 ·exact⟨_,h.2,NP _ _ _ _ h.1.get.1 h.1.get.2⟩
 ·exact h.elim
abbrev bdV (c:Int) (ls:List (List Int)) (sum:Int) (gv:List Int) (s:St):PV:=.ip (.pv [.int .i64 c,.isl (.rows .i64 ls) .none,.int .i64 sum,.isl (.ints .i64 gv) .none,.isl (.ints .u32 (ms s.cs)) .none,.isl (.bools s.ds) .none]) 0
noncomputable def aed:CPT:=aA 190 (aB vG) noC
theorem Kk:aZ Tryz.prog aed:=aj (au yF) aD
theorem Kl {l:List Int} (h:Asc l) (hl:1≤l.length):pQ (mk l)=hd0 l:=by
 cases l with
 |nil=>simp at hl
 |cons x l=>exact J7 h
theorem Qx (c:Int) (ls:List (List Int)) (sum:Int) (gv:List Int) (s:St) (h:bg c ls sum s) (k b:Int) (hk:0≤k∧k<ls.length):
 aF Tryz.prog 151 [bdV c ls sum gv s,.int .i64 k,.int .i64 b] (.tup [.isl (.ints .i64 (opn s (ls.getD k.toNat []) b)) .none,.int .i64 (rst s sum (ls.getD k.toNat []))]):=by
 have hln:=h.ln k.toNat (by omega)
 have hsm:=h.sm;have hll:=hln.len;have hlen:=dN s.cs;have hcl:=h.cl;have hdl:=h.dl;have hb:=F6 h hln.rng;refine av (md:=1) (rf:=[]) mixed ak Kk Tryz.func151 (by rfl) (by rfl) (by rfl) ?_
 repeat'((conv=>whnf);first|intro _|apply aI|with_reducible exact vM rfl|exact⟨⟩|apply nM|apply fM)
 all_goals((try apply vM);(try simp only[vq]at*);try omega)
 conv=>whnf
 refine aL (X:=Nat) (fun i=>i≤(ls.getD k.toNat []).length) (fun i=>[(27,.int .i64 i),(8,.isl (.ints .i64 (opn s ((ls.getD k.toNat []).take i) b)) (.own 3)),(9,.int .i64 (rst s sum ((ls.getD k.toNat []).take i)))]) (fun i=>[(3,.tok 1 (opn s ((ls.getD k.toNat []).take i) b).length)]) (fun i=>(ls.getD k.toNat []).length-i) 0 ⟨aJ,mixed,ak,Kk,aP⟩ (by rfl) (by omega) ?_ ?_
 ·repeat'((conv=>whnf);first|intro _|apply aI|with_reducible exact vM rfl|exact⟨⟩|apply nM|apply fM)
  all_goals((try apply vM);(try simp only[vq]at*);try omega)
  all_goals rfl
 intro i hi;by_cases hlt:i<(ls.getD k.toNat []).length
 ·have hx:=hln.rng ((ls.getD k.toNat []).getD i 0) (bW hlt)
  have hxs:=h.at hx;have hbi:=hb i (by omega)
  have ho:(opn s ((ls.getD k.toNat []).take i) b).length≤16:=agR (ahM _ _) (by rw[afR];omega)
  have hm:(ms s.cs).getD ((ls.getD k.toNat []).getD i 0).toNat 0=(mk (s.cd ((ls.getD k.toNat []).getD i 0).toNat):Nat):=fK hxs.1;have hA:=h.asc _ hxs.1;have hr:=pR hA.1;have e1:=YL s ((ls.getD k.toNat []).take i) ((ls.getD k.toNat []).getD i 0) b;have e2:=JZ s sum ((ls.getD k.toNat []).take i) ((ls.getD k.toNat []).getD i 0);rw[←dR hlt]at e1 e2;have hlo:s.dc ((ls.getD k.toNat []).getD i 0).toNat=true→pQ (mk (s.cd ((ls.getD k.toNat []).getD i 0).toNat):Nat)=hd0 (s.cd ((ls.getD k.toNat []).getD i 0).toNat):=fun hd=>Kl hA.1 (by rw[h.dec _ hxs.1 hd];omega)
  repeat'((conv=>whnf);first|(intro hq;(try simp only[vw]at hq);try first|exact absurd hq (by decide)|exfalso;omega)|apply aI|with_reducible exact vM rfl|exact⟨⟩|apply nM|apply fM)
  all_goals(try rw[hm])
  all_goals((try apply vM);(try simp only[vq]at*);try omega)
  all_goals(try rw[hm])
  all_goals(try(first|omega|(have h9:=h.num hx ‹_›;rw[hlo ‹_›];omega)|(rw[agl,aeZ,aeV];omega)))
  ·have hd:s.dc ((ls.getD k.toNat []).getD i 0).toNat=true:=hq
   rw[hd]at e1 e2;rw[if_pos rfl]at e2;rw[if_neg (by simp),ag0]at e1
   refine⟨i+1,[],⟨by omega,by omega⟩,?_⟩
   rw[e1,e2]
   repeat'((conv=>whnf);first|intro _|apply aI|with_reducible exact vM rfl|exact⟨⟩|apply nM|apply fM)
   all_goals((try apply vM);(try simp only[vq]at*);try omega)
   all_goals((try rw[hm]);rw[hlo hd])
  ·rename_i hd
   have hd:s.dc ((ls.getD k.toNat []).getD i 0).toNat=false:=hd;rw[hd]at e1 e2;rw[if_neg (by simp)]at e2
   rw[if_pos (by simpa using hq)]at e1
   refine⟨i+1,[],⟨by omega,by omega⟩,?_⟩
   rw[e1,e2,agl]
   repeat'((conv=>whnf);first|intro _|apply aI|with_reducible exact vM rfl|exact⟨⟩|apply nM|apply fM)
   all_goals((try apply vM);(try simp only[vq]at*);try omega)
  ·rename_i hd
   have hd:s.dc ((ls.getD k.toNat []).getD i 0).toNat=false:=hd;rw[hd]at e1 e2;rw[if_neg (by simp)]at e2
   rw[if_neg (by simpa using hq),ag0]at e1
   refine⟨i+1,[],⟨by omega,by omega⟩,?_⟩
   rw[e1,e2]
   repeat'((conv=>whnf);first|intro _|apply aI|with_reducible exact vM rfl|exact⟨⟩|apply nM|apply fM)
   all_goals((try apply vM);(try simp only[vq]at*);try omega)
 ·have:i=(ls.getD k.toNat []).length:=by omega
  subst this;rw[ag7]
  repeat'((conv=>whnf);first|intro _|apply aI|with_reducible exact vM rfl|exact⟨⟩|apply nM|apply fM)
  all_goals((try apply vM);(try simp only[vq]at*);try omega)
  exact Sup.of rfl
def Ah:PSp:=fun xs K=>match xs with
 | [.ip (.pv [.int .i64 c,.isl (.rows .i64 ls) .none,.int .i64 sum,.isl (.ints .i64 gv) .none,.isl (.ints .u32 M) .none,.isl (.bools D) .none]) 0,.int .i64 k,.int .i64 b]=>∃s:St,VC (M=ms s.cs∧D=s.ds∧bg c ls sum s∧0≤k∧k<ls.length)∧K (.tup [.isl (.ints .i64 (opn s (ls.getD k.toNat []) b)) .none,.int .i64 (rst s sum (ls.getD k.toNat []))])
 |_=>False
theorem Bq:POK Tryz.prog 151 Ah:=by
 intro xs K hk;unfold Ah at hk;split at hk
 ·obtain⟨s,⟨rfl,rfl,h,h1⟩,hk⟩:=hk
  exact⟨_,hk,Qx _ _ _ _ s h _ _ h1⟩
 ·exact hk.elim
abbrev ddV (r:ByteArray) (c x k:Int):PV:=.agg [.str r,.int .i64 c,.int .i64 x,.int .i64 k]
noncomputable def aee:CPT:=aA 151 (aB Ah) (aA 156 (aB En) (aA 190 (aB vG) (aA 210 (aB Ni) (aA 211 (aB vH) noC))))
theorem oP:aZ Tryz.prog aee:=aj (au Bq) (aj (au J5) (aj (au yF) (aj (au YS) (aj (au Jh) aD))))
theorem Qy (c:Int) (ls:List (List Int)) (sum:Int) (gv:List Int) (s:St) (h:bg c ls sum s) (r:ByteArray) (y x k:Int) (hk:0≤k∧k<ls.length):
 aF Tryz.prog 172 [bdV c ls sum gv s,ddV r y x k] (.bp (yB s sum (ls.getD k.toNat []) y x)):=by
 unfold yB;refine av (md:=1) (rf:=[]) mixed ak oP Tryz.func172 (by rfl) (by rfl) (by rfl) ?_
 repeat'((conv=>whnf);first|refine Exists.intro (s) ?_|(intro hq;(try simp only[vw]at hq);try first|exact absurd hq (by decide)|exfalso;omega)|apply aI|with_reducible exact vM rfl|exact⟨⟩|apply nM|apply fM)
 all_goals((try apply vM);(try simp only[vq]at*);try omega)
 ·exact⟨h,hk⟩
 ·rw[decide_eq_true (p:=(opn s (ls.getD k.toNat []) y).length=0) (by omega),ahN];exact Sup.of rfl
 ·rw[decide_eq_false (p:=(opn s (ls.getD k.toNat []) y).length=0) (by omega),aho];all_goals(refine Sup.via ?_;repeat'((conv=>whnf);first|intro _|apply aI|with_reducible exact vM rfl|exact⟨⟩|apply nM|apply fM);all_goals((try apply vM);(try simp only[vq]at*);try omega);all_goals(try(simp[CL.sub];done)))
theorem Qz (c:Int) (ls:List (List Int)) (sum:Int) (gv:List Int) (s:St) (h:bg c ls sum s) (r:ByteArray) (y x k:Int) (hy:0≤y∧y<c):
 aF Tryz.prog 173 [bdV c ls sum gv s,ddV r y x k] (.bp (yC s y)):=by
 have hxs:=h.at hy;have hm:(ms s.cs).getD y.toNat 0=(mk (s.cd y.toNat):Nat):=fK hxs.1;have hA:=(h.asc _ hxs.1).1;have hr:=pR hA;have hlen:=dN s.cs;unfold yC;refine av (md:=1) (rf:=[]) mixed ak oP Tryz.func173 (by rfl) (by rfl) (by rfl) ?_
 repeat'((conv=>whnf);first|refine Exists.intro (s) ?_|(intro hq;(try simp only[vw]at hq);try first|exact absurd hq (by decide)|exfalso;omega)|apply aI|with_reducible exact vM rfl|exact⟨⟩|apply nM|apply fM)
 all_goals((try apply vM);(try simp only[vq]at*);try omega)
 all_goals(try rw[hm])
 all_goals(try omega)
 rw[pop_mk hA];refine Sup.of (congrArg PV.bp ?_);rw[decide_eq_decide];omega
theorem NQ (c:Int) (ls:List (List Int)) (sum:Int) (gv:List Int) (s:St) (h:bg c ls sum s) (r:ByteArray) (y x k:Int) (hx:1≤x∧x≤c):
 aF Tryz.prog 174 [bdV c ls sum gv s,ddV r y x k] (.bp (qQ s y x)):=by
 have hlen:=dN s.cs;have hc:=h.c1;have hcl:=h.cl;refine av (md:=1) (rf:=[]) mixed ak oP Tryz.func174 (by rfl) (by rfl) (by rfl) ?_
 repeat'((conv=>whnf);first|refine Exists.intro (s) ?_|(intro hq;(try simp only[vw]at hq);try first|exact absurd hq (by decide)|exfalso;omega)|apply aI|with_reducible exact vM rfl|exact⟨⟩|apply nM|apply fM)
 all_goals((try apply vM);(try simp only[vq]at*);try omega)
 conv=>whnf
 refine aL (X:=Nat) (fun i=>i≤s.cs.length∧∀j,j<i→(decide ((j:Int)=y)||!decide (x∈s.cd j))=true) (fun i=>[(12,.int .i64 i)]) (fun i=>[]) (fun i=>s.cs.length-i) 0 ⟨aJ,mixed,ak,oP,aP⟩ (by rfl) ⟨by omega,fun j hj=>by omega⟩ ?_ ?_
 ·repeat'((conv=>whnf);first|intro _|apply aI|with_reducible exact vM rfl|exact⟨⟩|apply nM|apply fM)
  all_goals((try apply vM);(try simp only[vq]at*);try omega)
 intro i ⟨hi,hok⟩;have nxt:(decide ((i:Int)=y)||!decide (x∈s.cd i))=true→∀j,j<i+1→(decide ((j:Int)=y)||!decide (x∈s.cd j))=true:=fun a j hj=>by
  by_cases e:j=i
  ·subst e;exact a
  ·exact hok j (by omega)
 by_cases hlt:i<s.cs.length
 ·have hm:(ms s.cs).getD i 0=(mk (s.cd i):Nat):=fK hlt
  have hA:=(h.asc _ hlt).1;have hr:=pR hA
  repeat'((conv=>whnf);first|refine Exists.intro (s) ?_|(intro hq;(try simp only[vw]at hq);try first|exact absurd hq (by decide)|exfalso;omega)|apply aI|with_reducible exact vM rfl|exact⟨⟩|apply nM|apply fM)
  all_goals((try apply vM);(try simp only[vq]at*);try omega)
  all_goals(try rw[hm]at hq)
  all_goals(try rw[hm])
  all_goals(try omega)
  ·rename_i h1
   rw[J6 hA (by omega),decide_eq_true_eq]at hq
   have:qQ s y x=false:=by
    unfold qQ;rw[List.all_eq_false];exact⟨i,agU.2 hlt,by simp[hq];exact h1⟩
   rw[this];all_goals(refine Sup.via ?_;repeat'((conv=>whnf);first|intro _|apply aI|with_reducible exact vM rfl|exact⟨⟩|apply nM|apply fM);all_goals((try apply vM);(try simp only[vq]at*);try omega);all_goals(try(simp[CL.sub];done)))
  ·rw[J6 hA (by omega),decide_eq_false_iff_not]at hq
   refine⟨i+1,[],⟨⟨by omega,nxt (by simp[hq])⟩,by omega⟩,?_⟩
   repeat'((conv=>whnf);first|intro _|apply aI|with_reducible exact vM rfl|exact⟨⟩|apply nM|apply fM)
   all_goals((try apply vM);(try simp only[vq]at*);try omega)
  ·refine⟨i+1,[],⟨⟨by omega,nxt (by simp[afV.1 hq])⟩,by omega⟩,?_⟩
   repeat'((conv=>whnf);first|intro _|apply aI|with_reducible exact vM rfl|exact⟨⟩|apply nM|apply fM)
   all_goals((try apply vM);(try simp only[vq]at*);try omega)
 ·have:qQ s y x=true:=by
   unfold qQ;rw[agE];exact fun j hj=>hok j (by have:=agU.1 hj;omega)
  rw[this]
  repeat'((conv=>whnf);first|refine Exists.intro (s) ?_|(intro hq;(try simp only[vw]at hq);try first|exact absurd hq (by decide)|exfalso;omega)|apply aI|with_reducible exact vM rfl|exact⟨⟩|apply nM|apply fM)
  all_goals((try apply vM);(try simp only[vq]at*);try omega)
  all_goals(refine Sup.via ?_;repeat'((conv=>whnf);first|intro _|apply aI|with_reducible exact vM rfl|exact⟨⟩|apply nM|apply fM);all_goals((try apply vM);(try simp only[vq]at*);try omega);all_goals(try(simp[CL.sub];done)))
theorem Km {s:St} {l:List Int} {b x:Int} (h:x∈opn s l b):x∈l:=(ahh.1 h).1
theorem Kn {c:Int} {ls:List (List Int)} {sum:Int} {s:St} (h:bg c ls sum s) (f:List Int→Int) (hf:∀l,f l=hd0 l∨f l=ls0 l) {o:List Int} (ho:∀y∈o,0≤y∧y<c) (hn:∀y∈o,s.cd y.toNat≠[]):
 ∀i,i≤o.length→0≤(o.take i).foldl (fun a y=>a+f (s.cd y.toNat)) 0∧(o.take i).foldl (fun a y=>a+f (s.cd y.toNat)) 0≤16*i:=by
 intro i;induction i with
 |zero=>intro _;simp
 |succ i ih=>
  intro hi;have ih:=ih (by omega)
  have hy:=bW (show i<o.length by omega)
  have hxs:=h.at (ho _ hy);have hl:1≤(s.cd (o.getD i 0).toNat).length:=by
   rcases afN (s.cd (o.getD i 0).toNat).length with h0|h0
   ·exact absurd (agk.1 h0) (hn _ hy)
   ·exact h0
  have hA:=(h.asc _ hxs.1).1;have h1:=hA.rng _ (rC hl);have h2:=hA.rng _ (wO hl);rw[dR (by omega),ahq]
  simp only[List.foldl_cons,List.foldl_nil];rcases hf (s.cd (o.getD i 0).toNat)with e|e<;>rw[e]<;>omega
theorem Zh {l:List Int} (h:Asc l) (hl:1≤l.length):fB (mk l)-1=ls0 l:=by
 rw[YT h (wO hl) (F5 h.pw)];omega
theorem Gi (c:Int) (ls:List (List Int)) (sum:Int) (gv:List Int) (s:St) (h:bg c ls sum s) (r:ByteArray) (y x k:Int) (hk:0≤k∧k<ls.length) (hx:1≤x∧x≤c):
 aF Tryz.prog 175 [bdV c ls sum gv s,ddV r y x k] (.bp (yD s sum (ls.getD k.toNat []) y x)):=by
 obtain⟨o,hO⟩:∃o,opn s (ls.getD k.toNat []) y=o:=⟨_,rfl⟩;obtain⟨R,hR⟩:∃R,rst s sum (ls.getD k.toNat [])=R:=⟨_,rfl⟩;have hlen:=dN s.cs;have hc:=h.c1;have hcl:=h.cl;have hln:=h.ln k.toNat (by omega)
 have hll:=hln.len;have hsm:=h.sm;have hRb:=F6 h hln.rng _ (ae3 _);rw[ag7,hR]at hRb;have ho:∀z∈o,0≤z∧z<c:=fun z hz=>hln.rng z (by rw[←hO]at hz;exact Km hz)
 have hol:o.length≤16:=by rw[←hO];exact agR (ahM _ _) hll
 unfold yD;rw[hO,hR];refine av (md:=1) (rf:=[]) mixed ak oP Tryz.func175 (by rfl) (by rfl) (by rfl) ?_
 repeat'((conv=>whnf);first|refine Exists.intro (s) ?_|(intro hq;(try simp only[vw]at hq);try first|exact absurd hq (by decide)|exfalso;omega)|apply aI|with_reducible exact vM rfl|exact⟨⟩|apply nM|apply fM)
 all_goals((try apply vM);(try simp only[vq]at*);try omega)
 ·exact⟨h,hk⟩
 rw[hO,hR];conv=>whnf
 refine aL (X:=Nat) (fun i=>i≤o.length∧∀z∈o.take i,s.cd z.toNat≠[]) (fun i=>[(25,.int .i64 i),(7,.int .i64 (qR s (o.take i))),(8,.int .i64 (qU s (o.take i)))]) (fun i=>[]) (fun i=>o.length-i) 0 ⟨aJ,mixed,ak,oP,aP⟩ (by rfl) ⟨by omega,by simp⟩ ?_ ?_
 ·repeat'((conv=>whnf);first|intro _|apply aI|with_reducible exact vM rfl|exact⟨⟩|apply nM|apply fM)
  all_goals((try apply vM);(try simp only[vq]at*);try omega)
  all_goals rfl
 intro i ⟨hi,hok⟩;have hoi:∀z∈o.take i,0≤z∧z<c:=fun z hz=>ho z (agV hz);have b1:0≤qR s (o.take i)∧qR s (o.take i)≤16*i:=by
  have:=Kn h hd0 (fun _=>.inl rfl) hoi hok (o.take i).length (ae3 _);rw[ag7,show(o.take i).length=i by rw[afR];omega]at this
  exact this
 have b2:0≤qU s (o.take i)∧qU s (o.take i)≤16*i:=by
  have:=Kn h ls0 (fun _=>.inr rfl) hoi hok (o.take i).length (ae3 _);rw[ag7,show(o.take i).length=i by rw[afR];omega]at this
  exact this
 by_cases hlt:i<o.length
 ·have hy:=ho _ (bW hlt)
  have hxs:=h.at hy;have hm:(ms s.cs).getD (o.getD i 0).toNat 0=(mk (s.cd (o.getD i 0).toNat):Nat):=fK hxs.1;have hA:=(h.asc _ hxs.1).1;have hr:=pR hA;have t1:=dR hlt;have e1:qR s (o.take (i+1))=qR s (o.take i)+hd0 (s.cd (o.getD i 0).toNat):=by rw[t1];unfold qR;rw[ahq];rfl
  have e2:qU s (o.take (i+1))=qU s (o.take i)+ls0 (s.cd (o.getD i 0).toNat):=by rw[t1];unfold qU;rw[ahq];rfl
  have hne:s.cd (o.getD i 0).toNat≠[]→1≤(s.cd (o.getD i 0).toNat).length:=fun h0=>by
   rcases afN (s.cd (o.getD i 0).toNat).length with h1|h1
   ·exact absurd (agk.1 h1) h0
   ·exact h1
  have hz:(mk (s.cd (o.getD i 0).toNat):Int)=0↔s.cd (o.getD i 0).toNat=[]:=by rw[←mk_zero hA.inM];omega
  repeat'((conv=>whnf);first|refine Exists.intro (s) ?_|(intro hq;(try simp only[vw]at hq);try first|exact absurd hq (by decide)|exfalso;omega)|apply aI|with_reducible exact vM rfl|exact⟨⟩|apply nM|apply fM)
  all_goals((try apply vM);(try simp only[vq]at*);try omega)
  all_goals(try rw[hm]at hq)
  all_goals(try rw[hm])
  ·have:(o.any fun y=>decide (s.cd y.toNat=[]))=true:=ahC.2 ⟨_,bW hlt,by rw[decide_eq_true_eq];exact hz.1 hq⟩
   rw[this,ahG];all_goals(refine Sup.via ?_;repeat'((conv=>whnf);first|intro _|apply aI|with_reducible exact vM rfl|exact⟨⟩|apply nM|apply fM);all_goals((try apply vM);(try simp only[vq]at*);try omega);all_goals(try(simp[CL.sub];done)))
  all_goals(have h1:=hne (fun h0=>hq (hz.2 h0));have q1:=Kl hA h1;have q2:=Zh hA h1;have q3:=hA.rng _ (rC h1);have q4:=hA.rng _ (wO h1))
  all_goals(try(first|omega|(rw[hm];omega)))
  refine⟨i+1,[],⟨⟨by omega,fun z hz2=>?_⟩,by omega⟩,?_⟩
  ·rw[t1]at hz2
   rcases aff.1 hz2 with h2|h2
   ·exact hok z h2
   ·rw[ahL.1 h2];exact fun h0=>hq (hz.2 h0)
  ·rw[e1,e2]
   repeat'((conv=>whnf);first|intro _|apply aI|with_reducible exact vM rfl|exact⟨⟩|apply nM|apply fM)
   all_goals((try apply vM);(try simp only[vq]at*);try omega)
   all_goals(try rw[hm])
   all_goals(try omega)
 ·have:i=o.length:=by omega
  subst this;rw[ag7]at*;have hn:(o.any fun y=>decide (s.cd y.toNat=[]))=false:=by
   rw[ahD];intro z hz h0;exact hok z hz (of_decide_eq_true h0)
  rw[hn,ahF]
  repeat'((conv=>whnf);first|refine Exists.intro (s) ?_|(intro hq;(try simp only[vw]at hq);try first|exact absurd hq (by decide)|exfalso;omega)|apply aI|with_reducible exact vM rfl|exact⟨⟩|apply nM|apply fM)
  all_goals((try apply vM);(try simp only[vq]at*);try omega)
  all_goals(try omega)
  ·rename_i h9
   rw[decide_eq_false hq,ahF];exact Sup.of rfl
  ·rw[decide_eq_true hq,ahG];all_goals(refine Sup.via ?_;repeat'((conv=>whnf);first|intro _|apply aI|with_reducible exact vM rfl|exact⟨⟩|apply nM|apply fM);all_goals((try apply vM);(try simp only[vq]at*);try omega);all_goals(try(simp[CL.sub];done)))
def nN (f:St→Int→List Int→Int→Int→Bool):PSp:=fun xs K=>match xs with
 | [.ip (.pv [.int .i64 c,.isl (.rows .i64 ls) .none,.int .i64 sum,.isl (.ints .i64 gv) .none,.isl (.ints .u32 M) .none,.isl (.bools D) .none]) 0,.agg [.str r,.int .i64 y,.int .i64 x,.int .i64 k]]=>∃s:St,VC (M=ms s.cs∧D=s.ds∧bg c ls sum s∧(0≤k∧k<ls.length)∧(0≤y∧y<c)∧1≤x∧x≤c)∧K (.bp (f s sum (ls.getD k.toNat []) y x))
 |_=>False
def rF (f:St→Int→Int→Bool):PSp:=fun xs K=>match xs with
 | [.ip (.pv [.int .i64 c,.isl (.rows .i64 ls) .none,.int .i64 sum,.isl (.ints .i64 gv) .none,.isl (.ints .u32 M) .none,.isl (.bools D) .none]) 0,.agg [.str r,.int .i64 y,.int .i64 x,.int .i64 k]]=>∃s:St,VC (M=ms s.cs∧D=s.ds∧bg c ls sum s∧(0≤y∧y<c)∧1≤x∧x≤c)∧K (.bp (f s y x))
 |_=>False
theorem yJ {g:Nat} {f:St→Int→List Int→Int→Int→Bool} (hf:∀(c:Int) (ls:List (List Int)) (sum:Int) (gv:List Int) (s:St) (h:bg c ls sum s) (r:ByteArray) (y x k:Int) (hk:0≤k∧k<ls.length) (hy:0≤y∧y<c) (hx:1≤x∧x≤c),aF Tryz.prog g [bdV c ls sum gv s,ddV r y x k] (.bp (f s sum (ls.getD k.toNat []) y x))):POK Tryz.prog g (nN f):=by
 intro xs K hk;unfold nN at hk;split at hk
 ·obtain⟨s,⟨rfl,rfl,h,h1,h2,h3⟩,hk⟩:=hk
  exact⟨_,hk,hf _ _ _ _ s h _ _ _ _ h1 h2 h3⟩
 ·exact hk.elim
theorem Gj {g:Nat} {f:St→Int→Int→Bool} (hf:∀(c:Int) (ls:List (List Int)) (sum:Int) (gv:List Int) (s:St) (h:bg c ls sum s) (r:ByteArray) (y x k:Int) (hy:0≤y∧y<c) (hx:1≤x∧x≤c),aF Tryz.prog g [bdV c ls sum gv s,ddV r y x k] (.bp (f s y x))):POK Tryz.prog g (rF f):=by
 intro xs K hk;unfold rF at hk;split at hk
 ·obtain⟨s,⟨rfl,rfl,h,h2,h3⟩,hk⟩:=hk
  exact⟨_,hk,hf _ _ _ _ s h _ _ _ _ h2 h3⟩
 ·exact hk.elim
theorem Zi:POK Tryz.prog 172 (nN yB):=yJ fun c ls sum gv s h r y x k hk hy hx=>Qy c ls sum gv s h r y x k hk
theorem Zj:POK Tryz.prog 173 (rF fun s y x=>yC s y):=Gj fun c ls sum gv s h r y x k hy hx=>Qz c ls sum gv s h r y x k hy
theorem Tn:POK Tryz.prog 174 (rF qQ):=Gj fun c ls sum gv s h r y x k hy hx=>NQ c ls sum gv s h r y x k hx
theorem NR:POK Tryz.prog 175 (nN yD):=yJ fun c ls sum gv s h r y x k hk hy hx=>Gi c ls sum gv s h r y x k hk hx
abbrev WO:PV:=.fn (.func 212) [] [.rp 0 0,.rp 1 0,.rp 2 0]
abbrev ab5 (c:Int) (ls:List (List Int)) (sum:Int) (gv:List Int) (s:St) (o:List Int):List AO:=[.cells (.pv [.isl (.ints .i64 o) .none]) false,.cells (.pv [bdV c ls sum gv s]) false,.cells (.pv [WO]) false]
structure WQ (c:Int) (ls:List (List Int)) (sum:Int) (s:St) (o:List Int) (a:Nat) (used:List Int) (R:Int):Prop where
 bd:bg c ls sum s
 rng:∀z∈o,0≤z∧z<c
 le:a≤o.length∧o.length≤16
 us:InM used
 bnd: -2000000000+16*((o.length:Int)-a)≤R∧R≤2000000000
def Br (c:Int) (ls:List (List Int)) (sum:Int) (gv:List Int) (s:St) (o:List Int) (a0:Nat):LSp:=fun xs objs K=>match xs,objs with
 | [.int .i64 a,.int .u32 m,.int .i64 R,.rp 0 0,.rp 1 0,.rp 2 0],[.cells (.pv [.isl (.ints .i64 o') .none]) false,.cells (.pv [p]) false,.cells (.pv [f]) false]=>
  ∃used:List Int,VC (a=(a0:Int)∧m=(mk used:Nat)∧o'=o∧p=bdV c ls sum gv s∧f=WO∧WQ c ls sum s o a0 used R)∧K [.bp (chs s (o.drop a0) used R)] [.cells (.pv [.isl (.ints .i64 o') .none]) false,.cells (.pv [p]) false,.cells (.pv [f]) false]
 |_,_=>False
noncomputable def adn (L:LSp):CPT:=aA 149 (aB Ab) (aA 212 (fq [] L) noC)
theorem QA (c:Int) (ls:List (List Int)) (sum:Int) (gv:List Int) (s:St) (o:List Int):∀(d a:Nat) (used:List Int) (R:Int),o.length-a=d→WQ c ls sum s o a used R→
 kg Tryz.prog 212 [.int .i64 (a:Int),.int .u32 (mk used:Nat),.int .i64 R,.rp 0 0,.rp 1 0,.rp 2 0] (ab5 c ls sum gv s o) [.bp (chs s (o.drop a) used R)] (ab5 c ls sum gv s o):=by
 intro d;induction d with
 |zero=>
  intro a used R hd h;have hle:=h.le;have:a=o.length:=by omega
  subst this;rw[ahE];refine bL (md:=1) (rf:=[]) mixed ak aD 3 [] Tryz.func212 (by rfl) (by rfl) (by rfl) ?_
  repeat'((conv=>whnf);first|(intro hq;(try simp only[vw]at hq);try first|exact absurd hq (by decide)|exfalso;omega)|apply aI|with_reducible exact vM rfl|exact⟨⟩|apply nM|apply fM)
  all_goals((try apply vM);(try simp only[vq]at*);try omega)
 |succ d ih=>
  intro a used R hd h;have hle:=h.le;have hlt:a<o.length:=by omega
  have hL:LOK Tryz.prog 212 (Br c ls sum gv s o (a+1)):=by
   intro xs objs K hk;unfold Br at hk;split at hk
   ·obtain⟨u,⟨rfl,rfl,rfl,rfl,rfl,h1⟩,hk⟩:=hk
    exact⟨_,_,hk,ih (a+1) u _ (by omega) h1⟩
   ·exact hk.elim
  have hcp:aZ Tryz.prog (adn (Br c ls sum gv s o (a+1))):=aj (au Bn) (aj (dH [] hL) aD);have hbd:=h.bnd;have hy:=h.rng _ (bW hlt);have hxs:=h.bd.at hy;have hm:(ms s.cs).getD (o.getD a 0).toNat 0=(mk (s.cd (o.getD a 0).toNat):Nat):=fK hxs.1;have hA:=(h.bd.asc _ hxs.1).1;have hlen:=dN s.cs;obtain⟨C,hC⟩:∃C,(s.cd (o.getD a 0).toNat).filter (fun x=>!decide (x∈used))=C:=⟨_,rfl⟩;have hCA:Asc C:=by rw[←hC];exact hA.filter _
  have hnot:=P6 hA.inM h.us;rw[hC]at hnot;have hch:chs s (o.drop a) used R=C.any fun x=>chs s (o.drop (a+1)) (used++[x]) (R-x):=by rw[drop_cons hlt,chs,hC]
  rw[hch];refine bL (md:=1) (rf:=[]) mixed ak hcp 3 [] Tryz.func212 (by rfl) (by rfl) (by rfl) ?_
  repeat'((conv=>whnf);first|(intro hq;(try simp only[vw]at hq);try first|exact absurd hq (by decide)|exfalso;omega)|apply aI|with_reducible exact vM rfl|exact⟨⟩|apply nM|apply fM)
  all_goals((try apply vM);(try simp only[vq]at*);try omega)
  all_goals(try omega)
  rw[hm,hnot];conv=>whnf
  refine jg aJ mixed ak hcp (fun r=>aP) (fs:=[]) (cs:=[.ip (.pv [.int .u32 (mk C:Nat)]) 0]) (C.map (PV.int .i64)) (fun i=>!chs s (o.drop (a+1)) (used++[C.getD i 0]) (R-C.getD i 0)) (fun i=>[]) (by rfl) (by rfl) (by rfl) (jP C hCA) (by rfl) (by rfl) (by rfl) (by rfl) ?_ ?_ ?_
  ·repeat'((conv=>whnf);first|intro _|apply aI|with_reducible exact vM rfl|exact⟨⟩|apply nM|apply fM)
   all_goals((try apply vM);(try simp only[vq]at*);try omega)
  ·intro hall
   repeat'((conv=>whnf);first|intro _|apply aI|with_reducible exact vM rfl|exact⟨⟩|apply nM|apply fM)
   all_goals((try apply vM);(try simp only[vq]at*);try omega)
   rw[eq_comm,ahD];intro x hx h1;obtain⟨i,hi,rfl⟩:=(bO C x).1 hx;have:=hall i (by rw[ag3];exact hi)
   rw[h1]at this;cases this
  ·intro i x hx hall lp
   obtain⟨hi,rfl⟩:=oN hx;have hxC:=bW hi;have hxr:=hCA.rng _ hxC;have hor:=Nf h.us (show 0≤C.getD i 0∧C.getD i 0≤31 by omega)
   have hus:InM (used++[C.getD i 0]):=fun z hz=>by
    rcases aff.1 hz with h1|h1
    ·exact h.us z h1
    ·rw[ahL.1 h1];omega
   have hsb:=kS (C.getD i 0).toNat (by omega)
   repeat'((conv=>whnf);first|refine Exists.intro (used++[C.getD i 0]) ?_|(intro hq;(try simp only[vw]at hq);try first|exact absurd hq (by decide)|exfalso;omega)|apply aI|with_reducible exact vM rfl|exact⟨⟩|apply nM|apply fM)
   all_goals((try apply vM);(try simp only[vq]at*);try omega)
   all_goals(try omega)
   ·exact⟨by omega,hor,h.bd,h.rng,by omega,hus,by omega⟩
   ·rw[hq];rfl
   ·symm
    rw[ahC];exact⟨_,hxC,hq⟩
   ·refine⟨[],?_⟩
    repeat'((conv=>whnf);first|intro _|apply aI|with_reducible exact vM rfl|exact⟨⟩|apply nM|apply fM)
    all_goals((try apply vM);(try simp only[vq]at*);try omega)
    all_goals(try(rw[hq];rfl))
theorem ab6 (c:Int) (ls:List (List Int)) (sum:Int) (gv:List Int) (s:St) (o:List Int) (a:Nat):LOK Tryz.prog 212 (Br c ls sum gv s o a):=by
 intro xs objs K hk;unfold Br at hk;split at hk
 ·obtain⟨u,⟨rfl,rfl,rfl,rfl,rfl,h1⟩,hk⟩:=hk
  exact⟨_,_,hk,QA _ _ _ _ _ _ _ _ u _ rfl h1⟩
 ·exact hk.elim
theorem Ai (c:Int) (ls:List (List Int)) (sum:Int) (gv:List Int) (s:St) (h:bg c ls sum s) (r:ByteArray) (y x k:Int) (hk:0≤k∧k<ls.length) (hx:1≤x∧x≤c):
 aF Tryz.prog 176 [bdV c ls sum gv s,ddV r y x k] (.bp (yE s sum (ls.getD k.toNat []) y x)):=by
 have hln:=h.ln k.toNat (by omega)
 have hll:=hln.len;have hsm:=h.sm;have hc:=h.c1;have hRb:=F6 h hln.rng _ (ae3 _);rw[ag7]at hRb;have ho:∀z∈(opn s (ls.getD k.toNat []) y),0≤z∧z<c:=fun z hz=>hln.rng z (Km hz);have hol:(opn s (ls.getD k.toNat []) y).length≤16:=agR (ahM _ _) hll;have hone:(1:Int)*2 ^ x.toNat=((mk [x]:Nat):Int):=by rw[mk_one,ahd];norm_cast
 have hsb:=kS x.toNat (by omega)
 have hcp:aZ Tryz.prog (aA 151 (aB Ah) (aA 212 (fq [] (Br c ls sum gv s (opn s (ls.getD k.toNat []) y) 0)) noC)):=aj (au Bq) (aj (dH [] (ab6 c ls sum gv s (opn s (ls.getD k.toNat []) y) 0)) aD);unfold yE;refine av (md:=1) (rf:=[20]) mixed ak hcp Tryz.func176 (by rfl) (by rfl) (by rfl) ?_
 repeat'((conv=>whnf);first|refine Exists.intro (s) ?_|(intro hq;(try simp only[vw]at hq);try first|exact absurd hq (by decide)|exfalso;omega)|apply aI|with_reducible exact vM rfl|exact⟨⟩|apply nM|apply fM)
 all_goals((try apply vM);(try simp only[vq]at*);try omega)
 ·exact⟨h,hk⟩
 ·rw[decide_eq_false (p:=(opn s (ls.getD k.toNat []) y).length<4) (by omega),aho];all_goals(refine Sup.via ?_;repeat'((conv=>whnf);first|intro _|apply aI|with_reducible exact vM rfl|exact⟨⟩|apply nM|apply fM);all_goals((try apply vM);(try simp only[vq]at*);try omega);all_goals(try(simp[CL.sub];done)))
 all_goals(try omega)
 repeat'((conv=>whnf);first|refine Exists.intro ([x]) ?_|(intro hq;(try simp only[vw]at hq);try first|exact absurd hq (by decide)|exfalso;omega)|apply aI|with_reducible exact vM rfl|exact⟨⟩|apply nM|apply fM)
 all_goals((try apply vM);(try simp only[vq]at*);try omega)
 ·refine⟨rfl,hone,h,ho,by omega,fun z hz=>?_,by omega⟩
  rw[ahL.1 hz];omega
 ·rw[decide_eq_true (p:=(opn s (ls.getD k.toNat []) y).length<4) (by omega),ahN];exact Sup.of rfl
theorem DR:POK Tryz.prog 176 (nN yE):=yJ fun c ls sum gv s h r y x k hk hy hx=>Ai c ls sum gv s h r y x k hk hx
theorem iA (b:Bool):Sup (bG [PV.bool b]) (PV.bp b):=⟨fun h=>by cases h;exact .bp _ _⟩
noncomputable def aef:CPT:=aA 150 (aB Nr) (aA 151 (aB Ah) noC)
theorem Bt:aZ Tryz.prog aef:=aj (au Y2) (aj (au Bq) aD)
theorem QB (cs:List (List Int)) (i:Nat) (hi:i<cs.length):(cs.take (i+1)).flatten=(cs.take i).flatten++cs.getD i []:=by
 have e:cs.take (i+1)=cs.take i++[cs.getD i []]:=by rw[ag5,afe,afj hi];rfl
 rw[e,List.flatten_append];simp
theorem yK {c:Int} (hc:1≤c∧c≤16):(1:Int)*2 ^ (c+1).toNat-2=(mk ((afc c.toNat).map fun i:Nat=>(i:Int)+1):Nat):=by
 obtain rfl|rfl|rfl|rfl|rfl|rfl|rfl|rfl|rfl|rfl|rfl|rfl|rfl|rfl|rfl|rfl:c=1∨c=2∨c=3∨c=4∨c=5∨c=6∨c=7∨c=8∨c=9∨c=10∨c=11∨c=12∨c=13∨c=14∨c=15∨c=16:=by omega
 all_goals decide
theorem Zk {c:Int} {ls:List (List Int)} {sum:Int} {s:St} (h:bg c ls sum s):((afc c.toNat).all fun i=>s.cs.any fun l=>decide (((i:Int)+1)∈l))=decide ((mk s.cs.flatten:Int)=1*2 ^ (c+1).toNat-2):=by
 have hc:=h.c1;have hfl:∀x∈s.cs.flatten,1≤x∧x≤c:=fun x hx=>by
  obtain⟨l,hl,hx⟩:=ahO.1 hx;obtain⟨j,hj,rfl⟩:=afi hl;have h1:=h.asc j hj;have e:s.cd j=s.cs[j]:=by unfold St.cd;rw[afe,afj hj];rfl
  rw[e]at h1;exact⟨(h1.1.rng x hx).1,h1.2 x hx⟩
 have hR:∀x,x∈(afc c.toNat).map (fun i:Nat=>(i:Int)+1)↔1≤x∧x≤c:=fun x=>by
  rw[List.mem_map];constructor
  ·rintro⟨i,hi,rfl⟩;have:=agU.1 hi;omega
  ·intro hx;exact⟨(x-1).toNat,agU.2 (by omega),by omega⟩
 rw[yK hc,ag9,agE,decide_eq_true_eq,Int.natCast_inj];constructor
 ·intro hA
  refine abV (fun x hx=>by have:=hfl x hx;omega) (fun x hx=>by have:=(hR x).1 hx;omega) fun x=>?_
  rw[hR];refine⟨hfl x,fun hx=>?_⟩;have:=hA (x-1).toNat (agU.2 (by omega))
  obtain⟨l,hl,hm⟩:=ahC.1 this;rw[decide_eq_true_eq,show(((x-1).toNat:Nat):Int)+1=x by omega]at hm
  exact ahO.2 ⟨l,hl,hm⟩
 ·intro hE i hi
  have hi:=agU.1 hi;have:=(mk_inj (fun x hx=>by have:=hfl x hx;omega) (fun x hx=>by have:=(hR x).1 hx;omega) hE ((i:Int)+1)).2 ((hR _).2 (by omega))
  obtain⟨l,hl,hm⟩:=ahO.1 this;exact ahC.2 ⟨l,hl,decide_eq_true hm⟩
theorem Zl {c:Int} {ls:List (List Int)} {sum:Int} {s:St} (h:bg c ls sum s):((ms s.cs).any fun y=>decide (0=y))=s.cs.any fun l=>decide (l=[]):=by
 unfold ms;rw[List.any_map,ag9,ahC,ahC];have hA:∀l∈s.cs,Asc l:=fun l hl=>by
  obtain⟨j,hj,rfl⟩:=afi hl;have h1:=(h.asc j hj).1;unfold St.cd at h1;rw[afe,afj hj]at h1;exact h1
 constructor
 ·rintro⟨l,hl,h1⟩
  simp only[Function.comp,decide_eq_true_eq]at h1;exact⟨l,hl,decide_eq_true ((mk_zero (hA l hl).inM).1 (by omega))⟩
 ·rintro⟨l,hl,h1⟩
  refine⟨l,hl,?_⟩;simp only[Function.comp,decide_eq_true_eq]at h1⊢;have:=(mk_zero (hA l hl).inM).2 h1;omega
def lbk (sum:Int) (s:St) (l:List Int):Bool:=decide ((opn s l (-1)).length=0)&&decide (rst s sum l≠0)
theorem Jo (c:Int) (ls:List (List Int)) (sum:Int) (gv:List Int) (s:St) (h:bg c ls sum s):aF Tryz.prog 90 [bdV c ls sum gv s] (.bp (brk c ls sum s)):=by
 have hc:=h.c1;have hcl:=h.cl;have hlen:=dN s.cs;have hll:=h.ll;have hsb:=kS (c+1).toNat (by omega)
 have ham:=yK hc;have hin:∀i,i≤s.cs.length→InM (s.cs.take i).flatten:=fun i hi x hx=>by
  obtain⟨l,hl,hx⟩:=ahO.1 hx;obtain⟨j,hj,rfl⟩:=afi (agV hl);have:=(h.asc j hj).1.rng x (by unfold St.cd;rw[afe,afj hj];exact hx)
  omega
 refine av (md:=1) (rf:=[]) mixed ak Bt Tryz.func90 (by rfl) (by rfl) (by rfl) ?_
 repeat'((conv=>whnf);first|refine Exists.intro (s) ?_|(intro hq;(try simp only[vw]at hq);try first|exact absurd hq (by decide)|exfalso;omega)|apply aI|with_reducible exact vM rfl|exact⟨⟩|apply nM|apply fM)
 all_goals((try apply vM);(try simp only[vq]at*);try omega)
 conv=>whnf
 refine aL (X:=Nat) (fun i=>i≤s.cs.length) (fun i=>[(14,.int .i64 i),(3,.int .u32 (mk (s.cs.take i).flatten:Nat))]) (fun i=>[]) (fun i=>s.cs.length-i) 0 ⟨aJ,mixed,ak,Bt,aP⟩ (by rfl) (by omega) ?_ ?_
 ·repeat'((conv=>whnf);first|intro _|apply aI|with_reducible exact vM rfl|exact⟨⟩|apply nM|apply fM)
  all_goals((try apply vM);(try simp only[vq]at*);try omega)
  all_goals rfl
 intro i hi;by_cases hlt:i<s.cs.length
 ·have hm:(ms s.cs).getD i 0=(mk (s.cd i):Nat):=fK hlt
  have hA:=(h.asc _ hlt).1;have hor:=abX (hin i hi) hA.inM;have e1:=QB s.cs i hlt
  repeat'((conv=>whnf);first|refine Exists.intro (s) ?_|(intro hq;(try simp only[vw]at hq);try first|exact absurd hq (by decide)|exfalso;omega)|apply aI|with_reducible exact vM rfl|exact⟨⟩|apply nM|apply fM)
  all_goals((try apply vM);(try simp only[vq]at*);try omega)
  refine⟨i+1,[],⟨by omega,by omega⟩,?_⟩
  rw[e1]
  repeat'((conv=>whnf);first|intro _|apply aI|with_reducible exact vM rfl|exact⟨⟩|apply nM|apply fM)
  all_goals((try apply vM);(try simp only[vq]at*);try omega)
  all_goals(rw[hm];exact hor)
 ·have:i=s.cs.length:=by omega
  subst this;rw[ag7];have a1:=Zk h;have a2:=Zl h
  repeat'((conv=>whnf);first|refine Exists.intro (s) ?_|(intro hq;(try simp only[vw]at hq);try first|exact absurd hq (by decide)|exfalso;omega)|apply aI|with_reducible exact vM rfl|exact⟨⟩|apply nM|apply fM)
  all_goals((try apply vM);(try simp only[vq]at*);try omega)
  all_goals(try omega)
  ·rename_i h1
   rw[decide_eq_true (afV.1 h1)]at a1;rw[hq]at a2;have hb:brk c ls sum s=true:=by unfold brk;rw[a1,←a2];rfl
   rw[hb];exact iA _
  ·rename_i h1
   rw[decide_eq_true (afV.1 h1)]at a1;rw[hq]at a2;have hb:brk c ls sum s=ls.any (lbk sum s):=by
    unfold brk;rw[a1,←a2];rfl
   rw[hb];conv=>whnf
   refine aL (X:=Nat) (fun i=>i≤ls.length∧∀j,j<i→lbk sum s (ls.getD j [])=false) (fun i=>[(47,.int .i64 i)]) (fun i=>[]) (fun i=>ls.length-i) 0 ⟨aJ,mixed,ak,Bt,aP⟩ (by rfl) ⟨by omega,fun j hj=>by omega⟩ ?_ ?_
   ·repeat'((conv=>whnf);first|intro _|apply aI|with_reducible exact vM rfl|exact⟨⟩|apply nM|apply fM)
    all_goals((try apply vM);(try simp only[vq]at*);try omega)
   intro i ⟨hi,hok⟩;have nxt:lbk sum s (ls.getD i [])=false→∀j,j<i+1→lbk sum s (ls.getD j [])=false:=fun a j hj=>by
    by_cases e:j=i
    ·subst e;exact a
    ·exact hok j (by omega)
   by_cases hlt:i<ls.length
   ·repeat'((conv=>whnf);first|refine Exists.intro (s) ?_|(intro hq;(try simp only[vw]at hq);try first|exact absurd hq (by decide)|exfalso;omega)|apply aI|with_reducible exact vM rfl|exact⟨⟩|apply nM|apply fM)
    all_goals((try apply vM);(try simp only[vq]at*);try omega)
    ·exact⟨h,by omega,by omega⟩
    ·rename_i h2
     have:ls.any (lbk sum s)=true:=ahC.2 ⟨_,lI hlt,by unfold lbk;rw[decide_eq_true (p:=(opn s (ls.getD i []) (-1)).length=0) (by omega),decide_eq_true hq];rfl⟩
     rw[this];exact iA _
    ·refine⟨i+1,[],⟨⟨by omega,nxt (by unfold lbk;rw[decide_eq_false hq,ahi])⟩,by omega⟩,?_⟩
     repeat'((conv=>whnf);first|intro _|apply aI|with_reducible exact vM rfl|exact⟨⟩|apply nM|apply fM)
     all_goals((try apply vM);(try simp only[vq]at*);try omega)
    ·refine⟨i+1,[],⟨⟨by omega,nxt (by unfold lbk;rw[decide_eq_false (p:=(opn s (ls.getD i []) (-1)).length=0) (by omega),aho])⟩,by omega⟩,?_⟩
     repeat'((conv=>whnf);first|intro _|apply aI|with_reducible exact vM rfl|exact⟨⟩|apply nM|apply fM)
     all_goals((try apply vM);(try simp only[vq]at*);try omega)
   ·have:i=ls.length:=by omega
    subst this;have:ls.any (lbk sum s)=false:=by
     rw[ahD];intro l hl;obtain⟨j,hj,rfl⟩:=afi hl;have:=hok j hj;rw[afe,afj hj]at this;rw[show lbk sum s ls[j]=false from this];simp
    rw[this]
    repeat'((conv=>whnf);first|refine Exists.intro (s) ?_|(intro hq;(try simp only[vw]at hq);try first|exact absurd hq (by decide)|exfalso;omega)|apply aI|with_reducible exact vM rfl|exact⟨⟩|apply nM|apply fM)
    all_goals((try apply vM);(try simp only[vq]at*);try omega)
    exact iA _
  ·rw[decide_eq_false hq]at a1
   have hb:brk c ls sum s=true:=by unfold brk;rw[a1];rfl
   rw[hb];exact iA _
def qH (f:Int→List (List Int)→Int→St→Bool):PSp:=fun xs K=>match xs with
 | [.ip (.pv [.int .i64 c,.isl (.rows .i64 ls) .none,.int .i64 sum,.isl (.ints .i64 gv) .none,.isl (.ints .u32 M) .none,.isl (.bools D) .none]) 0]=>∃s:St,VC (M=ms s.cs∧D=s.ds∧bg c ls sum s)∧K (.bp (f c ls sum s))
 |_=>False
theorem Ko {g:Nat} {f:Int→List (List Int)→Int→St→Bool} (hf:∀(c:Int) (ls:List (List Int)) (sum:Int) (gv:List Int) (s:St) (h:bg c ls sum s),aF Tryz.prog g [bdV c ls sum gv s] (.bp (f c ls sum s))):POK Tryz.prog g (qH f):=by
 intro xs K hk;unfold qH at hk;split at hk
 ·obtain⟨s,⟨rfl,rfl,h⟩,hk⟩:=hk
  exact⟨_,hk,hf _ _ _ _ s h⟩
 ·exact hk.elim
theorem CX:POK Tryz.prog 90 (qH brk):=Ko fun c ls sum gv s h=>Jo c ls sum gv s h
noncomputable def aeg:CPT:=aA 152 (aB Nl) noC
theorem Zm:aZ Tryz.prog aeg:=aj (au YW) aD
theorem QC (c:Int) (ls:List (List Int)) (sum:Int) (gv:List Int) (s:St) (h:bg c ls sum s):aF Tryz.prog 91 [bdV c ls sum gv s] (.bp (don s)):=by
 have hc:=h.c1;have hdl:=h.dl;unfold don;refine av (md:=1) (rf:=[]) mixed ak Zm Tryz.func91 (by rfl) (by rfl) (by rfl) ?_
 repeat'((conv=>whnf);first|refine Exists.intro (s) ?_|(intro hq;(try simp only[vw]at hq);try first|exact absurd hq (by decide)|exfalso;omega)|apply aI|with_reducible exact vM rfl|exact⟨⟩|apply nM|apply fM)
 all_goals((try apply vM);(try simp only[vq]at*);try omega)
 exact Sup.of (congrArg (fun f=>PV.bp (!s.ds.any f)) (funext fun b=>by cases b<;>rfl))
theorem Kq:POK Tryz.prog 91 (qH fun _ _ _ s=>don s):=Ko fun c ls sum gv s h=>QC c ls sum gv s h
theorem QD (l:List Bool) (hl:1≤l.length∧l.length≤1000000):aF Tryz.prog 147 [.isl (.bools l) .none] (.isl (.bools l) .none):=by
 refine av (md:=1) (rf:=[]) mixed ak aD Tryz.func147 (by rfl) (by rfl) (by rfl) ?_
 repeat'((conv=>whnf);first|intro _|apply aI|with_reducible exact vM rfl|exact⟨⟩|apply nM|apply fM)
 all_goals((try apply vM);(try simp only[vq]at*);try omega)
 all_goals first|(simp;omega)|exact Sup.of rfl
def NS:PSp:=fun xs K=>match xs with
 | [.isl (.bools l) .none]=>VC (1≤l.length∧l.length≤1000000)∧K (.isl (.bools l) .none)
 |_=>False
theorem Zn:POK Tryz.prog 147 NS:=by
 intro xs K h;unfold NS at h;split at h
 ·exact⟨_,h.2,QD _ h.1.get⟩
 ·exact h.elim
noncomputable def aeh:CPT:=aA 147 (aB NS) (aA 148 (aB Np) (aA 149 (aB Ab) noC))
theorem Kr:aZ Tryz.prog aeh:=aj (au Zn) (aj (au YZ) (aj (au Bn) aD))
abbrev stV (s:St):PV:=.agg [.isl (.rows .i64 s.cs) .none,.isl (.bools s.ds) .none]
theorem NT (c:Int) (ls:List (List Int)) (sum:Int) (gv:List Int) (s:St) (h:bg c ls sum s):aF Tryz.prog 87 [bdV c ls sum gv s] (stV s):=by
 have hc:=h.c1;have hcl:=h.cl;have hdl:=h.dl;have hlen:=dN s.cs;refine av (md:=1) (rf:=[]) mixed ak Kr Tryz.func87 (by rfl) (by rfl) (by rfl) ?_
 repeat'((conv=>whnf);first|intro _|apply aI|with_reducible exact vM rfl|exact⟨⟩|apply nM|apply fM)
 all_goals((try apply vM);(try simp only[vq]at*);try omega)
 conv=>whnf
 refine aL (X:=Nat) (fun i=>i≤s.cs.length) (fun i=>[(17,.int .i64 i)]) (fun i=>[(5,.cells (.pv [.isl (.rows .i64 (s.cs.take i)) (.own 9),.isl (.bools s.ds) .none]) false),(9,.tok 1 i)]) (fun i=>s.cs.length-i) 0 ⟨aJ,mixed,ak,Kr,aP⟩ (by rfl) (by omega) ?_ ?_
 ·repeat'((conv=>whnf);first|intro _|apply aI|with_reducible exact vM rfl|exact⟨⟩|apply nM|apply fM)
  all_goals((try apply vM);(try simp only[vq]at*);try omega)
 intro i hi;by_cases hlt:i<s.cs.length
 ·have hm:(ms s.cs).getD i 0=(mk (s.cd i):Nat):=fK hlt
  have hA:=(h.asc _ hlt).1;have e1:(s.cs.take i).length=i:=by rw[afR];omega
  have e2:s.cs.take i++[s.cd i]=s.cs.take (i+1):=by
   unfold St.cd;rw[ag5,afe,afj hlt];rfl
  repeat'((conv=>whnf);first|refine Exists.intro (s.cd i) ?_|(intro hq;(try simp only[vw]at hq);try first|exact absurd hq (by decide)|exfalso;omega)|apply aI|with_reducible exact vM rfl|exact⟨⟩|apply nM|apply fM)
  all_goals((try apply vM);(try simp only[vq]at*);try omega)
  all_goals(try(simp only[agl,afR,aeZ,aeV];omega))
  ·exact⟨hm,hA⟩
  refine⟨i+1,[],⟨by omega,by omega⟩,?_⟩
  repeat'((conv=>whnf);first|intro _|apply aI|with_reducible exact vM rfl|exact⟨⟩|apply nM|apply fM)
  all_goals((try apply vM);(try simp only[vq]at*);try omega)
  all_goals(try(rw[e2]))
 ·have:i=s.cs.length:=by omega
  subst this;rw[ag7]
  repeat'((conv=>whnf);first|intro _|apply aI|with_reducible exact vM rfl|exact⟨⟩|apply nM|apply fM)
  all_goals((try apply vM);(try simp only[vq]at*);try omega)
  exact Sup.of rfl
def Gl:PSp:=fun xs K=>match xs with
 | [.ip (.pv [.int .i64 c,.isl (.rows .i64 ls) .none,.int .i64 sum,.isl (.ints .i64 gv) .none,.isl (.ints .u32 M) .none,.isl (.bools D) .none]) 0]=>∃s:St,VC (M=ms s.cs∧D=s.ds∧bg c ls sum s)∧K (stV s)
 |_=>False
theorem Tp:POK Tryz.prog 87 Gl:=by
 intro xs K hk;unfold Gl at hk;split at hk
 ·obtain⟨s,⟨rfl,rfl,h⟩,hk⟩:=hk
  exact⟨_,hk,NT _ _ _ _ s h⟩
 ·exact hk.elim
abbrev tN:ByteArray:=⟨#[]⟩
abbrev bJ:ByteArray:=⟨#[108,97,115,116]⟩
abbrev bS:ByteArray:=⟨#[111,110,108,121]⟩
abbrev bT:ByteArray:=⟨#[112,108,97,99,101]⟩
abbrev bP:ByteArray:=⟨#[114,97,110,103,101]⟩
abbrev bQ:ByteArray:=⟨#[99,104,111,105,99,101]⟩
abbrev kF (k:Nat):PV:=.fn (.func k) [] []
abbrev Tq:PV:=.agg [.str tN,.bool false,.bool false,.nilf,.str bJ,.bool true,.bool true,kF 172,.str bS,.bool true,.bool false,kF 173,.str bT,.bool true,.bool false,kF 174,.str bP,.bool false,.bool true,kF 175,.str bQ,.bool false,.bool true,kF 176]
theorem NU:aF Tryz.prog 130 [] Tq:=by
 refine av (md:=1) (rf:=[]) mixed ak aD Tryz.func130 (by rfl) (by rfl) (by rfl) ?_
 repeat'((conv=>whnf);first|intro _|apply aI|with_reducible exact vM rfl|exact⟨⟩|apply nM|apply fM)
 all_goals((try apply vM);(try simp only[vq]at*);try omega)
 all_goals exact Sup.of (show(Tq:PV)=_ from rfl)
def pW:PSp:=fun xs K=>match xs with
 | []=>VC (True)∧K (Tq)
 |_=>False
theorem pX:POK Tryz.prog 130 pW:=by
 intro xs K h;unfold pW at h;split at h
 ·exact⟨_,h.2,NU⟩
 ·exact h.elim
def bF (r:ByteArray):Int:=if r=bJ then 1 else if r=bS then 2 else if r=bT then 3 else if r=bP then 4 else if r=bQ then 5 else 0
noncomputable def aei:CPT:=aA 130 (aB pW) noC
theorem Kt:aZ Tryz.prog aei:=aj (au pX) aD
def nmG:Nat→ByteArray
 |1=>bJ
 |2=>bS
 |3=>bT
 |4=>bP
 |5=>bQ
 |_=>tN
theorem qI:bF (nmG 1)=1∧bF (nmG 2)=2∧bF (nmG 3)=3∧bF (nmG 4)=4∧bF (nmG 5)=5:=by decide
theorem Zo {r:ByteArray} (h:∀j,0<j→j<6→nmG j≠r):bF r=0:=by
 unfold bF;rw[if_neg (fun e=>h 1 (by omega) (by omega) e.symm),if_neg (fun e=>h 2 (by omega) (by omega) e.symm),if_neg (fun e=>h 3 (by omega) (by omega) e.symm),if_neg (fun e=>h 4 (by omega) (by omega) e.symm),if_neg (fun e=>h 5 (by omega) (by omega) e.symm)]
theorem tQ (r:ByteArray):(r=bJ∧bF r=1)∨(r=bS∧bF r=2)∨(r=bT∧bF r=3)∨(r=bP∧bF r=4)∨(r=bQ∧bF r=5)∨bF r=0:=by
 by_cases h1:r=bJ
 ·subst h1;exact .inl ⟨rfl,qI.1⟩
 by_cases h2:r=bS
 ·subst h2;exact .inr (.inl ⟨rfl,qI.2.1⟩)
 by_cases h3:r=bT
 ·subst h3;exact .inr (.inr (.inl ⟨rfl,qI.2.2.1⟩))
 by_cases h4:r=bP
 ·subst h4;exact .inr (.inr (.inr (.inl ⟨rfl,qI.2.2.2.1⟩)))
 by_cases h5:r=bQ
 ·subst h5;exact .inr (.inr (.inr (.inr (.inl ⟨rfl,qI.2.2.2.2⟩))))
 refine .inr (.inr (.inr (.inr (.inr ?_))));unfold bF;rw[if_neg h1,if_neg h2,if_neg h3,if_neg h4,if_neg h5]
theorem NV (r:ByteArray):aF Tryz.prog 101 [.str r] (.int .i64 (bF r)):=by
 have hs:Ei.size=4:=rfl;have hn:=qI;refine av (md:=1) (rf:=[]) mixed ak Kt Tryz.func101 (by rfl) (by rfl) (by rfl) ?_
 repeat'((conv=>whnf);first|intro _|apply aI|with_reducible exact vM rfl|exact⟨⟩|apply nM|apply fM)
 all_goals((try apply vM);(try simp only[vq]at*);try omega)
 conv=>whnf
 refine aL (X:=Nat) (fun i=>i≤6∧∀j,0<j→j<i→nmG j≠r) (fun i=>[(6,.int .i64 i)]) (fun i=>[]) (fun i=>6-i) 0 ⟨aJ,mixed,ak,Kt,aP⟩ (by rfl) ⟨by omega,fun j h0 hj=>by omega⟩ ?_ ?_
 ·repeat'((conv=>whnf);first|intro _|apply aI|with_reducible exact vM rfl|exact⟨⟩|apply nM|apply fM)
  all_goals((try apply vM);(try simp only[vq]at*);try omega)
 intro i ⟨hi,hok⟩;obtain rfl|rfl|rfl|rfl|rfl|rfl|rfl:i=0∨i=1∨i=2∨i=3∨i=4∨i=5∨i=6:=by omega
 ·repeat'((conv=>whnf);first|(intro hq;(try simp only[vw]at hq);try first|exact absurd hq (by decide)|exfalso;omega)|apply aI|with_reducible exact vM rfl|exact⟨⟩|apply nM|apply fM)
  all_goals((try apply vM);(try simp only[vq]at*);try omega)
  all_goals(try omega)
  refine⟨0+1,[],⟨⟨by omega,fun j h0 hj=>by omega⟩,by omega⟩,?_⟩
  repeat'((conv=>whnf);first|intro _|apply aI|with_reducible exact vM rfl|exact⟨⟩|apply nM|apply fM)
  all_goals((try apply vM);(try simp only[vq]at*);try omega)
 ·repeat'((conv=>whnf);first|(intro hq;(try simp only[vw]at hq);try first|exact absurd hq (by decide)|exfalso;omega)|apply aI|with_reducible exact vM rfl|exact⟨⟩|apply nM|apply fM)
  all_goals((try apply vM);(try simp only[vq]at*);try omega)
  all_goals(try omega)
  ·subst hq
   refine Sup.of (congrArg (PV.int .i64) ?_);exact(hn.1:bF (nmG 1)=1).symm
  refine⟨1+1,[],⟨⟨by omega,fun j h0 hj=>?_⟩,by omega⟩,?_⟩
  ·by_cases e:j=1
   ·subst e;exact hq
   ·exact hok j h0 (by omega)
  repeat'((conv=>whnf);first|intro _|apply aI|with_reducible exact vM rfl|exact⟨⟩|apply nM|apply fM)
  all_goals((try apply vM);(try simp only[vq]at*);try omega)
 ·repeat'((conv=>whnf);first|(intro hq;(try simp only[vw]at hq);try first|exact absurd hq (by decide)|exfalso;omega)|apply aI|with_reducible exact vM rfl|exact⟨⟩|apply nM|apply fM)
  all_goals((try apply vM);(try simp only[vq]at*);try omega)
  all_goals(try omega)
  ·subst hq
   refine Sup.of (congrArg (PV.int .i64) ?_);exact(hn.2.1:bF (nmG 2)=2).symm
  refine⟨2+1,[],⟨⟨by omega,fun j h0 hj=>?_⟩,by omega⟩,?_⟩
  ·by_cases e:j=2
   ·subst e;exact hq
   ·exact hok j h0 (by omega)
  repeat'((conv=>whnf);first|intro _|apply aI|with_reducible exact vM rfl|exact⟨⟩|apply nM|apply fM)
  all_goals((try apply vM);(try simp only[vq]at*);try omega)
 ·repeat'((conv=>whnf);first|(intro hq;(try simp only[vw]at hq);try first|exact absurd hq (by decide)|exfalso;omega)|apply aI|with_reducible exact vM rfl|exact⟨⟩|apply nM|apply fM)
  all_goals((try apply vM);(try simp only[vq]at*);try omega)
  all_goals(try omega)
  ·subst hq
   refine Sup.of (congrArg (PV.int .i64) ?_);exact(hn.2.2.1:bF (nmG 3)=3).symm
  refine⟨3+1,[],⟨⟨by omega,fun j h0 hj=>?_⟩,by omega⟩,?_⟩
  ·by_cases e:j=3
   ·subst e;exact hq
   ·exact hok j h0 (by omega)
  repeat'((conv=>whnf);first|intro _|apply aI|with_reducible exact vM rfl|exact⟨⟩|apply nM|apply fM)
  all_goals((try apply vM);(try simp only[vq]at*);try omega)
 ·repeat'((conv=>whnf);first|(intro hq;(try simp only[vw]at hq);try first|exact absurd hq (by decide)|exfalso;omega)|apply aI|with_reducible exact vM rfl|exact⟨⟩|apply nM|apply fM)
  all_goals((try apply vM);(try simp only[vq]at*);try omega)
  all_goals(try omega)
  ·subst hq
   refine Sup.of (congrArg (PV.int .i64) ?_);exact(hn.2.2.2.1:bF (nmG 4)=4).symm
  refine⟨4+1,[],⟨⟨by omega,fun j h0 hj=>?_⟩,by omega⟩,?_⟩
  ·by_cases e:j=4
   ·subst e;exact hq
   ·exact hok j h0 (by omega)
  repeat'((conv=>whnf);first|intro _|apply aI|with_reducible exact vM rfl|exact⟨⟩|apply nM|apply fM)
  all_goals((try apply vM);(try simp only[vq]at*);try omega)
 ·repeat'((conv=>whnf);first|(intro hq;(try simp only[vw]at hq);try first|exact absurd hq (by decide)|exfalso;omega)|apply aI|with_reducible exact vM rfl|exact⟨⟩|apply nM|apply fM)
  all_goals((try apply vM);(try simp only[vq]at*);try omega)
  all_goals(try omega)
  ·subst hq
   refine Sup.of (congrArg (PV.int .i64) ?_);exact(hn.2.2.2.2:bF (nmG 5)=5).symm
  refine⟨5+1,[],⟨⟨by omega,fun j h0 hj=>?_⟩,by omega⟩,?_⟩
  ·by_cases e:j=5
   ·subst e;exact hq
   ·exact hok j h0 (by omega)
  repeat'((conv=>whnf);first|intro _|apply aI|with_reducible exact vM rfl|exact⟨⟩|apply nM|apply fM)
  all_goals((try apply vM);(try simp only[vq]at*);try omega)
 ·rw[Zo hok]
  repeat'((conv=>whnf);first|(intro hq;(try simp only[vw]at hq);try first|exact absurd hq (by decide)|exfalso;omega)|apply aI|with_reducible exact vM rfl|exact⟨⟩|apply nM|apply fM)
  all_goals((try apply vM);(try simp only[vq]at*);try omega)
  exact Sup.of rfl
end Go.Eng.YtcechbdgokjmgaaGreatDoor
