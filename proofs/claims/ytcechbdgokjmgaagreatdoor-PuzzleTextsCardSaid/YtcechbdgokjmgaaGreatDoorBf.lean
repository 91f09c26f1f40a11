/- The base of the claims of this seat: an engine that walks through functions with symbolic values, its soundness, and contracts of the functions that every law calls. Conditions stand in the contracts. -/
import Derived.Shelf.Strings.BuilderF
import Derived.Test.YtcechbdgokjmgaaGreatDoorBe
open Array renaming length_toList→aeO,getElem?_modify→aeh
open Bool renaming false_or→agE,true_or→agF,true_and→agO,false_and→agn,or_eq_true→afs,and_eq_true→aeA,not_eq_true'→ag8
open Classical renaming not_not→ae2
open Int renaming toNat→agt,toNat_zero→ahk
open List renaming range→ael,range_succ→ag0,all_eq_true→afI,mem_range→afY,mem_of_mem_take→agG,take_length→af5,length_take→ae0,take_add_one→af3,getD_eq_getElem?_getD→aeo,getElem?_eq_getElem→aev,map_append→af4,length_append→afu,length_cons→ad4,length_nil→adY,mem_singleton→agL,length_set→aeP,length_map→af0,getElem?_set→aeN,getElem?_map→ae7,take→agH,drop→agI,length_filter_le→agM,length_range→ahf,getElem?_eq_some_iff→afS,drop_length→ahg,foldl_append→agq,all_eq_false→ahh,getElem_of_mem→aeu,filter_append→ag2,ext_getElem→agW,mem_append→aep,drop_zero→agJ,mergeSort_perm→ahi,mem_map→agQ,replicate→aez,length_replicate→ahj,append_nil→agN,splitAt→ahl
open Nat renaming not_lt_zero→ahd,lt_succ_iff_lt_or_eq→ahe,min_eq_left→aeU,le_refl→aea,sub_zero→agK,beq→aew,eq_of_beq_eq_true→aeB
namespace Go.Eng.YtcechbdgokjmgaaGreatDoor
open Go.Proofs
set_option linter.unusedSimpArgs false
set_option linter.unusedVariables false
set_option maxHeartbeats 0
set_option maxRecDepth 100000
def upB (l:List Int) (i:Nat):Bool:=(ael i).all fun k=>decide (k=0∨l.getD (k-1) 0<l.getD k 0)
theorem Sn (l:List Int) (i:Nat):upB l (i+1)=(upB l i&&decide (i=0∨l.getD (i-1) 0<l.getD i 0)):=by
 unfold upB;rw[ag0,List.all_append];simp
theorem aa9 {l:List Int} (h:upB l l.length=true):l.Pairwise (·< ·):=by
 refine qo fun k h0 h1=>?_;unfold upB at h;rw[afI]at h;have:=h k (afY.2 h1);rw[decide_eq_true_eq]at this;omega
def kL (n:Int) (l:List Int) (d:Bool):Int:=if l.any (jI 1 n)then 3 else if !upB l l.length then 11 else if d&&decide (l.length≠1)then 29 else 0
theorem PU (n x:Int):aF Tryz.prog 216 ([]++[.int .i64 x]++[.ip (.pv [.int .i64 n]) 0]) (.bp (jI 1 n x)):=by
 unfold jI;refine av (md:=1) (rf:=[]) mixed ak aD Tryz.func216 (by rfl) (by rfl) (by rfl) ?_
 repeat'((conv=>whnf);first|(intro hq;(try simp only[vw]at hq);try first|exact absurd hq (by decide)|exfalso;omega)|apply aI|with_reducible exact vM rfl|exact⟨⟩|apply nM|apply fM)
 all_goals((try apply vM);(try simp only[vq]at*);try omega)
 ·rw[decide_eq_false hq,agE];exact Sup.of rfl
 ·rw[decide_eq_true hq,agF];exact dK true
noncomputable def adg:CPT:=aA 215 (uy Dw) (aA 88 (aB fZ) (aA 89 (aB eO) noC))
theorem JL:aW Tryz.prog adg:=aj (uz Jk) (aj (au fA) (aj (au eY) aD))
theorem Sq (l:List Int) (hl:l.length≤5000) (d:Bool) (n:Int):aF Tryz.prog 178 [.isl (.ints .i64 l) .none,.bp d,.int .i64 n] (.int .i64 (kL n l d)):=by
 refine av (md:=1) (rf:=[]) mixed ak JL Tryz.func178 (by rfl) (by rfl) (by rfl) ?_
 repeat'((conv=>whnf);first|(intro hq;(try simp only[vw]at hq);try first|exact absurd hq (by decide)|exfalso;omega)|apply aI|with_reducible exact vM rfl|exact⟨⟩|apply nM|apply fM)
 all_goals((try apply vM);(try simp only[vq]at*);try omega)
 ·exact⟨by omega,rfl,rfl⟩
 refine⟨jI 1 n,fun x _=>PU n x,?_⟩
 repeat'((conv=>whnf);first|(intro hq;(try simp only[vw]at hq);try first|exact absurd hq (by decide)|exfalso;omega)|apply aI|with_reducible exact vM rfl|exact⟨⟩|apply nM|apply fM)
 all_goals((try apply vM);(try simp only[vq]at*);try omega)
 conv=>whnf
 refine aM (X:=Nat) (fun i=>1≤i∧(i≤l.length∨i=1)) (fun i=>[(9,.int .i64 (i:Int)),(8,.bp (upB l i))]) (fun i=>[]) (fun i=>l.length-i) 1 ⟨aK,mixed,ak,JL,aQ⟩ (by rfl) (by omega) ?_ ?_
 ·repeat'((conv=>whnf);first|intro _|apply aI|with_reducible exact vM rfl|exact⟨⟩|apply nM|apply fM)
  all_goals((try apply vM);(try simp only[vq]at*);try omega)
  all_goals skip
 intro i ⟨hi1,hi2⟩;by_cases hlt:i<l.length
 ·have hu:=Sn l i
  rw[show decide (i=0∨l.getD (i-1) 0<l.getD i 0)=decide (l.getD (i-1) 0<l.getD i 0)from decide_eq_decide.2 ⟨fun e=>by omega,.inr⟩]at hu
  have et:((i:Int)-1).toNat=i-1:=by omega
  repeat'((conv=>whnf);first|(intro hq;(try simp only[vw]at hq);try first|exact absurd hq (by decide)|exfalso;omega)|apply aI|with_reducible exact vM rfl|exact⟨⟩|apply nM|apply fM)
  all_goals((try apply vM);(try simp only[vq]at*);try omega)
  all_goals(try omega)
  ·refine⟨i+1,[],⟨⟨by omega,by omega⟩,by omega⟩,?_⟩
   rw[hu,hq,agO]
   repeat'((conv=>whnf);first|intro _|apply aI|with_reducible exact vM rfl|exact⟨⟩|apply nM|apply fM)
   all_goals((try apply vM);(try simp only[vq]at*);try omega)
   all_goals(try rw[et])
  ·refine⟨i+1,[],⟨⟨by omega,by omega⟩,by omega⟩,?_⟩
   rw[hu,hq,agn]
   repeat'((conv=>whnf);first|intro _|apply aI|with_reducible exact vM rfl|exact⟨⟩|apply nM|apply fM)
   all_goals((try apply vM);(try simp only[vq]at*);try omega)
 ·have hue:upB l i=upB l l.length:=by
   rcases hi2 with h2|h2
   ·rw[show i=l.length by omega]
   ·subst h2
    have:l.length=0∨l.length=1:=by omega
    rcases this with h3|h3<;>rw[h3]<;>rfl
  rw[hue]
  repeat'((conv=>whnf);first|(intro hq;(try simp only[vw]at hq);try first|exact absurd hq (by decide)|exfalso;omega)|apply aI|with_reducible exact vM rfl|exact⟨⟩|apply nM|apply fM)
  all_goals((try apply vM);(try simp only[vq]at*);try omega)
  all_goals(
   refine Sup.of (congrArg (PV.int .i64) ?_);unfold kL;rw[hq];cases l.any (jI 1 n)<;>cases upB l l.length<;>by_cases h1:l.length=1<;>simp[aG,h1]
   try omega)
def Sr:PSp:=fun xs K=>match xs with
 | [.isl (.ints .i64 l) .none,.bp d,.int .i64 n]=>VC (l.length≤5000)∧K (.int .i64 (kL n l d))
 |_=>False
theorem abb:POK Tryz.prog 178 Sr:=by
 intro xs K h;unfold Sr at h;split at h
 ·exact⟨_,h.2,Sq _ h.1.get _ _⟩
 ·exact h.elim
theorem sG {n:Int} {l:List Int} {d:Bool} (h:kL n l d=0) (hn:n≤16):(Asc l∧∀x∈l,x≤n)∧(d=true→l.length=1):=by
 unfold kL at h;have h1:l.any (jI 1 n)=false:=by
  cases e:l.any (jI 1 n)with
  |false=>rfl
  |true=>rw[if_pos e]at h;cases h
 rw[if_neg (by rw[h1];simp)]at h
 have h2:upB l l.length=true:=by
  cases e:upB l l.length with
  |true=>rfl
  |false=>rw[if_pos (by rw[e];rfl)]at h;cases h
 rw[if_neg (by rw[h2];simp)]at h
 have hr:∀x∈l,1≤x∧x≤n:=fun x hx=>by
  have:=List.any_eq_false.1 h1 x hx;unfold jI at this;simp only[afs,decide_eq_true_eq,not_or]at this;omega
 refine⟨⟨⟨aa9 h2,fun x hx=>by have:=hr x hx;omega⟩,fun x hx=>(hr x hx).2⟩,fun hd=>?_⟩
 by_cases e:l.length=1
 ·exact e
 ·rw[if_pos (by rw[hd];simp[e])]at h;cases h
theorem MO (l:List Bool) (hl:1≤l.length∧l.length≤1000000):gL Tryz.prog 147 [.isl (.bools l) .none] [] [.rsl 0 0 l.length] [.cells (.bools l) false]:=by
 refine bG (md:=1) (rf:=[7]) mixed ak aD 0 [(1,0)] Tryz.func147 (by rfl) (by rfl) (by rfl) ?_
 repeat'((conv=>whnf);first|(intro hq;(try simp only[vw]at hq);try first|exact absurd hq (by decide)|exfalso;omega)|apply aI|with_reducible exact vM rfl|exact⟨⟩|apply nM|apply fM)
 all_goals((try apply vM);(try simp only[vq]at*);try omega)
 all_goals skip
def MP:LSp:=fun xs objs K=>match xs,objs with
 | [.isl (.bools l) .none],[]=>VC (1≤l.length∧l.length≤1000000)∧K [.rsl 0 0 l.length] [.cells (.bools l) false]
 |_,_=>False
theorem Sv:LOK Tryz.prog 147 MP:=by
 intro xs objs K hk;unfold MP at hk;split at hk
 ·exact⟨_,_,hk.2,MO _ hk.1.get⟩
 ·exact hk.elim
def dx (c:Int) (ls:List (List Int)) (sum:Int) (gv:List Int) (s:St):Int:=
 if aG [pzE c ls sum gv,if(s.cs.length:Int)≠c∨(s.ds.length:Int)≠c then 2 else 0]≠0 then aG [pzE c ls sum gv,if(s.cs.length:Int)≠c∨(s.ds.length:Int)≠c then 2 else 0]else cO (fun i=>kL c (s.cd i) (s.dc i)) s.cs.length
theorem kM {c:Int} {ls:List (List Int)} {sum:Int} {gv:List Int} {s:St} (h:dx c ls sum gv s=0):dR c ls sum gv∧bO c ls sum s:=by
 unfold dx at h;by_cases h0:aG [pzE c ls sum gv,if(s.cs.length:Int)≠c∨(s.ds.length:Int)≠c then 2 else 0]=0
 ·rw[if_neg (by rw[h0];simp)]at h
  obtain⟨a1,a2⟩:=mh h0;have hp:=dR.of a1;have hc:=hp.c1;have hl:¬((s.cs.length:Int)≠c∨(s.ds.length:Int)≠c):=fun e=>by rw[if_pos e]at a2;cases a2
  have hf:=fP h;exact⟨hp,hc,hp.ll,hp.ln,hp.sm,by omega,by omega,fun i hi=>(sG (hf i hi) hc.2).1,fun i hi=>(sG (hf i hi) hc.2).2⟩
 ·rw[if_pos h0]at h;exact absurd h h0
noncomputable def adh:CPT:=aA 22 (aB kC) (aA 88 (aB fZ) (aA 89 (aB eO) (aA 147 (dP [] MP) (aA 178 (aB Sr) noC))))
theorem jV:aW Tryz.prog adh:=aj (au jJ) (aj (au fA) (aj (au eY) (aj (cu [] Sv) (aj (au abb) aD))))
structure StS (s:St):Prop where
 cl:s.cs.length≤5000
 dl:s.ds.length≤5000
 ll:∀i,(s.cd i).length≤5000
theorem JM {c:Int} {ls:List (List Int)} {sum:Int} {gv:List Int} {s:St} (h1:(s.cs.length:Int)=c) (h2:(s.ds.length:Int)=c) (h3:pzE c ls sum gv=0):dx c ls sum gv s=cO (fun i=>kL c (s.cd i) (s.dc i)) s.cs.length:=by
 have:aG [pzE c ls sum gv,if(s.cs.length:Int)≠c∨(s.ds.length:Int)≠c then 2 else 0]=0:=by
  rw[h3,if_neg (by omega)];rfl
 unfold dx;rw[this,if_neg (by simp)]
theorem PW {c:Int} {ls:List (List Int)} {sum:Int} {gv:List Int} {s:St} (x:Int) (h:aG [pzE c ls sum gv,x]≠0) (hx:x=if(s.cs.length:Int)≠c∨(s.ds.length:Int)≠c then 2 else 0):dx c ls sum gv s=aG [pzE c ls sum gv,x]:=by
 unfold dx;rw[←hx,if_pos h]
theorem PX (c:Int) (ls:List (List Int)) (sum:Int) (gv:List Int) (s:St) (h:bH ls) (hg:gv.length≤5000) (hs:StS s) (h1:(s.cs.length:Int)=c) (h2:(s.ds.length:Int)=c) (h3:pzE c ls sum gv=0) (he:dx c ls sum gv s=0):
 gL Tryz.prog 132 [pzV c ls sum gv,stV s] [] [.rp 0 0,.int .i64 0] (bdO c ls sum gv s s.cs.length):=by
 have hp:=dR.of h3;have hc:=hp.c1;refine bG (md:=1) (rf:=[81]) mixed ak jV 0 [(19,0),(30,1),(15,2)] Tryz.func132 (by rfl) (by rfl) (by rfl) ?_
 repeat'((conv=>whnf);first|(intro hq;(try simp only[vw]at hq);try first|exact absurd hq (by decide)|exfalso;omega)|apply aI|with_reducible exact vM rfl|exact⟨⟩|apply nM|apply fM)
 all_goals((try apply vM);(try simp only[vq]at*);try omega)
 all_goals(try first|exact⟨h,hg⟩|(exfalso;rw[h3,if_neg (by omega)]at hq;exact hq rfl))
 conv=>whnf
 have hF:=fP (n:=s.cs.length) (JM h1 h2 h3▸he);have hllen:∀i,(s.cs.getD i []).length≤5000:=hs.ll;have hmz:mk []=0:=rfl;have hS:=(kM he).2;refine xw (X:=Nat) (fun i=>1≤i∧i≤s.cs.length) (fun i=>[(47,.int .i64 i)]) (fun i=>[(19,.cells (.pv [.int .i64 c,.isl (.rows .i64 ls) .none,.int .i64 sum,.isl (.ints .i64 gv) .none,.rsl 30 0 i,.rsl 15 0 s.cs.length]) false),(30,.cells (.ints .u32 (ms (s.cs.take i))) false)]) (fun i=>s.cs.length-i) s.cs.length ⟨aK,mixed,ak,jV,aQ⟩ (by rfl) ?_ ?_
 ·have hok:kL c (s.cs.getD (agt 0) []) (s.ds.getD (agt 0) false)=0:=hF 0 (by omega)
  have hA:Asc (s.cs.getD (agt 0) []):=(hS.asc 0 (by omega)).1
  have hl0:=hllen (agt 0)
  repeat'((conv=>whnf);first|(intro hq;(try simp only[vw]at hq);try first|exact absurd hq (by decide)|exfalso;omega)|apply aI|with_reducible exact vM rfl|exact⟨⟩|apply nM|apply fM)
  all_goals((try apply vM);(try simp only[vq]at*);try omega)
  all_goals(try first|exact hl0|(exfalso;exact hq hok))
  conv=>whnf
  refine aM (X:=Nat) (fun k=>k≤(s.cs.getD (agt 0) []).length) (fun k=>[(65,.int .i64 k),(12,.int .u32 (mk ((s.cs.getD (agt 0) []).take k):Nat))]) (fun k=>[]) (fun k=>(s.cs.getD (agt 0) []).length-k) 0 ⟨aK,mixed,ak,jV,aQ⟩ (by rfl) (by omega) ?_ ?_
  ·repeat'((conv=>whnf);first|intro _|apply aI|with_reducible exact vM rfl|exact⟨⟩|apply nM|apply fM)
   all_goals((try apply vM);(try simp only[vq]at*);try omega)
   all_goals rfl
  intro k hk;by_cases hlt:k<(s.cs.getD (agt 0) []).length
  ·have hx:=hA.rng _ (bL hlt)
   have hsb:=gQ ((s.cs.getD (agt 0) []).getD k 0).toNat (by omega)
   have hor:=rQ (l:=(s.cs.getD (agt 0) []).take k) (x:=(s.cs.getD (agt 0) []).getD k 0) (fun z hz=>hA.inM z (agG hz)) (by omega)
   rw[←dF hlt]at hor
   repeat'((conv=>whnf);first|(intro hq;(try simp only[vw]at hq);try first|exact absurd hq (by decide)|exfalso;omega)|apply aI|with_reducible exact vM rfl|exact⟨⟩|apply nM|apply fM)
   all_goals((try apply vM);(try simp only[vq]at*);try omega)
   all_goals(try omega)
   refine⟨k+1,[],⟨by omega,by omega⟩,?_⟩
   repeat'((conv=>whnf);first|intro _|apply aI|with_reducible exact vM rfl|exact⟨⟩|apply nM|apply fM)
   all_goals((try apply vM);(try simp only[vq]at*);try omega)
   all_goals exact hor
  ·have:k=(s.cs.getD (agt 0) []).length:=by omega
   subst this;rw[af5]
   repeat'((conv=>whnf);first|(intro hq;(try simp only[vw]at hq);try first|exact absurd hq (by decide)|exfalso;omega)|apply aI|with_reducible exact vM rfl|exact⟨⟩|apply nM|apply fM)
   all_goals((try apply vM);(try simp only[vq]at*);try omega)
   all_goals(try omega)
   refine⟨1,[(25,30)],⟨⟨by omega,by omega⟩,by omega⟩,?_⟩
   have e1:ms (s.cs.take 1)=[((mk (s.cs.getD (agt 0) []):Nat):Int)]:=by
    rw[show s.cs.take 1=[s.cs.getD (agt 0) []]from by cases hcs:s.cs with|nil=>rw[hcs]at h1;simp at h1;omega|cons a r=>rfl];rfl
   rw[e1]
   repeat'((conv=>whnf);first|intro _|apply aI|with_reducible exact vM rfl|exact⟨⟩|apply nM|apply fM)
   all_goals((try apply vM);(try simp only[vq]at*);try omega)
 ·intro i ⟨hi1,hi2⟩
  have hml:(ms (s.cs.take i)).length=i:=by rw[bQ,ae0];omega
  by_cases hlti:i<s.cs.length
  ·have hok:kL c (s.cs.getD i []) (s.ds.getD i false)=0:=hF i hlti
   have hA:Asc (s.cs.getD i []):=(hS.asc i hlti).1;have hl0:=hllen i
   repeat'((conv=>whnf);first|(intro hq;(try simp only[vw]at hq);try first|exact absurd hq (by decide)|exfalso;omega)|apply aI|with_reducible exact vM rfl|exact⟨⟩|apply nM|apply fM)
   all_goals((try apply vM);(try simp only[vq]at*);try omega)
   all_goals(try first|exact hl0|(exfalso;exact hq hok))
   conv=>whnf
   refine aM (X:=Nat) (fun k=>k≤(s.cs.getD i []).length) (fun k=>[(65,.int .i64 k),(12,.int .u32 (mk ((s.cs.getD i []).take k):Nat))]) (fun k=>[]) (fun k=>(s.cs.getD i []).length-k) 0 ⟨aK,mixed,ak,jV,aQ⟩ (by rfl) (by omega) ?_ ?_
   ·repeat'((conv=>whnf);first|intro _|apply aI|with_reducible exact vM rfl|exact⟨⟩|apply nM|apply fM)
    all_goals((try apply vM);(try simp only[vq]at*);try omega)
    all_goals rfl
   intro k hk;by_cases hlt:k<(s.cs.getD i []).length
   ·have hx:=hA.rng _ (bL hlt)
    have hsb:=gQ ((s.cs.getD i []).getD k 0).toNat (by omega)
    have hor:=rQ (l:=(s.cs.getD i []).take k) (x:=(s.cs.getD i []).getD k 0) (fun z hz=>hA.inM z (agG hz)) (by omega)
    rw[←dF hlt]at hor
    repeat'((conv=>whnf);first|(intro hq;(try simp only[vw]at hq);try first|exact absurd hq (by decide)|exfalso;omega)|apply aI|with_reducible exact vM rfl|exact⟨⟩|apply nM|apply fM)
    all_goals((try apply vM);(try simp only[vq]at*);try omega)
    all_goals(try omega)
    refine⟨k+1,[],⟨by omega,by omega⟩,?_⟩
    repeat'((conv=>whnf);first|intro _|apply aI|with_reducible exact vM rfl|exact⟨⟩|apply nM|apply fM)
    all_goals((try apply vM);(try simp only[vq]at*);try omega)
    all_goals exact hor
   ·have:k=(s.cs.getD i []).length:=by omega
    subst this;rw[af5]
    repeat'((conv=>whnf);first|(intro hq;(try simp only[vw]at hq);try first|exact absurd hq (by decide)|exfalso;omega)|apply aI|with_reducible exact vM rfl|exact⟨⟩|apply nM|apply fM)
    all_goals((try apply vM);(try simp only[vq]at*);try omega)
    all_goals(try omega)
    refine⟨i+1,[(25,30)],⟨⟨by omega,by omega⟩,by omega⟩,?_⟩
    have e1:ms (s.cs.take (i+1))=ms (s.cs.take i)++[((mk (s.cs.getD i []):Nat):Int)]:=by
     rw[af3,aeo,aev hlti];unfold ms;rw[af4];rfl
    rw[e1]
    repeat'((conv=>whnf);first|intro _|apply aI|with_reducible exact vM rfl|exact⟨⟩|apply nM|apply fM)
    all_goals((try apply vM);(try simp only[vq]at*);try omega)
    all_goals(rw[bP hml])
  ·have:i=s.cs.length:=by omega
   subst this;rw[af5]at*
   repeat'((conv=>whnf);first|(intro hq;(try simp only[vw]at hq);try first|exact absurd hq (by decide)|exfalso;omega)|apply aI|with_reducible exact vM rfl|exact⟨⟩|apply nM|apply fM)
   all_goals((try apply vM);(try simp only[vq]at*);try omega)
   all_goals skip
theorem Yr {c:Int} {ls:List (List Int)} {sum:Int} {gv:List Int} {s:St} (x:Int) (h1:¬((s.cs.length:Int)=c∧(s.ds.length:Int)=c∧pzE c ls sum gv=0)) (hx:x=if(s.cs.length:Int)≠c∨(s.ds.length:Int)≠c then 2 else 0):aG [pzE c ls sum gv,x]≠0:=fun e=>by
 obtain⟨a1,a2⟩:=mh e;rw[hx]at a2;by_cases h:(s.cs.length:Int)≠c∨(s.ds.length:Int)≠c
 ·rw[if_pos h]at a2;cases a2
 ·exact h1 ⟨by omega,by omega,a1⟩
theorem Im (c:Int) (ls:List (List Int)) (sum:Int) (gv:List Int) (s:St) (h:bH ls) (hg:gv.length≤5000) (hs:StS s) (h1:¬((s.cs.length:Int)=c∧(s.ds.length:Int)=c∧pzE c ls sum gv=0)) (he:dx c ls sum gv s≠0):
 gL Tryz.prog 132 [pzV c ls sum gv,stV s] [] [.nilp,.int .i64 (dx c ls sum gv s)] []:=by
 refine bG (md:=1) (rf:=[81]) mixed ak jV 0 [] Tryz.func132 (by rfl) (by rfl) (by rfl) ?_
 repeat'((conv=>whnf);first|(intro hq;(try simp only[vw]at hq);try first|exact absurd hq (by decide)|exfalso;omega)|apply aI|with_reducible exact vM rfl|exact⟨⟩|apply nM|apply fM)
 all_goals((try apply vM);(try simp only[vq]at*);try omega)
 all_goals first|exact⟨h,hg⟩|exact(PW _ hq (by(repeat' split)<;>first|rfl|(exfalso;omega))).symm|(rw[if_pos trivial];exact(PW _ hq (by(repeat' split)<;>first|rfl|(exfalso;omega))).symm)|(exfalso;exact hq (Yr _ h1 (by(repeat' split)<;>first|rfl|(exfalso;omega))))|skip
theorem PY (c:Int) (ls:List (List Int)) (sum:Int) (gv:List Int) (s:St) (h:bH ls) (hg:gv.length≤5000) (hs:StS s) (h1:(s.cs.length:Int)=c) (h2:(s.ds.length:Int)=c) (h3:pzE c ls sum gv=0) (he:dx c ls sum gv s≠0):
 gL Tryz.prog 132 [pzV c ls sum gv,stV s] [] [.nilp,.int .i64 (dx c ls sum gv s)] []:=by
 have hp:=dR.of h3;have hc:=hp.c1;refine bG (md:=1) (rf:=[81]) mixed ak jV 0 [(19,0),(30,1),(15,2)] Tryz.func132 (by rfl) (by rfl) (by rfl) ?_
 repeat'((conv=>whnf);first|(intro hq;(try simp only[vw]at hq);try first|exact absurd hq (by decide)|exfalso;omega)|apply aI|with_reducible exact vM rfl|exact⟨⟩|apply nM|apply fM)
 all_goals((try apply vM);(try simp only[vq]at*);try omega)
 all_goals(try first|exact⟨h,hg⟩|(exfalso;rw[h3,if_neg (by omega)]at hq;exact hq rfl))
 conv=>whnf
 have hR:=JM h1 h2 h3 (ls:=ls) (sum:=sum) (gv:=gv);have fin:∀i,i<s.cs.length→(∀j,j<i→kL c (s.cd j) (s.dc j)=0)→kL c (s.cd i) (s.dc i)≠0→dx c ls sum gv s=kL c (s.cd i) (s.dc i):=fun i hi hj h0=>hR.trans (dY hi h0 hj);have hllen:∀i,(s.cs.getD i []).length≤5000:=hs.ll;have hmz:mk []=0:=rfl;refine xw (X:=Nat) (fun i=>1≤i∧i≤s.cs.length∧∀j,j<i→kL c (s.cd j) (s.dc j)=0) (fun i=>[(47,.int .i64 i)]) (fun i=>[(19,.cells (.pv [.int .i64 c,.isl (.rows .i64 ls) .none,.int .i64 sum,.isl (.ints .i64 gv) .none,.rsl 30 0 i,.rsl 15 0 s.cs.length]) false),(30,.cells (.ints .u32 (ms (s.cs.take i))) false)]) (fun i=>s.cs.length-i) s.cs.length ⟨aK,mixed,ak,jV,aQ⟩ (by rfl) ?_ ?_
 ·by_cases hok:kL c (s.cs.getD (agt 0) []) (s.ds.getD (agt 0) false)=0
  case neg=>
   have hl0:=hllen (agt 0);rw[fin 0 (by omega) (fun j hj=>absurd hj (ahd j)) hok]
   repeat'((conv=>whnf);first|(intro hq;(try simp only[vw]at hq);try first|exact absurd hq (by decide)|exfalso;omega)|apply aI|with_reducible exact vM rfl|exact⟨⟩|apply nM|apply fM)
   all_goals((try apply vM);(try simp only[vq]at*);try omega)
   all_goals first|exact hl0|(exfalso;exact hq hok)|skip
  have hA:Asc (s.cs.getD (agt 0) []):=(sG hok hc.2).1.1;have hl0:=hllen (agt 0)
  repeat'((conv=>whnf);first|(intro hq;(try simp only[vw]at hq);try first|exact absurd hq (by decide)|exfalso;omega)|apply aI|with_reducible exact vM rfl|exact⟨⟩|apply nM|apply fM)
  all_goals((try apply vM);(try simp only[vq]at*);try omega)
  all_goals(try first|exact hl0|(exfalso;exact hq hok))
  conv=>whnf
  refine aM (X:=Nat) (fun k=>k≤(s.cs.getD (agt 0) []).length) (fun k=>[(65,.int .i64 k),(12,.int .u32 (mk ((s.cs.getD (agt 0) []).take k):Nat))]) (fun k=>[]) (fun k=>(s.cs.getD (agt 0) []).length-k) 0 ⟨aK,mixed,ak,jV,aQ⟩ (by rfl) (by omega) ?_ ?_
  ·repeat'((conv=>whnf);first|intro _|apply aI|with_reducible exact vM rfl|exact⟨⟩|apply nM|apply fM)
   all_goals((try apply vM);(try simp only[vq]at*);try omega)
   all_goals rfl
  intro k hk;by_cases hlt:k<(s.cs.getD (agt 0) []).length
  ·have hx:=hA.rng _ (bL hlt)
   have hsb:=gQ ((s.cs.getD (agt 0) []).getD k 0).toNat (by omega)
   have hor:=rQ (l:=(s.cs.getD (agt 0) []).take k) (x:=(s.cs.getD (agt 0) []).getD k 0) (fun z hz=>hA.inM z (agG hz)) (by omega)
   rw[←dF hlt]at hor
   repeat'((conv=>whnf);first|(intro hq;(try simp only[vw]at hq);try first|exact absurd hq (by decide)|exfalso;omega)|apply aI|with_reducible exact vM rfl|exact⟨⟩|apply nM|apply fM)
   all_goals((try apply vM);(try simp only[vq]at*);try omega)
   all_goals(try omega)
   refine⟨k+1,[],⟨by omega,by omega⟩,?_⟩
   repeat'((conv=>whnf);first|intro _|apply aI|with_reducible exact vM rfl|exact⟨⟩|apply nM|apply fM)
   all_goals((try apply vM);(try simp only[vq]at*);try omega)
   all_goals exact hor
  ·have:k=(s.cs.getD (agt 0) []).length:=by omega
   subst this;rw[af5]
   repeat'((conv=>whnf);first|(intro hq;(try simp only[vw]at hq);try first|exact absurd hq (by decide)|exfalso;omega)|apply aI|with_reducible exact vM rfl|exact⟨⟩|apply nM|apply fM)
   all_goals((try apply vM);(try simp only[vq]at*);try omega)
   all_goals(try omega)
   refine⟨1,[(25,30)],⟨⟨by omega,by omega,fun j hj=>by(have:j=0:=by omega);subst this;exact hok⟩,by omega⟩,?_⟩
   have e1:ms (s.cs.take 1)=[((mk (s.cs.getD (agt 0) []):Nat):Int)]:=by
    rw[show s.cs.take 1=[s.cs.getD (agt 0) []]from by cases hcs:s.cs with|nil=>rw[hcs]at h1;simp at h1;omega|cons a r=>rfl];rfl
   rw[e1]
   repeat'((conv=>whnf);first|intro _|apply aI|with_reducible exact vM rfl|exact⟨⟩|apply nM|apply fM)
   all_goals((try apply vM);(try simp only[vq]at*);try omega)
 ·intro i ⟨hi1,hi2,hj⟩
  have hml:(ms (s.cs.take i)).length=i:=by rw[bQ,ae0];omega
  by_cases hlti:i<s.cs.length
  ·by_cases hok:kL c (s.cs.getD i []) (s.ds.getD i false)=0
   case neg=>
    have hl0:=hllen i;rw[fin i (by omega) hj hok]
    repeat'((conv=>whnf);first|(intro hq;(try simp only[vw]at hq);try first|exact absurd hq (by decide)|exfalso;omega)|apply aI|with_reducible exact vM rfl|exact⟨⟩|apply nM|apply fM)
    all_goals((try apply vM);(try simp only[vq]at*);try omega)
    all_goals first|exact hl0|(exfalso;exact hq hok)|skip
   have hA:Asc (s.cs.getD i []):=(sG hok hc.2).1.1;have hl0:=hllen i
   repeat'((conv=>whnf);first|(intro hq;(try simp only[vw]at hq);try first|exact absurd hq (by decide)|exfalso;omega)|apply aI|with_reducible exact vM rfl|exact⟨⟩|apply nM|apply fM)
   all_goals((try apply vM);(try simp only[vq]at*);try omega)
   all_goals(try first|exact hl0|(exfalso;exact hq hok))
   conv=>whnf
   refine aM (X:=Nat) (fun k=>k≤(s.cs.getD i []).length) (fun k=>[(65,.int .i64 k),(12,.int .u32 (mk ((s.cs.getD i []).take k):Nat))]) (fun k=>[]) (fun k=>(s.cs.getD i []).length-k) 0 ⟨aK,mixed,ak,jV,aQ⟩ (by rfl) (by omega) ?_ ?_
   ·repeat'((conv=>whnf);first|intro _|apply aI|with_reducible exact vM rfl|exact⟨⟩|apply nM|apply fM)
    all_goals((try apply vM);(try simp only[vq]at*);try omega)
    all_goals rfl
   intro k hk;by_cases hlt:k<(s.cs.getD i []).length
   ·have hx:=hA.rng _ (bL hlt)
    have hsb:=gQ ((s.cs.getD i []).getD k 0).toNat (by omega)
    have hor:=rQ (l:=(s.cs.getD i []).take k) (x:=(s.cs.getD i []).getD k 0) (fun z hz=>hA.inM z (agG hz)) (by omega)
    rw[←dF hlt]at hor
    repeat'((conv=>whnf);first|(intro hq;(try simp only[vw]at hq);try first|exact absurd hq (by decide)|exfalso;omega)|apply aI|with_reducible exact vM rfl|exact⟨⟩|apply nM|apply fM)
    all_goals((try apply vM);(try simp only[vq]at*);try omega)
    all_goals(try omega)
    refine⟨k+1,[],⟨by omega,by omega⟩,?_⟩
    repeat'((conv=>whnf);first|intro _|apply aI|with_reducible exact vM rfl|exact⟨⟩|apply nM|apply fM)
    all_goals((try apply vM);(try simp only[vq]at*);try omega)
    all_goals exact hor
   ·have:k=(s.cs.getD i []).length:=by omega
    subst this;rw[af5]
    repeat'((conv=>whnf);first|(intro hq;(try simp only[vw]at hq);try first|exact absurd hq (by decide)|exfalso;omega)|apply aI|with_reducible exact vM rfl|exact⟨⟩|apply nM|apply fM)
    all_goals((try apply vM);(try simp only[vq]at*);try omega)
    all_goals(try omega)
    refine⟨i+1,[(25,30)],⟨⟨by omega,by omega,fun j hj'=>by(rcases ahe.1 hj' with h'|h');exact hj j h';subst h';exact hok⟩,by omega⟩,?_⟩
    have e1:ms (s.cs.take (i+1))=ms (s.cs.take i)++[((mk (s.cs.getD i []):Nat):Int)]:=by
     rw[af3,aeo,aev hlti];unfold ms;rw[af4];rfl
    rw[e1]
    repeat'((conv=>whnf);first|intro _|apply aI|with_reducible exact vM rfl|exact⟨⟩|apply nM|apply fM)
    all_goals((try apply vM);(try simp only[vq]at*);try omega)
    all_goals(rw[bP hml])
  ·have:i=s.cs.length:=by omega
   subst this;exfalso;exact he (hR.trans (fO hj))
def DK:LSp:=fun xs objs K=>match xs,objs with
 | [.agg [.int .i64 c,.isl (.rows .i64 ls) .none,.int .i64 sum,.isl (.ints .i64 gv) .none],.agg [.isl (.rows .i64 CS) .none,.isl (.bools DS) .none]],[]=>
  ∃ok:Bool,VC (bH ls∧gv.length≤5000∧StS ⟨CS,DS⟩∧ok=decide (dx c ls sum gv ⟨CS,DS⟩=0))∧match ok with
   |true=>K [.rp 0 0,.int .i64 0] (bdO c ls sum gv ⟨CS,DS⟩ CS.length)
   |false=>K [.nilp,.int .i64 (dx c ls sum gv ⟨CS,DS⟩)] []
 |_,_=>False
theorem abd {c:Int} {ls:List (List Int)} {sum:Int} {gv:List Int} {s:St} (h:dx c ls sum gv s=0):pzE c ls sum gv=0:=by
 unfold dx at h;by_cases h0:aG [pzE c ls sum gv,if(s.cs.length:Int)≠c∨(s.ds.length:Int)≠c then 2 else 0]=0
 ·exact(mh h0).1
 ·rw[if_pos h0]at h;exact absurd h h0
theorem JN:LOK Tryz.prog 132 DK:=by
 intro xs objs K hk;unfold DK at hk;split at hk
 ·obtain⟨ok,⟨h,hg,hs,he⟩,hk⟩:=hk
  cases ok with
  |true=>
   have he:=of_decide_eq_true he.symm;obtain⟨hp,hb⟩:=kM he;exact⟨_,_,hk,PX _ _ _ _ _ h hg hs hb.cl hb.dl (abd he) he⟩
  |false=>
   have he:=of_decide_eq_false he.symm;refine⟨_,_,hk,?_⟩;rename_i _ _ c ls sum gv CS DS _;by_cases h1:((CS.length:Int)=c∧(DS.length:Int)=c∧pzE c ls sum gv=0)
   ·exact PY _ _ _ _ _ h hg hs h1.1 h1.2.1 h1.2.2 he
   ·exact Im _ _ _ _ _ h hg hs h1 he
 ·exact hk.elim
structure F7 (s:St):Prop where
 cl:1≤s.cs.length∧s.cs.length≤16
 dl:s.ds.length=s.cs.length
 asc:∀i,i<s.cs.length→Asc (s.cd i)
theorem bO.lt {c:Int} {ls:List (List Int)} {sum:Int} {s:St} (h:bO c ls sum s):F7 s:=by
 have:=h.c1;have:=h.cl;have:=h.dl;exact⟨by omega,by omega,fun i hi=>(h.asc i hi).1⟩
theorem Io (c:Int) (ls:List (List Int)) (sum:Int) (gv:List Int) (s:St) (h:F7 s):aF Tryz.prog 87 [bdV c ls sum gv s] (stV s):=by
 have hcl:=h.cl;have hdl:=h.dl;have hlen:=bQ s.cs;refine av (md:=1) (rf:=[]) mixed ak wu Tryz.func87 (by rfl) (by rfl) (by rfl) ?_
 repeat'((conv=>whnf);first|intro _|apply aI|with_reducible exact vM rfl|exact⟨⟩|apply nM|apply fM)
 all_goals((try apply vM);(try simp only[vq]at*);try omega)
 conv=>whnf
 refine aM (X:=Nat) (fun i=>i≤s.cs.length) (fun i=>[(17,.int .i64 i)]) (fun i=>[(5,.cells (.pv [.isl (.rows .i64 (s.cs.take i)) (.own 9),.isl (.bools s.ds) .none]) false),(9,.tok 1 i)]) (fun i=>s.cs.length-i) 0 ⟨aK,mixed,ak,wu,aQ⟩ (by rfl) (by omega) ?_ ?_
 ·repeat'((conv=>whnf);first|intro _|apply aI|with_reducible exact vM rfl|exact⟨⟩|apply nM|apply fM)
  all_goals((try apply vM);(try simp only[vq]at*);try omega)
 intro i hi;by_cases hlt:i<s.cs.length
 ·have hm:(ms s.cs).getD i 0=(mk (s.cd i):Nat):=eP hlt
  have hA:=h.asc _ hlt;have e1:(s.cs.take i).length=i:=by rw[ae0];omega
  have e2:s.cs.take i++[s.cd i]=s.cs.take (i+1):=by
   unfold St.cd;rw[af3,aeo,aev hlt];rfl
  repeat'((conv=>whnf);first|apply Exists.intro (s.cd i)|(intro hq;(try simp only[vw]at hq);try first|exact absurd hq (by decide)|exfalso;omega)|apply aI|with_reducible exact vM rfl|exact⟨⟩|apply nM|apply fM)
  all_goals((try apply vM);(try simp only[vq]at*);try omega)
  all_goals(try(simp only[afu,ae0,ad4,adY];omega))
  ·exact⟨hm,hA⟩
  refine⟨i+1,[],⟨by omega,by omega⟩,?_⟩
  repeat'((conv=>whnf);first|intro _|apply aI|with_reducible exact vM rfl|exact⟨⟩|apply nM|apply fM)
  all_goals((try apply vM);(try simp only[vq]at*);try omega)
  all_goals(try(rw[e2]))
 ·have:i=s.cs.length:=by omega
  subst this;rw[af5]
  repeat'((conv=>whnf);first|intro _|apply aI|with_reducible exact vM rfl|exact⟨⟩|apply nM|apply fM)
  all_goals((try apply vM);(try simp only[vq]at*);try omega)
  exact Sup.of rfl
structure StW where
 s:St
def wB:PSp:=fun xs K=>match xs with
 | [.ip (.pv [.int .i64 c,.isl (.rows .i64 ls) .none,.int .i64 sum,.isl (.ints .i64 gv) .none,.isl (.ints .u32 M) .none,.isl (.bools D) .none]) 0]=>∃w:StW,VC (M=ms w.s.cs∧D=w.s.ds∧F7 w.s)∧K (stV w.s)
 |_=>False
theorem Cj:POK Tryz.prog 87 wB:=by
 intro xs K hk;unfold wB at hk;split at hk
 ·obtain⟨s,⟨rfl,rfl,h⟩,hk⟩:=hk
  exact⟨_,hk,Io _ _ _ _ s.s h⟩
 ·exact hk.elim
theorem F8 {l:List Int} (h:Asc l) (x:Int):Asc (dQ l x):=by
 unfold dQ;exact⟨h.pw.filter _,fun y hy=>h.rng y (List.mem_filter.1 hy).1⟩
theorem abe {g:Nat} {s:St} (h:F7 s) {y x:Int} (hx:1≤x∧x≤16):F7 (apl g s y x):=by
 have hs:Asc [x]:=⟨by simp,fun z hz=>by rw[agL.1 hz];exact hx⟩
 unfold apl;split
 ·refine⟨by simp only[aeP,af0];exact h.cl,by simp only[aeP,af0];exact h.dl,fun i hi=>?_⟩
  simp only[aeP,af0]at hi;unfold St.cd;simp only[aeo,aeN,af0];split
  ·rw[if_pos (by omega)];exact hs
  ·rw[ae7,aev hi]
   have:=h.asc i hi;unfold St.cd at this;rw[aeo,aev hi]at this;exact F8 this x
 ·refine⟨by simp only[aeP];exact h.cl,by simp only[aeP];exact h.dl,fun i hi=>?_⟩
  simp only[aeP]at hi;unfold St.cd;simp only[aeo,aeN];have hi':=h.asc i hi;unfold St.cd at hi';split
  ·rename_i e
   rw[if_pos (by omega),e,←aeo]
   exact F8 hi' x
  ·rw[←aeo];exact hi'
theorem Sw {g:Nat} {s:St} {y x:Int}:(apl g s y x).cs.length=s.cs.length∧(apl g s y x).ds.length=s.ds.length:=by
 unfold apl;split<;>simp
noncomputable def abf:CPT:=aA 87 (vX wB) (aA 88 (aB fZ) (aA 89 (aB eO) (aA 90 (gM (nY brk)) (aA 126 (aB FR) (aA 127 (gM DI) (aA 128 (dP [] u7) (aA 132 (dP [] DK) noC)))))))
theorem oG:aW Tryz.prog abf:=aj (rO Cj) (aj (au fA) (aj (au eY) (aj (eB uR) (aj (au FT) (aj (eB JE) (aj (cu [] yt) (aj (cu [] JN) aD)))))))
theorem zM (b:Bool) (p:PV):Sup (bF [PV.bool b,p]) (PV.tup [.bp b,p]):=⟨fun hr=>by
 cases hr with
 |tup _ _ vs hl hh=>
  refine .tup _ _ _ hl fun i hi=>?_;have:=hh i hi;obtain rfl|rfl:i=0∨i=1:=by simp at hi;omega
  ·simp only[aC]at this⊢
   generalize vs.getD 0 undef=v1 at this
   cases this;exact .bp _ _
  ·exact this⟩
def Sy (c:Int) (ls:List (List Int)) (sum:Int) (gv:List Int) (s:St):Bool × Int:=if dx c ls sum gv s=0 then(brk c ls sum s,0)else(false,dx c ls sum gv s)
theorem qF {c:Int} {ls:List (List Int)} {sum:Int} {s:St} (h:bO c ls sum s):agH (s.cs.length-0) (agI 0 (ms s.cs))=ms s.cs∧agH (s.cs.length-0) (agI 0 s.ds)=s.ds:=by
 have:=h.cl;have:=h.dl;exact⟨bP (bQ _),bP (by omega)⟩
theorem YS (c:Int) (ls:List (List Int)) (sum:Int) (gv:List Int) (s:St) (h:bH ls) (hg:gv.length≤5000) (hs:StS s):aF Tryz.prog 72 [pzV c ls sum gv,stV s] (.tup [.bp (Sy c ls sum gv s).1,.int .i64 (Sy c ls sum gv s).2]):=by
 have hml:=bQ s.cs;unfold Sy;by_cases he:dx c ls sum gv s=0
 ·have hb:=(kM he).2
  obtain⟨t1,t2⟩:=qF hb;have hcl:=hb.cl;have hdl:=hb.dl;rw[if_pos he];refine av (md:=1) (rf:=[]) mixed ak oG Tryz.func72 (by rfl) (by rfl) (by rfl) ?_
  repeat'((conv=>whnf);first|apply Exists.intro (true)|apply Exists.intro (s)|(intro hq;(try simp only[vw]at hq);try first|exact absurd hq (by decide)|exfalso;omega)|apply aI|with_reducible exact vM rfl|exact⟨⟩|apply nM|apply fM)
  all_goals((try apply vM);(try simp only[vq]at*);try omega)
  all_goals first|exact⟨h,hg,hs,(decide_eq_true he).symm⟩|exact⟨t1,t2,hb⟩|exact Sup.of rfl|skip
 ·rw[if_neg he]
  refine av (md:=1) (rf:=[]) mixed ak oG Tryz.func72 (by rfl) (by rfl) (by rfl) ?_
  repeat'((conv=>whnf);first|apply Exists.intro (false)|apply Exists.intro (s)|(intro hq;(try simp only[vw]at hq);try first|exact absurd hq (by decide)|exfalso;omega)|apply aI|with_reducible exact vM rfl|exact⟨⟩|apply nM|apply fM)
  all_goals((try apply vM);(try simp only[vq]at*);try omega)
  all_goals first|exact⟨h,hg,hs,(decide_eq_false he).symm⟩|exact zM _ _|(exfalso;exact hq he)|skip
def juR (c:Int) (ls:List (List Int)) (sum:Int) (gv:List Int) (s:St) (r:ByteArray) (y x k:Int):Bool × Int:=
 if dx c ls sum gv s≠0 then(false,dx c ls sum gv s)else if dL c ls r y x k≠0 then(false,dL c ls r y x k)else(okJ (aP r).toNat s sum (ls.getD k.toNat []) y x,0)
theorem A9 (c:Int) (ls:List (List Int)) (sum:Int) (gv:List Int) (s:St) (h:bH ls) (hg:gv.length≤5000) (hs:StS s) (r:ByteArray) (y x k:Int):aF Tryz.prog 73 [pzV c ls sum gv,stV s,ddV r y x k] (.tup [.bp (juR c ls sum gv s r y x k).1,.int .i64 (juR c ls sum gv s r y x k).2]):=by
 have hml:=bQ s.cs;unfold juR;by_cases he:dx c ls sum gv s=0
 ·have hb:=(kM he).2
  obtain⟨t1,t2⟩:=qF hb;have hcl:=hb.cl;have hdl:=hb.dl;rw[if_neg (by rw[he];simp)]
  by_cases hd:dL c ls r y x k=0
  ·have hD:=l9.of hd
   rw[if_neg (by rw[hd];simp)]
   refine av (md:=1) (rf:=[]) mixed ak oG Tryz.func73 (by rfl) (by rfl) (by rfl) ?_
   repeat'((conv=>whnf);first|apply Exists.intro (true)|apply Exists.intro (s)|(intro hq;(try simp only[vw]at hq);try first|exact absurd hq (by decide)|exfalso;omega)|apply aI|with_reducible exact vM rfl|exact⟨⟩|apply nM|apply fM)
   all_goals((try apply vM);(try simp only[vq]at*);try omega)
   all_goals first|exact⟨h,hg,hs,(decide_eq_true he).symm⟩|exact h|exact⟨t1,t2,hb,hD⟩|exact Sup.of rfl|(exfalso;exact hq hd)|skip
  ·rw[if_pos hd]
   refine av (md:=1) (rf:=[]) mixed ak oG Tryz.func73 (by rfl) (by rfl) (by rfl) ?_
   repeat'((conv=>whnf);first|apply Exists.intro (true)|apply Exists.intro (s)|(intro hq;(try simp only[vw]at hq);try first|exact absurd hq (by decide)|exfalso;omega)|apply aI|with_reducible exact vM rfl|exact⟨⟩|apply nM|apply fM)
   all_goals((try apply vM);(try simp only[vq]at*);try omega)
   all_goals first|exact⟨h,hg,hs,(decide_eq_true he).symm⟩|exact h|exact zM _ _|(exfalso;exact hq hd)|skip
 ·rw[if_pos he]
  refine av (md:=1) (rf:=[]) mixed ak oG Tryz.func73 (by rfl) (by rfl) (by rfl) ?_
  repeat'((conv=>whnf);first|apply Exists.intro (false)|apply Exists.intro (s)|(intro hq;(try simp only[vw]at hq);try first|exact absurd hq (by decide)|exfalso;omega)|apply aI|with_reducible exact vM rfl|exact⟨⟩|apply nM|apply fM)
  all_goals((try apply vM);(try simp only[vq]at*);try omega)
  all_goals first|exact⟨h,hg,hs,(decide_eq_false he).symm⟩|exact zM _ _|(exfalso;exact hq he)|(exfalso;rename_i hq2;exact he hq2)|skip
def sH:PSp:=fun xs K=>match xs with
 | [.agg [.int .i64 c,.isl (.rows .i64 ls) .none,.int .i64 sum,.isl (.ints .i64 gv) .none],.agg [.isl (.rows .i64 CS) .none,.isl (.bools DS) .none],.agg [.str r,.int .i64 y,.int .i64 x,.int .i64 k]]=>VC (bH ls∧gv.length≤5000∧StS ⟨CS,DS⟩)∧K (.tup [.bp (juR c ls sum gv ⟨CS,DS⟩ r y x k).1,.int .i64 (juR c ls sum gv ⟨CS,DS⟩ r y x k).2])
 |_=>False
theorem F9:POK Tryz.prog 73 sH:=by
 intro xs K h;unfold sH at h;split at h
 ·exact⟨_,h.2,A9 _ _ _ _ ⟨_,_⟩ h.1.get.1 h.1.get.2.1 h.1.get.2.2 _ _ _ _⟩
 ·exact h.elim
noncomputable def adi:CPT:=aA 73 (aB sH) abf
theorem Bc:aW Tryz.prog adi:=aj (au F9) oG
def apR (c:Int) (ls:List (List Int)) (sum:Int) (gv:List Int) (s:St) (r:ByteArray) (y x k:Int):St × Int:=
 if(juR c ls sum gv s r y x k).2≠0 then(noS,(juR c ls sum gv s r y x k).2)else if(juR c ls sum gv s r y x k).1 then(apl (aP r).toNat s y x,0)else(noS,19)
theorem abY (c:Int) (ls:List (List Int)) (sum:Int) (gv:List Int) (s:St) (h:bH ls) (hg:gv.length≤5000) (hs:StS s) (r:ByteArray) (y x k:Int):aF Tryz.prog 74 [pzV c ls sum gv,stV s,ddV r y x k] (.tup [stV (apR c ls sum gv s r y x k).1,.int .i64 (apR c ls sum gv s r y x k).2]):=by
 have hml:=bQ s.cs;unfold apR;have hv:∀e:Int,Sup (bF [PV.agg [PV.nils,PV.nils],.int .i64 e]) (.tup [stV noS,.int .i64 e]):=fun e=>by
  unfold noS;all_goals(refine Sup.via ?_;repeat'((conv=>whnf);first|intro _|apply aI|with_reducible exact vM rfl|exact⟨⟩|apply nM|apply fM);all_goals((try apply vM);(try simp only[vq]at*);try omega);all_goals(try(simp[CL.sub];done)))
 by_cases he:(juR c ls sum gv s r y x k).2=0
 ·rw[if_neg (by rw[he];simp)]
  cases hj:(juR c ls sum gv s r y x k).1 with
  |true=>
   have hr:dx c ls sum gv s=0:=by
    by_cases e:dx c ls sum gv s=0
    ·exact e
    ·unfold juR at he;rw[if_pos e]at he;exact absurd he e
   have hd:dL c ls r y x k=0:=by
    by_cases e:dL c ls r y x k=0
    ·exact e
    ·unfold juR at he;rw[if_neg (by rw[hr];simp),if_pos e]at he;exact absurd he e
   have hb:=(kM hr).2;obtain⟨t1,t2⟩:=qF hb;have hcl:=hb.cl;have hdl:=hb.dl;have hc:=hb.c1;have hD:=l9.of hd;obtain⟨a1,a2⟩:=Sw (g:=(aP r).toNat) (s:=s) (y:=y) (x:=x);have hml2:=bQ (apl (aP r).toNat s y x).cs;have u1:agH (s.cs.length-0) (agI 0 (ms (apl (aP r).toNat s y x).cs))=ms (apl (aP r).toNat s y x).cs:=bP (by omega)
   have u2:agH (s.cs.length-0) (agI 0 (apl (aP r).toNat s y x).ds)=(apl (aP r).toNat s y x).ds:=bP (by omega)
   have hL:=abe (g:=(aP r).toNat) (y:=y) hb.lt (x:=x) (by have:=hD.x;omega)
   rw[if_pos rfl];have he':(juR c ls sum gv ⟨s.cs,s.ds⟩ r y x k).2=0:=he;have hj':(juR c ls sum gv ⟨s.cs,s.ds⟩ r y x k).1=true:=hj;obtain⟨w,hw⟩:∃w:StW,w.s=apl (aP r).toNat s y x:=⟨⟨_⟩,rfl⟩;rw[←hw]at u1 u2 hL a1 a2 hml2⊢;refine av (md:=1) (rf:=[]) mixed ak Bc Tryz.func74 (by rfl) (by rfl) (by rfl) ?_
   repeat'((conv=>whnf);first|apply Exists.intro (true)|apply Exists.intro (s)|apply Exists.intro (w)|(intro hq;(try simp only[vw]at hq);try first|exact absurd hq (by decide)|exfalso;omega)|apply aI|with_reducible exact vM rfl|exact⟨⟩|apply nM|apply fM)
   all_goals((try apply vM);(try simp only[vq]at*);try omega)
   all_goals(try rw[←hw])
   all_goals first|exact⟨h,hg,hs⟩|exact⟨h,hg,hs,(decide_eq_true hr).symm⟩|exact⟨t1,t2,hb,rfl,rfl,hD⟩|exact⟨hb,hD⟩|exact⟨u1,u2,hL⟩|exact hL|(exfalso;simp[he',hj',aG]at hq;done)|exact Sup.of rfl|omega|skip
  |false=>
   have he':(juR c ls sum gv ⟨s.cs,s.ds⟩ r y x k).2=0:=he;have hj':(juR c ls sum gv ⟨s.cs,s.ds⟩ r y x k).1=false:=hj;rw[if_neg (by simp)]
   refine av (md:=1) (rf:=[]) mixed ak Bc Tryz.func74 (by rfl) (by rfl) (by rfl) ?_
   repeat'((conv=>whnf);first|apply Exists.intro (true)|apply Exists.intro (s)|(intro hq;(try simp only[vw]at hq);try first|exact absurd hq (by decide)|exfalso;omega)|apply aI|with_reducible exact vM rfl|exact⟨⟩|apply nM|apply fM)
   all_goals((try apply vM);(try simp only[vq]at*);try omega)
   all_goals first|exact⟨h,hg,hs⟩|(exfalso;simp[he',hj',aG]at hq;done)|(rw[he',hj'];exact hv _)|skip
 ·rw[if_pos he]
  have he':(juR c ls sum gv ⟨s.cs,s.ds⟩ r y x k).2≠0:=he;have hf:∀b:Int,aG [(juR c ls sum gv ⟨s.cs,s.ds⟩ r y x k).2,b]=(juR c ls sum gv s r y x k).2:=fun b=>gN _ 0 (by simp) (fun i hi=>absurd hi (ahd i)) he'
  refine av (md:=1) (rf:=[]) mixed ak Bc Tryz.func74 (by rfl) (by rfl) (by rfl) ?_
  repeat'((conv=>whnf);first|apply Exists.intro (false)|apply Exists.intro (s)|(intro hq;(try simp only[vw]at hq);try first|exact absurd hq (by decide)|exfalso;omega)|apply aI|with_reducible exact vM rfl|exact⟨⟩|apply nM|apply fM)
  all_goals((try apply vM);(try simp only[vq]at*);try omega)
  all_goals first|exact⟨h,hg,hs⟩|(exfalso;rw[hf]at hq;exact hq he)|(rw[hf];exact hv _)|skip
theorem PZ {α β:Type} {f:α→List β} {b:Nat}:∀{l:List α},(∀x∈l,(f x).length≤b)→(l.flatMap f).length≤l.length*b:=by
 intro l;induction l with
 |nil=>intro _;simp
 |cons x l ih=>
  intro h;have h1:=h x (by simp)
  have h2:=ih fun y hy=>h y (by simp[hy])
  rw[List.flatMap_cons,afu,ad4,Nat.succ_mul];omega
theorem Sz {c:Int} {ls:List (List Int)} {sum:Int} {s:St} (h:bO c ls sum s) (g:Nat):(gH g s sum ls).length≤32768:=by
 have hc:=h.c1;have hcl:=h.cl;have hl:=h.ll;have h1:(gH g s sum ls).length≤(ael (mG g ls)).length*256:=by
  refine PZ fun j _=>?_;have:((ael s.cs.length).flatMap fun i=>uW g s sum (ls.getD (frG g+(j:Int)).toNat []) (frG g+(j:Int)) i).length≤(ael s.cs.length).length*16:=by
   refine PZ fun i hi=>?_;have hi:=afY.1 hi;unfold uW;split
   ·simp
   ·rw[af0]
    exact Nat.le_trans (agM _ _) (Ap (h.asc i hi).1)
  rw[ahf]at this;omega
 rw[ahf]at h1;have:mG g ls≤128:=by unfold mG;split<;>omega
 omega
def hsD (l:List Dd):Nat→List (Nat × AO):=fun i=>[(0,.cells (.pv [.isl (.recs 4 ((l.take i).map ddC)) (.own 5)]) false),(5,.tok 4 i)]
theorem MQ (g:Nat) (hg:1≤g∧g≤5) (c:Int) (ls:List (List Int)) (sum:Int) (gv:List Int) (s:St) (h:bO c ls sum s):aF Tryz.prog 179 [.nils,itV g c ls sum gv s] (.isl (dlC (gH g s sum ls)) .none):=by
 have hI:=FX g hg c ls sum gv s h;have h16:=Sz h g;generalize gH g s sum ls=l at hI h16⊢
 refine av (md:=1) (rf:=[]) mixed ak aD Tryz.func179 (by rfl) (by rfl) (by rfl) ?_
 repeat'((conv=>whnf);first|intro _|apply aI|with_reducible exact vM rfl|exact⟨⟩|apply nM|apply fM)
 all_goals((try apply vM);(try simp only[vq]at*);try omega)
 conv=>whnf
 refine gU aK mixed ak aD (fun r=>aQ) (fs:=[]) (cs:=[.ip (.pv [.int .i64 (frG g)]) 0,.ip (.pv [.int .i64 (toG g ls)]) 0,.ip (.pv [bdV c ls sum gv s]) 0,rlV (nmG g) (AL g) (lnG g) (fnG g)]) (l.map uV) (fun _=>true) (hsD l) (by rfl) (by rfl) (by rfl) hI (by rfl) (by rfl) (by rfl) (by rfl) ?_ ?_ ?_
 ·repeat'((conv=>whnf);first|intro _|apply aI|with_reducible exact vM rfl|exact⟨⟩|apply nM|apply fM)
  all_goals((try apply vM);(try simp only[vq]at*);try omega)
 ·intro hall
  rw[af0]
  repeat'((conv=>whnf);first|intro _|apply aI|with_reducible exact vM rfl|exact⟨⟩|apply nM|apply fM)
  all_goals((try apply vM);(try simp only[vq]at*);try omega)
  all_goals(try rw[af5])
  all_goals exact PG _ _
 ·intro i x hx hall lp
  have hx':i<l.length∧x=uV (l.getD i dd0):=by
   rw[ae7]at hx;cases h:l[i]? with
   |none=>rw[h]at hx;cases hx
   |some y=>
    rw[h]at hx;cases hx
    have:=(afS.1 h).1;exact⟨this,by rw[aeo,h];rfl⟩
  obtain⟨hi,rfl⟩:=hx';have e1:((l.take i).map ddC).length=i:=by rw[af0,ae0];omega
  have e2:(l.take i).map ddC++[ddC (l.getD i dd0)]=(l.take (i+1)).map ddC:=by
   rw[af3,aeo,aev hi,af4];rfl
  have te40s:E8.size=4:=by rfl
  have e3:(agH i l).map ddC++chunks E8.size 1 (ddC (l.getD i dd0))=(l.take (i+1)).map ddC:=by rw[te40s,←e2];rfl
  have e4:(chunks E8.size 1 (ddC (l.getD i dd0))).length=1:=by rw[te40s];rfl
  repeat'((conv=>whnf);first|(intro hq;(try simp only[vw]at hq);try first|exact absurd hq (by decide)|exfalso;omega)|apply aI|with_reducible exact vM rfl|exact⟨⟩|apply nM|apply fM)
  all_goals((try apply vM);(try simp only[vq]at*);try omega)
  ·rw[te40s];rfl
  ·rw[e3,af0,ae0];omega
  all_goals(try rw[e3,e4])
  refine⟨[],?_⟩
  repeat'((conv=>whnf);first|intro _|apply aI|with_reducible exact vM rfl|exact⟨⟩|apply nM|apply fM)
  all_goals((try apply vM);(try simp only[vq]at*);try omega)
def Ga:PSp:=fun xs K=>match xs with
 | [.nils,.fn (.func f) [] [.ip (.pv [.int .i64 a]) 0,.ip (.pv [.int .i64 b]) 0,.ip (.pv [.ip (.pv [.int .i64 c,.isl (.rows .i64 ls) .none,.int .i64 sum,.isl (.ints .i64 gv) .none,.isl (.ints .u32 M) .none,.isl (.bools D) .none]) 0]) 0,r]]=>∃(s:St) (n:Nat),VC (f=180∧a=frG n∧b=toG n ls∧r=rlV (nmG n) (AL n) (lnG n) (fnG n)∧M=ms s.cs∧D=s.ds∧(1≤n∧n≤5)∧bO c ls sum s)∧K (.isl (dlC (gH n s sum ls)) .none)
 |_=>False
theorem SA:POK Tryz.prog 179 Ga:=by
 intro xs K hk;unfold Ga at hk;split at hk
 ·obtain⟨s,n,⟨rfl,rfl,rfl,rfl,e5,e6,hn,h⟩,hk⟩:=hk
  subst e5 e6;exact⟨_,hk,MQ n hn _ _ _ _ s h⟩
 ·exact hk.elim
noncomputable def adj:CPT:=aA 179 (Dm Ga) noC
theorem Yt:aW Tryz.prog adj:=aj (EO SA) aD
theorem MR (g:Nat) (hg:1≤g∧g≤5) (c:Int) (ls:List (List Int)) (sum:Int) (gv:List Int) (s:St) (h:bO c ls sum s):aF Tryz.prog 133 [itV g c ls sum gv s] (.isl (dlC (gH g s sum ls)) .none):=by
 refine av (md:=1) (rf:=[]) mixed ak Yt Tryz.func133 (by rfl) (by rfl) (by rfl) ?_
 repeat'((conv=>whnf);first|intro _|apply aI|with_reducible exact vM rfl|exact⟨⟩|apply nM|apply fM)
 refine⟨s,g,VC.mk ⟨rfl,rfl,rfl,rfl,rfl,rfl,hg,h⟩,?_⟩
 repeat'((conv=>whnf);first|intro _|apply aI|with_reducible exact vM rfl|exact⟨⟩|apply nM|apply fM)
 all_goals((try apply vM);(try simp only[vq]at*);try omega)
 all_goals exact Sup.of rfl
def Gb:PSp:=fun xs K=>match xs with
 | [.fn (.func f) [] [.ip (.pv [.int .i64 a]) 0,.ip (.pv [.int .i64 b]) 0,.ip (.pv [.ip (.pv [.int .i64 c,.isl (.rows .i64 ls) .none,.int .i64 sum,.isl (.ints .i64 gv) .none,.isl (.ints .u32 M) .none,.isl (.bools D) .none]) 0]) 0,r]]=>∃(s:St) (n:Nat),VC (f=180∧a=frG n∧b=toG n ls∧r=rlV (nmG n) (AL n) (lnG n) (fnG n)∧M=ms s.cs∧D=s.ds∧(1≤n∧n≤5)∧bO c ls sum s)∧K (.isl (dlC (gH n s sum ls)) .none)
 |_=>False
theorem SB:POK Tryz.prog 133 Gb:=by
 intro xs K hk;unfold Gb at hk;split at hk
 ·obtain⟨s,n,⟨rfl,rfl,rfl,rfl,e5,e6,hn,h⟩,hk⟩:=hk
  subst e5 e6;exact⟨_,hk,MR n hn _ _ _ _ s h⟩
 ·exact hk.elim
noncomputable def adk:CPT:=aA 88 (aB fZ) (aA 89 (aB eO) (aA 92 (gM qE) (aA 98 (aB ny) (aA 101 (aB kS) (aA 132 (dP [] DK) (aA 133 (aB Gb) (aA 134 (vX DJ) noC)))))))
theorem mq:aW Tryz.prog adk:=aj (au fA) (aj (au eY) (aj (eB uX) (aj (au qj) (aj (au kT) (aj (cu [] JN) (aj (au SB) (aj (rO JF) aD)))))))
def SC (c:Int) (ls:List (List Int)) (sum:Int) (gv:List Int) (s:St) (r:ByteArray):List Dd × Int:=
 if dx c ls sum gv s≠0 then([],dx c ls sum gv s)else if aP r=0 then([],13)else(gH (aP r).toNat s sum ls,0)
theorem P5 (e:Int):Sup (bF [PV.nils,PV.int .i64 e]) (.tup [.isl (dlC []) .none,.int .i64 e]):=by all_goals(refine Sup.via ?_;repeat'((conv=>whnf);first|intro _|apply aI|with_reducible exact vM rfl|exact⟨⟩|apply nM|apply fM);all_goals((try apply vM);(try simp only[vq]at*);try omega);all_goals(try(simp[CL.sub];done)))
theorem adl (c:Int) (ls:List (List Int)) (sum:Int) (gv:List Int) (s:St) (h:bH ls) (hg:gv.length≤5000) (hs:StS s) (r:ByteArray):aF Tryz.prog 67 [pzV c ls sum gv,stV s,.str r] (.tup [.isl (dlC (SC c ls sum gv s r).1) .none,.int .i64 (SC c ls sum gv s r).2]):=by
 have hml:=bQ s.cs;have hgr:0≤aP r∧aP r≤5:=by
  obtain⟨_,hg⟩|⟨_,hg⟩|⟨_,hg⟩|⟨_,hg⟩|⟨_,hg⟩|hg:=l8 r;all_goals omega
 unfold SC;obtain⟨n,hn⟩:∃n:Nat,aP r=(n:Int):=⟨(aP r).toNat,by omega⟩
 obtain⟨ni,hni⟩:∃ni:Int,ni=n:=⟨_,rfl⟩;by_cases he:dx c ls sum gv s=0
 ·have he':dx c ls sum gv ⟨s.cs,s.ds⟩=0:=he
  have hb:=(kM he).2;obtain⟨t1,t2⟩:=qF hb;have hcl:=hb.cl;have hdl:=hb.dl;rw[if_neg (by rw[he];simp)]
  by_cases hz:aP r=0
  ·rw[if_pos hz]
   refine av (md:=1) (rf:=[]) mixed ak mq Tryz.func67 (by rfl) (by rfl) (by rfl) ?_
   repeat'((conv=>whnf);first|apply Exists.intro (true)|apply Exists.intro (s)|apply Exists.intro (0)|(intro hq;(try simp only[vw]at hq);try first|exact absurd hq (by decide)|exfalso;omega)|apply aI|with_reducible exact vM rfl|exact⟨⟩|apply nM|apply fM)
   all_goals((try apply vM);(try simp only[vq]at*);try omega)
   all_goals first|exact⟨h,hg,hs,(decide_eq_true he).symm⟩|exact hz|(exfalso;simp[aG]at hq;done)|exact P5 _|skip
  ·rw[if_neg hz,hn]
   refine av (md:=1) (rf:=[]) mixed ak mq Tryz.func67 (by rfl) (by rfl) (by rfl) ?_
   repeat'((conv=>whnf);first|apply Exists.intro (true)|apply Exists.intro (s)|apply Exists.intro (n)|apply Exists.intro (ni)|(intro hq;(try simp only[vw]at hq);try first|exact absurd hq (by decide)|exfalso;omega)|apply aI|with_reducible exact vM rfl|exact⟨⟩|apply nM|apply fM)
   all_goals((try apply vM);(try simp only[vq]at*);try omega)
   all_goals first|exact⟨h,hg,hs,(decide_eq_true he).symm⟩|exact hz|(exact hn.trans hni.symm)|(exfalso;rw[if_neg (by omega)]at hq;exact hq rfl)|exact⟨t1,t2,by omega,by omega⟩|exact⟨by omega,hb⟩|exact Sup.of rfl|skip
 ·have he':dx c ls sum gv ⟨s.cs,s.ds⟩≠0:=he
  have hf:∀b:Int,aG [dx c ls sum gv ⟨s.cs,s.ds⟩,b]=dx c ls sum gv s:=fun b=>gN _ 0 (by simp) (fun i hi=>absurd hi (ahd i)) he'
  rw[if_pos he];refine av (md:=1) (rf:=[]) mixed ak mq Tryz.func67 (by rfl) (by rfl) (by rfl) ?_
  repeat'((conv=>whnf);first|apply Exists.intro (false)|apply Exists.intro (s)|apply Exists.intro (ni)|(intro hq;(try simp only[vw]at hq);try first|exact absurd hq (by decide)|exfalso;omega)|apply aI|with_reducible exact vM rfl|exact⟨⟩|apply nM|apply fM)
  all_goals((try apply vM);(try simp only[vq]at*);try omega)
  all_goals first|exact⟨h,hg,hs,(decide_eq_false he).symm⟩|(exact hn.trans hni.symm)|(rw[hf];exact P5 _)|(exfalso;rw[hf]at hq;exact hq he)|(exfalso;exact he hq)|skip
def SE (c:Int) (ls:List (List Int)) (sum:Int) (gv:List Int) (s:St) (g:Int):Option Dd × Int:=
 if aG [dx c ls sum gv s,fH g]≠0 then(none,aG [dx c ls sum gv s,fH g])else match iH s sum ls g.toNat with
  |none=>(none,23)
  |some d=>(some d,0)
theorem abZ (c:Int) (ls:List (List Int)) (sum:Int) (gv:List Int) (s:St) (h:bH ls) (hg:gv.length≤5000) (hs:StS s) (g:Int):aF Tryz.prog 68 [pzV c ls sum gv,stV s,.int .i64 g] (.tup [ddO (SE c ls sum gv s g).1,.int .i64 (SE c ls sum gv s g).2]):=by
 have hml:=bQ s.cs;unfold SE;by_cases he:aG [dx c ls sum gv s,fH g]=0
 ·obtain⟨h1,h2⟩:=mh he
  have he':aG [dx c ls sum gv ⟨s.cs,s.ds⟩,fH g]=0:=he;have h1':dx c ls sum gv ⟨s.cs,s.ds⟩=0:=h1;have hg5:1≤g∧g≤5:=by
   unfold fH at h2;by_cases e:g<1∨5<g
   ·first|(rw[if_pos e]at h2;cases h2)|(exfalso;revert h2;simp;omega)
   ·omega
  have hb:=(kM h1).2;obtain⟨t1,t2⟩:=qF hb;have hcl:=hb.cl;have hdl:=hb.dl;rw[if_neg (by rw[he];simp)]
  cases ho:iH s sum ls g.toNat with
  |none=>
   refine av (md:=1) (rf:=[]) mixed ak mq Tryz.func68 (by rfl) (by rfl) (by rfl) ?_
   repeat'((conv=>whnf);first|apply Exists.intro (true)|apply Exists.intro (s)|apply Exists.intro (none)|(intro hq;(try simp only[vw]at hq);try first|exact absurd hq (by decide)|exfalso;omega)|apply aI|with_reducible exact vM rfl|exact⟨⟩|apply nM|apply fM)
   all_goals((try apply vM);(try simp only[vq]at*);try omega)
   all_goals first|exact⟨h,hg,hs,(decide_eq_true h1).symm⟩|exact⟨t1,t2,by omega,hb,ho⟩|(exfalso;exact hq he')|(exfalso;rw[h2]at hq;simp[aG]at hq;done)|exact Sup.of rfl|skip
  |some d=>
   refine av (md:=1) (rf:=[]) mixed ak mq Tryz.func68 (by rfl) (by rfl) (by rfl) ?_
   repeat'((conv=>whnf);first|apply Exists.intro (true)|apply Exists.intro (s)|apply Exists.intro (some d)|(intro hq;(try simp only[vw]at hq);try first|exact absurd hq (by decide)|exfalso;omega)|apply aI|with_reducible exact vM rfl|exact⟨⟩|apply nM|apply fM)
   all_goals((try apply vM);(try simp only[vq]at*);try omega)
   all_goals first|exact⟨h,hg,hs,(decide_eq_true h1).symm⟩|exact⟨t1,t2,by omega,hb,ho⟩|(exfalso;exact hq he')|(exfalso;rw[h2]at hq;simp[aG]at hq;done)|exact Sup.of rfl|skip
 ·rw[if_pos he]
  have he':aG [dx c ls sum gv ⟨s.cs,s.ds⟩,fH g]≠0:=he;by_cases h1:dx c ls sum gv s=0
  ·have h1':dx c ls sum gv ⟨s.cs,s.ds⟩=0:=h1
   rw[h1]at he⊢;refine av (md:=1) (rf:=[]) mixed ak mq Tryz.func68 (by rfl) (by rfl) (by rfl) ?_
   repeat'((conv=>whnf);first|apply Exists.intro (true)|apply Exists.intro (s)|apply Exists.intro (none)|(intro hq;(try simp only[vw]at hq);try first|exact absurd hq (by decide)|exfalso;omega)|apply aI|with_reducible exact vM rfl|exact⟨⟩|apply nM|apply fM)
   all_goals((try apply vM);(try simp only[vq]at*);try omega)
   all_goals first|exact⟨h,hg,hs,(decide_eq_true h1).symm⟩|exact Sup.of rfl|(exfalso;exact he hq)|(exfalso;exact hq he)|skip
  ·skip
   refine av (md:=1) (rf:=[]) mixed ak mq Tryz.func68 (by rfl) (by rfl) (by rfl) ?_
   repeat'((conv=>whnf);first|apply Exists.intro (false)|apply Exists.intro (s)|apply Exists.intro (none)|(intro hq;(try simp only[vw]at hq);try first|exact absurd hq (by decide)|exfalso;omega)|apply aI|with_reducible exact vM rfl|exact⟨⟩|apply nM|apply fM)
   all_goals((try apply vM);(try simp only[vq]at*);try omega)
   all_goals first|exact⟨h,hg,hs,(decide_eq_false h1).symm⟩|exact Sup.of rfl|(exfalso;exact hq he')|skip
structure Du where
 r:ByteArray
 y:Int
 x:Int
 k:Int
def adn (d:Dd):Du:=⟨nmG d.g,d.y,d.x,d.k⟩
def du0:Du:=adn dd0
abbrev duC (d:Du):List PV:=[.str d.r,.int .i64 d.y,.int .i64 d.x,.int .i64 d.k]
abbrev duL (l:List Du):CL:=.genr 4 l.length fun i=>duC (l.getD i du0)
theorem Yu {α:Type} {l:List α} {i:Nat} {d:α} (h:i<l.length):l.drop i=l.getD i d::l.drop (i+1):=by
 rw[List.drop_eq_getElem_cons h,aeo,aev h];rfl
def vk (c:Int) (ls:List (List Int)) (sum:Int) (s:St) (d:Du):Int:=
 if dL c ls d.r d.y d.x d.k≠0 then dL c ls d.r d.y d.x d.k else if okJ (aP d.r).toNat s sum (ls.getD d.k.toNat []) d.y d.x then 0 else 19
def Gc (c:Int) (ls:List (List Int)) (sum:Int):St→Nat→List Du→St × Int × Int
 |s,_,[]=>(s,0,0)
 |s,i,d::r=>if vk c ls sum s d≠0 then(noS,(i:Int)+1,vk c ls sum s d)else Gc c ls sum (apl (aP d.r).toNat s d.y d.x) (i+1) r
def sI (c:Int) (ls:List (List Int)) (sum:Int) (gv:List Int) (l:List Du):St × Int × Int:=
 if pzE c ls sum gv≠0 then(noS,0,pzE c ls sum gv)else Gc c ls sum (bgn c gv) 0 l
noncomputable def ado:CPT:=aA 22 (aB kC) (aA 86 (dP [] uZ) (aA 87 (vX wB) (aA 89 (aB eO) (aA 126 (aB FR) (aA 127 (gM DI) (aA 128 (dP [] u7) noC))))))
theorem Bd:aW Tryz.prog ado:=aj (au jJ) (aj (cu [] yj) (aj (rO Cj) (aj (au eY) (aj (au FT) (aj (eB JE) (aj (cu [] yt) aD))))))
theorem P6 (i e:Int):Sup (bF [PV.agg [PV.nils,PV.nils],.int .i64 i,.int .i64 e]) (.tup [stV noS,.int .i64 i,.int .i64 e]):=by
 unfold noS;all_goals(refine Sup.via ?_;repeat'((conv=>whnf);first|intro _|apply aI|with_reducible exact vM rfl|exact⟨⟩|apply nM|apply fM);all_goals((try apply vM);(try simp only[vq]at*);try omega);all_goals(try(simp[CL.sub];done)))
theorem ab0 (c:Int) (ls:List (List Int)) (sum:Int) (gv:List Int) (h:bH ls) (hg:gv.length≤5000) (l:List Du) (hl:l.length≤1000000):aF Tryz.prog 61 [pzV c ls sum gv,.isl (duL l) .none] (.tup [stV (sI c ls sum gv l).1,.int .i64 (sI c ls sum gv l).2.1,.int .i64 (sI c ls sum gv l).2.2]):=by
 by_cases he:pzE c ls sum gv=0
 case neg=>
  unfold sI;rw[if_pos he];refine av (md:=1) (rf:=[]) mixed ak Bd Tryz.func61 (by rfl) (by rfl) (by rfl) ?_
  repeat'((conv=>whnf);first|(intro hq;(try simp only[vw]at hq);try first|exact absurd hq (by decide)|exfalso;omega)|apply aI|with_reducible exact vM rfl|exact⟨⟩|apply nM|apply fM)
  all_goals((try apply vM);(try simp only[vq]at*);try omega)
  all_goals first|exact⟨h,hg⟩|exact P6 _ _|(exfalso;exact he hq)|(exfalso;exact hq he)|skip
 have hp:=dR.of he;have hgl:=hp.gl;refine av (md:=1) (rf:=[]) mixed ak Bd Tryz.func61 (by rfl) (by rfl) (by rfl) ?_
 repeat'((conv=>whnf);first|(intro hq;(try simp only[vw]at hq);try first|exact absurd hq (by decide)|exfalso;omega)|apply aI|with_reducible exact vM rfl|exact⟨⟩|apply nM|apply fM)
 all_goals((try apply vM);(try simp only[vq]at*);try omega)
 all_goals first|exact⟨h,hg⟩|(exfalso;exact hq he)|skip
 conv=>whnf
 refine aM (X:=Nat × St) (fun x=>x.1≤l.length∧bO c ls sum x.2∧StI x.2∧x.2.cs.length=gv.length∧Gc c ls sum x.2 x.1 (l.drop x.1)=sI c ls sum gv l)
  (fun x=>[(22,.int .i64 x.1)]) (fun x=>[(7,.cells (.ints .u32 (ms x.2.cs)) false),(8,.cells (.bools x.2.ds) false)]) (fun x=>l.length-x.1) (0,bgn c gv) ⟨aK,mixed,ak,Bd,aQ⟩ (by rfl) ?_ ?_ ?_
 ·refine⟨Nat.zero_le _,uY hp,AY hp,jU.1,?_⟩
  unfold sI;rw[if_neg (by rw[he];simp)];rfl
 ·repeat'((conv=>whnf);first|intro _|apply aI|with_reducible exact vM rfl|exact⟨⟩|apply nM|apply fM)
  all_goals((try apply vM);(try simp only[vq]at*);try omega)
  all_goals skip
 rintro⟨i,s⟩ ⟨hi,hB,hI,hlen,hsol⟩
 simp only at hi hB hI hlen hsol⊢;have t1:agH (gv.length-0) (agI 0 (ms s.cs))=ms s.cs:=bP (by rw[bQ];exact hlen)
 have hdl:s.ds.length=gv.length:=by have:=hB.cl;have:=hB.dl;omega
 have t2:agH (gv.length-0) (agI 0 s.ds)=s.ds:=bP hdl;have hml:=bQ s.cs;obtain⟨w,hw⟩:∃w:StW,w.s=s:=⟨⟨_⟩,rfl⟩;by_cases hlt:i<l.length
 ·rw[Yu (d:=du0) hlt]at hsol
  unfold Gc at hsol;have hkn:dL c ls (l.getD i du0).r (l.getD i du0).y (l.getD i du0).x (l.getD i du0).k≠0→vk c ls sum s (l.getD i du0)=dL c ls (l.getD i du0).r (l.getD i du0).y (l.getD i du0).x (l.getD i du0).k:=fun h=>by
   unfold vk;rw[if_pos h]
  have hkj:dL c ls (l.getD i du0).r (l.getD i du0).y (l.getD i du0).x (l.getD i du0).k=0→vk c ls sum s (l.getD i du0)=if okJ (aP (l.getD i du0).r).toNat s sum (ls.getD (l.getD i du0).k.toNat []) (l.getD i du0).y (l.getD i du0).x=false then 19 else 0:=fun h=>by
   unfold vk;rw[if_neg (by rw[h];simp)]
   cases okJ (aP (l.getD i du0).r).toNat s sum (ls.getD (l.getD i du0).k.toNat []) (l.getD i du0).y (l.getD i du0).x<;>rfl
  have hno:∀e,vk c ls sum s (l.getD i du0)=e→e≠0→Sup (bF [PV.agg [PV.nils,PV.nils],.int .i64 ((i:Int)+1),.int .i64 e]) (.tup [stV (sI c ls sum gv l).1,.int .i64 (sI c ls sum gv l).2.1,.int .i64 (sI c ls sum gv l).2.2]):=fun e h1 h2=>by
   rw[if_pos (by rw[h1];exact h2),h1]at hsol
   rw[←hsol];exact P6 _ _
  repeat'((conv=>whnf);first|apply Exists.intro (s)|apply Exists.intro (w)|(intro hq;(try simp only[vw]at hq);try first|exact absurd hq (by decide)|exfalso;omega)|apply aI|with_reducible exact vM rfl|exact⟨⟩|apply nM|apply fM)
  all_goals((try apply vM);(try simp only[vq]at*);try omega)
  all_goals(try first|rfl|exact⟨t1,t2,hB,l9.of (by assumption)⟩|exact⟨hB,by omega,l9.of (by assumption)⟩|exact hno _ (hkn (by assumption)) (by assumption))
  ·have hd:dL c ls (l.getD i du0).r (l.getD i du0).y (l.getD i du0).x (l.getD i du0).k=0:=by assumption
   rename_i hq;exact hno _ ((hkj hd).trans (by cases okJ (aP (l.getD i du0).r).toNat s sum (ls.getD (l.getD i du0).k.toNat []) (l.getD i du0).y (l.getD i du0).x<;>rfl)) (by cases hc:okJ (aP (l.getD i du0).r).toNat s sum (ls.getD (l.getD i du0).k.toNat []) (l.getD i du0).y (l.getD i du0).x<;>rw[hc]at hq<;>simp at hq⊢)
  ·have hd:dL c ls (l.getD i du0).r (l.getD i du0).y (l.getD i du0).x (l.getD i du0).k=0:=by assumption
   rename_i hq;have hz:vk c ls sum s (l.getD i du0)=0:=(hkj hd).trans (ae2.1 hq);have hj:okJ (aP (l.getD i du0).r).toNat s sum (ls.getD (l.getD i du0).k.toNat []) (l.getD i du0).y (l.getD i du0).x=true:=by
    cases hc:okJ (aP (l.getD i du0).r).toNat s sum (ls.getD (l.getD i du0).k.toNat []) (l.getD i du0).y (l.getD i du0).x with
    |true=>rfl
    |false=>rw[hc]at hq;simp at hq
   rw[if_neg (by rw[hz];simp)]at hsol
   unfold okJ at hj;simp only[aeA,ag8,decide_eq_true_eq]at hj;have hD:=l9.of hd;obtain⟨b1,b2⟩:=FZ hB hI (g:=(aP (l.getD i du0).r).toNat) hD.y hD.x hj.1 hj.2.1;have b4:=AX (g:=(aP (l.getD i du0).r).toNat) (s:=s) (y:=(l.getD i du0).y) (x:=(l.getD i du0).x);refine⟨(i+1,apl (aP (l.getD i du0).r).toNat s (l.getD i du0).y (l.getD i du0).x),[],⟨⟨by simp only;omega,b1,b2,by simp only;omega,hsol⟩,by simp only;omega⟩,?_⟩
   simp only
   repeat'((conv=>whnf);first|intro _|apply aI|with_reducible exact vM rfl|exact⟨⟩|apply nM|apply fM)
   all_goals((try apply vM);(try simp only[vq]at*);try omega)
   all_goals skip
 ·have e:i=l.length:=by omega
  subst e;rw[ahg]at hsol;unfold Gc at hsol;rw[←hsol];rw[←hw]at t1 t2;have hL:=hB.lt;rw[←hw]at hL
  repeat'((conv=>whnf);first|apply Exists.intro (s)|apply Exists.intro (w)|(intro hq;(try simp only[vw]at hq);try first|exact absurd hq (by decide)|exfalso;omega)|apply aI|with_reducible exact vM rfl|exact⟨⟩|apply nM|apply fM)
  all_goals((try apply vM);(try simp only[vq]at*);try omega)
  all_goals first|exact⟨(by rw[hw]at t1⊢;exact t1),(by rw[hw]at t2⊢;exact t2),hL⟩|(rw[hw];exact Sup.of rfl)|skip
def mD (N l:List Int):Int:=l.foldl (fun a x=>a+N.getD x.toNat 0) 0
theorem Gd (N l:List Int) (x:Int):mD N (l++[x])=mD N l+N.getD x.toNat 0:=by unfold mD;rw[agq];rfl
theorem wC {N:List Int} (hN:∀x∈N,0≤x∧x≤16) (l:List Int):0≤mD N l∧mD N l≤16*l.length:=by
 obtain⟨n,hn⟩:∃n,l.length=n:=⟨_,rfl⟩;induction n generalizing l with
 |zero=>rw[List.length_eq_zero_iff.1 hn];simp[mD]
 |succ n ih=>
  obtain⟨l',x,rfl⟩:∃l' x,l=l'++[x]:=⟨l.take n,l.getD n 0,by rw[←dF (by omega),←hn,af5]⟩
  have ih:=ih l' (by simpa using hn)
  rw[Gd,afu];have:0≤N.getD x.toNat 0∧N.getD x.toNat 0≤16:=by
   rw[aeo];cases e:N[x.toNat]? with
   |none=>simp
   |some y=>exact hN y (List.mem_of_getElem? e)
  simp only[ad4,adY];omega
def vo (sum:Int) (N:List Int) (i:Int) (l:List Int):Bool:=!decide (l.getD (l.length-1) 0=i-1)||decide (mD N l=sum)
def lC (ls:List (List Int)) (sum:Int) (N:List Int) (i:Int):Bool:=ls.all (vo sum N i)
theorem pW {α:Type} {l:List α} {i:Nat} {d:α} (h:i<l.length):l.getD i d∈l:=by
 rw[aeo,aev h];exact List.getElem_mem _
theorem Yv {ls:List (List Int)} {sum:Int} {N:List Int} {i:Int} {j:Nat} (hj:j<ls.length) (h:vo sum N i (ls.getD j [])=false):lC ls sum N i=false:=by
 unfold lC;rw[ahh];exact⟨_,pW hj,by rw[h];simp⟩
abbrev srC (c:Int) (ls:List (List Int)) (sum:Int) (gv:List Int) (lim:Int) (nums:PV) (u:Int) (res:PV):CL:=.pv [.int .i64 c,.isl (.rows .i64 ls) .none,.int .i64 sum,.isl (.ints .i64 gv) .none,.int .i64 lim,nums,.int .u32 u,res]
structure Gf (c:Int) (N:List Int):Prop where
 len:(N.length:Int)=c
 rng:∀x∈N,0≤x∧x≤16
theorem P7 (c:Int) (ls:List (List Int)) (sum:Int) (gv:List Int) (lim:Int) (N:List Int) (u:Int) (R:List (List Int)) (i:Int) (h:dR c ls sum gv) (hN:Gf c N) (hi:0≤i∧i≤16):
 aF Tryz.prog 155 [.ip (srC c ls sum gv lim (.isl (.ints .i64 N) .none) u (.isl (.rows .i64 R) .none)) 0,.int .i64 i] (.bp (lC ls sum N i)):=by
 have hc:=h.c1;have hll:=h.ll;have hsm:=h.sm;have hNl:=hN.len;refine av (md:=1) (rf:=[]) mixed ak aD Tryz.func155 (by rfl) (by rfl) (by rfl) ?_
 repeat'((conv=>whnf);first|(intro hq;(try simp only[vw]at hq);try first|exact absurd hq (by decide)|exfalso;omega)|apply aI|with_reducible exact vM rfl|exact⟨⟩|apply nM|apply fM)
 all_goals((try apply vM);(try simp only[vq]at*);try omega)
 conv=>whnf
 refine aM (X:=Nat) (fun j=>j≤ls.length∧∀t,t<j→vo sum N i (ls.getD t [])=true) (fun j=>[(17,.int .i64 j)]) (fun j=>[]) (fun j=>ls.length-j) 0 ⟨aK,mixed,ak,aD,aQ⟩ (by rfl) ⟨by omega,fun t ht=>absurd ht (ahd t)⟩ ?_ ?_
 ·repeat'((conv=>whnf);first|intro _|apply aI|with_reducible exact vM rfl|exact⟨⟩|apply nM|apply fM)
  all_goals((try apply vM);(try simp only[vq]at*);try omega)
 intro j ⟨hj,hok⟩;by_cases hlt:j<ls.length
 ·have hL:=h.ln j hlt
  have hne:=hL.ne;have hlen:=hL.len;have eidx:((((ls.getD j []).length:Nat):Int)-1).toNat=(ls.getD j []).length-1:=by omega
  have hlast:=hL.rng ((ls.getD j []).getD ((ls.getD j []).length-1) 0) (bL (by omega))
  have hnext:vo sum N i (ls.getD j [])=true→∀t,t<j+1→vo sum N i (ls.getD t [])=true:=fun hh t ht=>by
   rcases ahe.1 ht with h'|h'
   ·exact hok t h'
   ·rw[h'];exact hh
  repeat'((conv=>whnf);first|(intro hq;(try simp only[vw]at hq);try first|exact absurd hq (by decide)|exfalso;omega)|apply aI|with_reducible exact vM rfl|exact⟨⟩|apply nM|apply fM)
  all_goals((try apply vM);(try simp only[vq]at*);try omega)
  all_goals(try omega)
  all_goals(try rw[eidx]at*)
  ·refine⟨j+1,[],⟨⟨by omega,hnext (by unfold vo;rw[decide_eq_false hq];rfl)⟩,by omega⟩,?_⟩
   repeat'((conv=>whnf);first|intro _|apply aI|with_reducible exact vM rfl|exact⟨⟩|apply nM|apply fM)
   all_goals((try apply vM);(try simp only[vq]at*);try omega)
  rename_i hq;have hla:=ae2.1 hq;conv=>whnf
  refine aM (X:=Nat) (fun k=>k≤(ls.getD j []).length) (fun k=>[(32,.int .i64 k),(7,.int .i64 (mD N ((ls.getD j []).take k)))]) (fun k=>[]) (fun k=>(ls.getD j []).length-k) 0 ⟨aK,mixed,ak,aD,aQ⟩ (by rfl) (by omega) ?_ ?_
  ·repeat'((conv=>whnf);first|intro _|apply aI|with_reducible exact vM rfl|exact⟨⟩|apply nM|apply fM)
   all_goals((try apply vM);(try simp only[vq]at*);try omega)
   all_goals skip
  intro k hk;have hb:=wC hN.rng ((ls.getD j []).take k);rw[ae0,aeU hk]at hb;by_cases hlk:k<(ls.getD j []).length
  ·have hx:=hL.rng ((ls.getD j []).getD k 0) (pW hlk)
   have hsx:mD N ((ls.getD j []).take (k+1))=mD N ((ls.getD j []).take k)+N.getD ((ls.getD j []).getD k 0).toNat 0:=by rw[dF hlk,Gd]
   have hv:=hN.rng (N.getD ((ls.getD j []).getD k 0).toNat 0) (pW (by omega))
   repeat'((conv=>whnf);first|(intro hq;(try simp only[vw]at hq);try first|exact absurd hq (by decide)|exfalso;omega)|apply aI|with_reducible exact vM rfl|exact⟨⟩|apply nM|apply fM)
   all_goals((try apply vM);(try simp only[vq]at*);try omega)
   all_goals(try omega)
   refine⟨k+1,[],⟨by omega,by omega⟩,?_⟩
   rw[hsx]
   repeat'((conv=>whnf);first|intro _|apply aI|with_reducible exact vM rfl|exact⟨⟩|apply nM|apply fM)
   all_goals((try apply vM);(try simp only[vq]at*);try omega)
   all_goals skip
  ·have e:k=(ls.getD j []).length:=by omega
   subst e;rw[af5]at*
   repeat'((conv=>whnf);first|(intro hq;(try simp only[vw]at hq);try first|exact absurd hq (by decide)|exfalso;omega)|apply aI|with_reducible exact vM rfl|exact⟨⟩|apply nM|apply fM)
   all_goals((try apply vM);(try simp only[vq]at*);try omega)
   all_goals(try omega)
   ·rw[Yv hlt (by unfold vo;rw[decide_eq_true hla,decide_eq_false hq];rfl)]
    exact dK false
   ·refine⟨j+1,[],⟨⟨by omega,hnext (by unfold vo;rw[decide_eq_true (ae2.1 hq),Bool.or_true])⟩,by omega⟩,?_⟩
    repeat'((conv=>whnf);first|intro _|apply aI|with_reducible exact vM rfl|exact⟨⟩|apply nM|apply fM)
    all_goals((try apply vM);(try simp only[vq]at*);try omega)
 ·have e:j=ls.length:=by omega
  subst e;have:lC ls sum N i=true:=by
   unfold lC;rw[afI];intro x hx;obtain⟨t,ht,rfl⟩:=aeu hx;have:=hok t ht
   rwa [aeo,aev ht]at this
  rw[this]
  repeat'((conv=>whnf);first|(intro hq;(try simp only[vw]at hq);try first|exact absurd hq (by decide)|exfalso;omega)|apply aI|with_reducible exact vM rfl|exact⟨⟩|apply nM|apply fM)
  all_goals((try apply vM);(try simp only[vq]at*);try omega)
  all_goals exact dK true
def MS:PSp:=fun xs K=>match xs with
 | [.ip (.pv [.int .i64 c,.isl (.rows .i64 ls) .none,.int .i64 sum,.isl (.ints .i64 gv) .none,.int .i64 lim,.isl (.ints .i64 N) .none,.int .u32 u,.isl (.rows .i64 R) .none]) 0,.int .i64 i]=>VC (dR c ls sum gv∧Gf c N∧0≤i∧i≤16)∧K (.bp (lC ls sum N i))
 |_=>False
theorem Yw:POK Tryz.prog 155 MS:=by
 intro xs K hk;unfold MS at hk;split at hk
 ·exact⟨_,hk.2,P7 _ _ _ _ _ _ _ _ _ hk.1.get.1 hk.1.get.2.1 hk.1.get.2.2⟩
 ·exact hk.elim
theorem SF (l:List Int) (hl:1≤l.length∧l.length≤1000000):aF Tryz.prog 102 [.isl (.ints .i64 l) .none] (.isl (.ints .i64 l) .none):=by
 refine av (md:=1) (rf:=[]) mixed ak aD Tryz.func102 (by rfl) (by rfl) (by rfl) ?_
 repeat'((conv=>whnf);first|intro _|apply aI|with_reducible exact vM rfl|exact⟨⟩|apply nM|apply fM)
 all_goals((try apply vM);(try simp only[vq]at*);try omega)
 all_goals first|(simp;omega)|exact Sup.of rfl
def SG:PSp:=fun xs K=>match xs with
 | [.isl (.ints .i64 l) .none]=>VC (1≤l.length∧l.length≤1000000)∧K (.isl (.ints .i64 l) .none)
 |_=>False
theorem abg:POK Tryz.prog 102 SG:=by
 intro xs K h;unfold SG at h;split at h
 ·exact⟨_,h.2,SF _ h.1.get⟩
 ·exact h.elim
theorem P8 (l:List Int) (hl:1≤l.length∧l.length≤1000000):gL Tryz.prog 102 [.isl (.ints .i64 l) .none] [] [.rsl 0 0 l.length] [.cells (.ints .i64 l) false]:=by
 refine bG (md:=1) (rf:=[7]) mixed ak aD 0 [(1,0)] Tryz.func102 (by rfl) (by rfl) (by rfl) ?_
 repeat'((conv=>whnf);first|(intro hq;(try simp only[vw]at hq);try first|exact absurd hq (by decide)|exfalso;omega)|apply aI|with_reducible exact vM rfl|exact⟨⟩|apply nM|apply fM)
 all_goals((try apply vM);(try simp only[vq]at*);try omega)
 all_goals skip
def MU:LSp:=fun xs objs K=>match xs,objs with
 | [.isl (.ints .i64 l) .none],[]=>VC (1≤l.length∧l.length≤1000000)∧K [.rsl 0 0 l.length] [.cells (.ints .i64 l) false]
 |_,_=>False
theorem JO:LOK Tryz.prog 102 MU:=by
 intro xs objs K hk;unfold MU at hk;split at hk
 ·exact⟨_,_,hk.2,P8 _ hk.1.get⟩
 ·exact hk.elim
def nN (lim:Int) (ls:List (List Int)) (sum:Int) (gv:List Int):Nat→List (List Int)→List Int→List Int→List (List Int)
 |0,R,N,U=>if lim≤R.length∨lC ls sum N gv.length=false then R else R++[N]
 |f+1,R,N,U=>if lim≤R.length∨lC ls sum N ((gv.length-(f+1):Nat):Int)=false then R
  else if 0<gv.getD (gv.length-(f+1)) 0 then nN lim ls sum gv f R N U
  else(ael gv.length).foldl (fun R (x:Nat)=>if((x:Int)+1)∈U then R else nN lim ls sum gv f R (N.set (gv.length-(f+1)) ((x:Int)+1)) (U++[(x:Int)+1])) R
theorem Gg {α:Type} {f:List (List Int)→α→List (List Int)} {b:Nat}:∀(l:List α) (R:List (List Int)),R.length≤b→(∀R x,R.length≤b→(f R x).length≤b)→(l.foldl f R).length≤b:=by
 intro l;induction l with
 |nil=>intro R h _;exact h
 |cons x l ih=>intro R h hf;exact ih _ (hf R x h) hf
theorem Gh {lim:Int} {ls:List (List Int)} {sum:Int} {gv:List Int} {b:Nat} (hl:lim≤b):∀(f:Nat) (R:List (List Int)) (N U:List Int),R.length≤b→(nN lim ls sum gv f R N U).length≤b:=by
 intro f;induction f with
 |zero=>
  intro R N U h;unfold nN;split
  ·exact h
  ·rw[afu,ad4,adY];omega
 |succ f ih=>
  intro R N U h;unfold nN;split
  ·exact h
  ·split
   ·exact ih _ _ _ h
   ·refine Gg _ _ h fun R x hR=>?_
    split
    ·exact hR
    ·exact ih _ _ _ hR
abbrev srO (c:Int) (ls:List (List Int)) (sum:Int) (gv:List Int) (lim:Int) (N U:List Int) (R:List (List Int)):List AO:=
 [.cells (srC c ls sum gv lim (.rsl 1 0 gv.length) ((mk U:Nat):Int) (.isl (.rows .i64 R) (.own 2))) false,.cells (.ints .i64 N) false,.tok 1 R.length]
structure SrI (c:Int) (gv:List Int) (f:Nat) (N U:List Int):Prop where
 n:Gf c N
 u:InM U
 fl:f≤gv.length
 z:∀j,gv.length-f≤j→j<gv.length→gv.getD j 0=0→N.getD j 0=0
def qG (f:Nat):Prop:=∀(c:Int) (ls:List (List Int)) (sum:Int) (gv:List Int) (lim:Int) (N U:List Int) (R:List (List Int)),dR c ls sum gv→lim≤256→R.length≤256→SrI c gv f N U→
 gL Tryz.prog 103 [.rp 0 0,.int .i64 ((gv.length-f:Nat):Int)] (srO c ls sum gv lim N U R) [] (srO c ls sum gv lim N U (nN lim ls sum gv f R N U))
def DL (f:Nat):LSp:=fun xs objs K=>match xs,objs with
 | [.rp 0 0,.int .i64 i],[.cells (.pv [.int .i64 c,.isl (.rows .i64 ls) .none,.int .i64 sum,.isl (.ints .i64 gv) .none,.int .i64 lim,.rsl 1 0 n,.int .u32 u,.isl (.rows .i64 R) (.own 2)]) false,.cells (.ints .i64 N) false,.tok 1 m]=>
  ∃U:List Int,VC (n=gv.length∧m=R.length∧u=(mk U:Nat)∧i=((gv.length-f:Nat):Int)∧dR c ls sum gv∧lim≤256∧R.length≤256∧SrI c gv f N U)∧K [] (srO c ls sum gv lim N U (nN lim ls sum gv f R N U))
 |_,_=>False
theorem Gi {f:Nat} (h:qG f):LOK Tryz.prog 103 (DL f):=by
 intro xs objs K hk;unfold DL at hk;split at hk
 ·obtain⟨U,⟨rfl,rfl,rfl,rfl,h1,h2,h3,h4⟩,hk⟩:=hk
  exact⟨_,_,hk,h _ _ _ _ _ _ _ _ h1 h2 h3 h4⟩
 ·exact hk.elim
theorem P9 (l:List Int) (hl:1≤l.length∧l.length≤1000000):gL Tryz.prog 102 [.rsl 0 0 l.length] [.cells (.ints .i64 l) false] [.isl (.ints .i64 l) .none] [.cells (.ints .i64 l) false]:=by
 have tk:agH (0+l.length-0) (agI 0 l)=l:=bP (by omega)
 refine bG (md:=1) (rf:=[]) mixed ak aD 1 [] Tryz.func102 (by rfl) (by rfl) (by rfl) ?_
 repeat'((conv=>whnf);first|(intro hq;(try simp only[vw]at hq);try first|exact absurd hq (by decide)|exfalso;omega)|apply aI|with_reducible exact vM rfl|exact⟨⟩|apply nM|apply fM)
 all_goals((try apply vM);(try simp only[vq]at*);try omega)
 all_goals first|exact .inl trivial|(simp;omega)|(simp;done)|skip
def SH:LSp:=fun xs objs K=>match xs,objs with
 | [.rsl 0 0 n],[.cells (.ints .i64 l) false]=>VC (n=l.length∧1≤l.length∧l.length≤1000000)∧K [.isl (.ints .i64 l) .none] [.cells (.ints .i64 l) false]
 |_,_=>False
theorem Yx:LOK Tryz.prog 102 SH:=by
 intro xs objs K hk;unfold SH at hk;split at hk
 ·obtain⟨⟨rfl,h⟩,hk⟩:=hk
  exact⟨_,_,hk,P9 _ h⟩
 ·exact hk.elim
noncomputable def abh:CPT:=aA 102 (dP [] SH) (aA 155 (gM MS) (aA 156 (aB zy) noC))
theorem Bf:aW Tryz.prog abh:=aj (cu [] Yx) (aj (eB Yw) (aj (au Am) aD))
theorem Qa:qG 0:=by
 intro c ls sum gv lim N U R h hlim hR hI;have hgl:=h.gl;have hNl:=hI.n.len;have hc:=h.c1;have hU:=gP hI.u;have tk:agH (gv.length-0) (agI 0 N)=N:=bP (by omega)
 have e0:((gv.length-0:Nat):Int)=gv.length:=by omega
 have hi:dR c ls sum gv∧Gf c (agH (gv.length-0) (agI 0 N))∧0≤((gv.length-0:Nat):Int)∧((gv.length-0:Nat):Int)≤16:=⟨h,by rw[tk];exact hI.n,by omega,by omega⟩
 have eR:∀b,lC ls sum (agH (gv.length-0) (agI 0 N)) ((gv.length-0:Nat):Int)=b→lC ls sum N gv.length=b:=fun b hb=>by rwa [tk]at hb
 unfold nN;by_cases hc1:lim≤R.length∨lC ls sum N gv.length=false
 ·rw[if_pos hc1]
  refine bG (md:=1) (rf:=[]) mixed ak Bf 3 [] Tryz.func103 (by rfl) (by rfl) (by rfl) ?_
  repeat'((conv=>whnf);first|(intro hq;(try simp only[vw]at hq);try first|exact absurd hq (by decide)|exfalso;omega)|apply aI|with_reducible exact vM rfl|exact⟨⟩|apply nM|apply fM)
  all_goals((try apply vM);(try simp only[vq]at*);try omega)
  all_goals(try first|exact hi|(exfalso;rename_i hq;have:=eR _ hq;rw[this]at hc1;simp at hc1;omega))
  all_goals skip
 ·rw[if_neg hc1]
  refine bG (md:=1) (rf:=[]) mixed ak Bf 3 [] Tryz.func103 (by rfl) (by rfl) (by rfl) ?_
  repeat'((conv=>whnf);first|(intro hq;(try simp only[vw]at hq);try first|exact absurd hq (by decide)|exfalso;omega)|apply aI|with_reducible exact vM rfl|exact⟨⟩|apply nM|apply fM)
  all_goals((try apply vM);(try simp only[vq]at*);try omega)
  all_goals(try first|exact hi|(rw[tk];omega)|omega|(exfalso;omega)|(exfalso;rename_i hq;exact hc1 (.inr (eR _ hq))))
  repeat'((conv=>whnf);first|(intro hq;(try simp only[vw]at hq);try first|exact absurd hq (by decide)|exfalso;omega)|apply aI|with_reducible exact vM rfl|exact⟨⟩|apply nM|apply fM)
  all_goals((try apply vM);(try simp only[vq]at*);try omega)
  all_goals(rw[afu,ad4,adY];try omega)
noncomputable def adp (f:Nat):CPT:=aA 103 (dP [] (DL f)) abh
theorem wD {f:Nat} (h:qG f):aW Tryz.prog (adp f):=aj (cu [] (Gi h)) Bf
theorem SI {l:List Int} (h:InM l) {x:Int} (hx:0≤x∧x≤31):Al (mk l) x=decide (x∈l):=by
 unfold Al;rw[OE h hx];by_cases hm:x∈l<;>simp[hm]
theorem SK {l:List Int} {x:Int} (h:x∉l):dQ (l++[x]) x=l:=by
 unfold dQ;rw[ag2,List.filter_eq_self.2 (fun y hy=>by simp;rintro rfl;exact h hy)]
 simp
theorem Qb {f:Nat} (ih:qG f):qG (f+1):=by
 intro c ls sum gv lim N U R h hlim hR hI;have hcp:=wD ih;have hgl:=h.gl;have hNl:=hI.n.len;have hc:=h.c1;have hU:=gP hI.u;have hfl:=hI.fl;have tk:agH (gv.length-0) (agI 0 N)=N:=bP (by omega)
 have e0:((gv.length-(f+1):Nat):Int)+1=((gv.length-f:Nat):Int):=by omega
 obtain⟨i,hi0⟩:∃i,gv.length-(f+1)=i:=⟨_,rfl⟩;have hii:i<gv.length:=by omega
 have hi:dR c ls sum gv∧Gf c (agH (gv.length-0) (agI 0 N))∧0≤(i:Int)∧(i:Int)≤16:=⟨h,by rw[tk];exact hI.n,by omega,by omega⟩
 have eR:∀b,lC ls sum (agH (gv.length-0) (agI 0 N)) (i:Int)=b→lC ls sum N i=b:=fun b hb=>by rwa [tk]at hb
 have hI':SrI c gv f N U:=⟨hI.n,hI.u,by omega,fun j h1 h2 h3=>hI.z j (by omega) h2 h3⟩
 unfold nN;rw[hi0]at e0⊢;by_cases hc1:lim≤R.length∨lC ls sum N i=false
 ·rw[if_pos hc1]
  refine bG (md:=1) (rf:=[]) mixed ak (wD ih) 3 [] Tryz.func103 (by rfl) (by rfl) (by rfl) ?_
  repeat'((conv=>whnf);first|(intro hq;(try simp only[vw]at hq);try first|exact absurd hq (by decide)|exfalso;omega)|apply aI|with_reducible exact vM rfl|exact⟨⟩|apply nM|apply fM)
  all_goals((try apply vM);(try simp only[vq]at*);try omega)
  all_goals(try first|exact hi|(exfalso;omega)|(exfalso;have:=eR true (by assumption);rw[this]at hc1;simp at hc1;omega))
  all_goals skip
 rw[if_neg hc1];by_cases hg:0<gv.getD i 0
 ·rw[if_pos hg]
  refine bG (md:=1) (rf:=[]) mixed ak (wD ih) 3 [] Tryz.func103 (by rfl) (by rfl) (by rfl) ?_
  repeat'((conv=>whnf);first|apply Exists.intro (U)|(intro hq;(try simp only[vw]at hq);try first|exact absurd hq (by decide)|exfalso;omega)|apply aI|with_reducible exact vM rfl|exact⟨⟩|apply nM|apply fM)
  all_goals((try apply vM);(try simp only[vq]at*);try omega)
  all_goals(try first|exact hi|(exfalso;omega)|(exfalso;rename_i hq;exact hc1 (.inr (eR _ hq)))|exact⟨rfl,rfl,rfl,e0,h,hlim,hR,hI'⟩|exact⟨e0,h,hlim,hR,hI'⟩|(exfalso;exact hq hg))
 rw[if_neg hg];refine bG (md:=1) (rf:=[]) mixed ak (wD ih) 3 [] Tryz.func103 (by rfl) (by rfl) (by rfl) ?_
 repeat'((conv=>whnf);first|(intro hq;(try simp only[vw]at hq);try first|exact absurd hq (by decide)|exfalso;omega)|apply aI|with_reducible exact vM rfl|exact⟨⟩|apply nM|apply fM)
 all_goals((try apply vM);(try simp only[vq]at*);try omega)
 all_goals(try first|exact hi|(exfalso;omega)|(exfalso;rename_i hq;exact hc1 (.inr (eR _ hq)))|(exfalso;exact hg hq))
 conv=>whnf
 have hz:=hI.z i (by omega) hii (by have:=h.gr _ (pW (d:=0) hii);omega)
 have hs0:∀v:Int,(N.set i v).set i 0=N:=fun v=>by
  rw[List.set_set];refine agW (by simp) fun j h1 h2=>?_
  rw[List.getElem_set];split
  ·rename_i e;subst e
   rw[aeo,aev (by omega)]at hz
   exact hz.symm
  ·rfl
 obtain⟨F,hF⟩:∃F:List (List Int)→Nat→List (List Int),F=fun R (x:Nat)=>if((x:Int)+1)∈U then R else nN lim ls sum gv f R (N.set i ((x:Int)+1)) (U++[(x:Int)+1]):=⟨_,rfl⟩;have hFs:∀x,(ael (x+1)).foldl F R=F ((ael x).foldl F R) x:=fun x=>by rw[ag0,agq];rfl
 have hFl:∀x,((ael x).foldl F R).length≤256:=fun x=>Gg _ _ hR fun R x hR=>by
  rw[hF];simp only;split
  ·exact hR
  ·exact Gh (by omega) _ _ _ _ hR
 rw[←hF];refine aM (X:=Nat) (fun x=>x≤gv.length) (fun x=>[(4,.int .i64 ((x:Int)+1))]) (fun x=>[(0,.cells (srC c ls sum gv lim (.rsl 1 0 gv.length) ((mk U:Nat):Int) (.isl (.rows .i64 ((ael x).foldl F R)) (.own 2))) false),(2,.tok 1 ((ael x).foldl F R).length)]) (fun x=>gv.length-x) 0 ⟨aK,mixed,ak,hcp,aQ⟩ (by rfl) (by omega) ?_ ?_
 ·repeat'((conv=>whnf);first|intro _|apply aI|with_reducible exact vM rfl|exact⟨⟩|apply nM|apply fM)
  all_goals((try apply vM);(try simp only[vq]at*);try omega)
  all_goals skip
 intro x hx;by_cases hlt:x<gv.length
 ·have hx31:0≤(x:Int)+1∧(x:Int)+1≤31:=by omega
  have hhas:=SI hI.u hx31;have hRx:=hFl x;have hFx:=hFs x;by_cases hm:((x:Int)+1)∈U
  ·rw[decide_eq_true hm]at hhas
   have hstep:F ((ael x).foldl F R) x=(ael x).foldl F R:=by rw[hF];exact if_pos hm
   rw[hstep]at hFx
   repeat'((conv=>whnf);first|apply Exists.intro (U)|(intro hq;(try simp only[vw]at hq);try first|exact absurd hq (by decide)|exfalso;omega)|apply aI|with_reducible exact vM rfl|exact⟨⟩|apply nM|apply fM)
   all_goals((try apply vM);(try simp only[vq]at*);try omega)
   all_goals(try(exfalso;rw[hhas]at hq;cases hq;done))
   refine⟨x+1,[],⟨by omega,by omega⟩,?_⟩
   rw[hFx]
   repeat'((conv=>whnf);first|intro _|apply aI|with_reducible exact vM rfl|exact⟨⟩|apply nM|apply fM)
   all_goals((try apply vM);(try simp only[vq]at*);try omega)
   all_goals skip
  ·rw[decide_eq_false hm]at hhas
   have hstep:F ((ael x).foldl F R) x=nN lim ls sum gv f ((ael x).foldl F R) (N.set i ((x:Int)+1)) (U++[(x:Int)+1]):=by rw[hF];exact if_neg hm
   rw[hstep]at hFx;have hor:=rQ hI.u hx31;have hU1:InM (U++[(x:Int)+1]):=fun y hy=>by
    rcases aep.1 hy with h|h
    ·exact hI.u y h
    ·simp at h;subst h;exact hx31
   have hdel:=qz hU1 hx31;rw[SK hm]at hdel;have hU1l:=gP hU1;have hI1:SrI c gv f (N.set i ((x:Int)+1)) (U++[(x:Int)+1]):=by
    refine⟨⟨by rw[aeP];exact hNl,fun y hy=>?_⟩,hU1,by omega,fun j h1 h2 h3=>?_⟩
    ·rcases List.mem_or_eq_of_mem_set hy with h|rfl
     ·exact hI.n.rng y h
     ·omega
    ·have:=hI.z j (by omega) h2 h3
     rw[aeo,List.getElem?_set_ne (by omega),←aeo];exact this
   have hsb:=gQ ((x:Int)+1).toNat (by omega)
   have hR2:=Gh (lim:=lim) (ls:=ls) (sum:=sum) (gv:=gv) (b:=256) (by omega) f _ (N.set i ((x:Int)+1)) (U++[(x:Int)+1]) hRx
   obtain⟨U1,hU1e⟩:∃U1,U1=U++[(x:Int)+1]:=⟨_,rfl⟩;rw[←hU1e]at hor hU1 hdel hU1l hI1 hR2 hFx
   repeat'((conv=>whnf);first|apply Exists.intro (U1)|(intro hq;(try simp only[vw]at hq);try first|exact absurd hq (by decide)|exfalso;omega)|apply aI|with_reducible exact vM rfl|exact⟨⟩|apply nM|apply fM)
   all_goals((try apply vM);(try simp only[vq]at*);try omega)
   all_goals(try(exfalso;rw[hhas]at hq;cases hq;done))
   all_goals(try first|exact⟨hor,e0,h,hlim,hRx,hI1⟩|(rw[aeP];omega))
   refine⟨x+1,[],⟨by omega,by omega⟩,?_⟩
   rw[hFx];have hs1:=hs0 ((x:Int)+1)
   repeat'((conv=>whnf);first|intro _|apply aI|with_reducible exact vM rfl|exact⟨⟩|apply nM|apply fM)
   all_goals((try apply vM);(try simp only[vq]at*);try omega)
   all_goals first|exact hdel|exact hs1|skip
 ·have e:x=gv.length:=by omega
  subst e
  repeat'((conv=>whnf);first|(intro hq;(try simp only[vw]at hq);try first|exact absurd hq (by decide)|exfalso;omega)|apply aI|with_reducible exact vM rfl|exact⟨⟩|apply nM|apply fM)
  all_goals((try apply vM);(try simp only[vq]at*);try omega)
  all_goals skip
theorem SL:∀f,qG f:=fun f=>by
 induction f with
 |zero=>exact Qa
 |succ f ih=>exact Qb ih
def zeN (l:List Int):Nat:=(l.filter fun x=>decide (x=0)).length
theorem Yy (l:List Int) (x:Int):zeN (l++[x])=if x=0 then zeN l+1 else zeN l:=by
 unfold zeN;rw[ag2,afu];by_cases h:x=0
 ·subst h;rfl
 ·rw[if_neg h,List.filter_cons,if_neg (by simpa using h)];rfl
theorem abj (l:List Int):zeN l≤l.length:=agM _ _
def mE (lim:Int):Int:=if lim<0∨256<lim then 3 else 0
def DN (c:Int) (ls:List (List Int)) (sum:Int) (gv:List Int) (lim:Int):List (List Int) × Int:=
 if aG [pzE c ls sum gv,mE lim]≠0 then([],aG [pzE c ls sum gv,mE lim])else if 9<zeN gv then([],20)else(nN lim ls sum gv gv.length [] gv gv,0)
noncomputable def adq (n:Nat):CPT:=aA 22 (aB kC) (aA 88 (aB fZ) (aA 89 (aB eO) (aA 102 (dP [] MU) (aA 103 (dP [] (DL n)) noC))))
theorem Yz (n:Nat):aW Tryz.prog (adq n):=aj (au jJ) (aj (au fA) (aj (au eY) (aj (cu [] JO) (aj (cu [] (Gi (SL n))) aD))))
theorem Qc (e:Int):Sup (bF [PV.nils,PV.int .i64 e]) (.tup [.isl (.rows .i64 []) .none,.int .i64 e]):=by all_goals(refine Sup.via ?_;repeat'((conv=>whnf);first|intro _|apply aI|with_reducible exact vM rfl|exact⟨⟩|apply nM|apply fM);all_goals((try apply vM);(try simp only[vq]at*);try omega);all_goals(try(simp[CL.sub];done)))
theorem Bg (c:Int) (ls:List (List Int)) (sum:Int) (gv:List Int) (lim:Int) (h:bH ls) (hg:gv.length≤5000):aF Tryz.prog 39 [pzV c ls sum gv,.int .i64 lim] (.tup [.isl (.rows .i64 (DN c ls sum gv lim).1) .none,.int .i64 (DN c ls sum gv lim).2]):=by
 have hcp:=Yz gv.length;have hA:lim<0→3=mE lim:=fun hl=>by unfold mE;rw[if_pos (.inl hl)]
 have hB:¬lim<0→(if 256<lim then 3 else 0)=mE lim:=fun hl=>by
  unfold mE;by_cases h2:256<lim
  ·rw[if_pos h2,if_pos (.inr h2)]
  ·rw[if_neg h2,if_neg (by omega)]
 unfold DN;by_cases he:aG [pzE c ls sum gv,mE lim]=0
 case neg=>
  rw[if_pos he];have hk:∀x,x=mE lim→Sup (bF [PV.nils,PV.int .i64 (aG [pzE c ls sum gv,x])]) (.tup [.isl (.rows .i64 []) .none,.int .i64 (aG [pzE c ls sum gv,mE lim])]):=fun x hx=>by rw[hx];exact Qc _
  have hk2:∀x,x=mE lim→aG [pzE c ls sum gv,x]≠0:=fun x hx=>by rw[hx];exact he
  refine eD (md:=1) (rf:=[]) mixed ak hcp Tryz.func39 (by rfl) (by rfl) (by rfl) ?_
  repeat'((conv=>whnf);first|(intro hq;(try simp only[vw]at hq);try first|exact absurd hq (by decide)|exfalso;omega)|apply aI|with_reducible exact vM rfl|exact⟨⟩|apply nM|apply fM)
  all_goals((try apply vM);(try simp only[vq]at*);try omega)
  all_goals first|exact⟨h,hg⟩|exact hk _ (hB (by omega))|(rw[if_pos trivial];exact hk _ (hA (by omega)))|exact hk _ (hA (by omega))|(exfalso;exact ‹¬aG [_,if 256<lim then 3 else 0]≠0› (hk2 _ (hB (by omega))))|(exfalso;exact ‹¬aG [_,3]≠0› (hk2 _ (hA (by omega))))|skip
 rw[if_neg (by rw[he];simp)]
 obtain⟨h1,h2⟩:=mh he;have hp:=dR.of h1;have hgl:=hp.gl;have hc:=hp.c1;have hl:0≤lim∧lim≤256:=by
  unfold mE at h2;by_cases e:lim<0∨256<lim
  ·rw[if_pos e]at h2;cases h2
  ·omega
 have hk2:∀x,x=mE lim→aG [pzE c ls sum gv,x]=0:=fun x hx=>by rw[hx];exact he
 refine eD (md:=1) (rf:=[]) mixed ak hcp Tryz.func39 (by rfl) (by rfl) (by rfl) ?_
 repeat'((conv=>whnf);first|(intro hq;(try simp only[vw]at hq);try first|exact absurd hq (by decide)|exfalso;omega)|apply aI|with_reducible exact vM rfl|exact⟨⟩|apply nM|apply fM)
 all_goals((try apply vM);(try simp only[vq]at*);try omega)
 all_goals(try first|exact⟨h,hg⟩|(exfalso;omega)|(exfalso;exact ‹aG [_,_]≠0› (hk2 _ (by unfold mE;(repeat' split)<;>first|rfl|(exfalso;omega)|(exfalso;exact absurd trivial ‹¬True›)))))
 conv=>whnf
 refine aM (X:=Nat) (fun k=>k≤gv.length) (fun k=>[(30,.int .i64 k),(7,.int .i64 (zeN (gv.take k):Nat))]) (fun k=>[]) (fun k=>gv.length-k) 0 ⟨aK,mixed,ak,hcp,aQ⟩ (by rfl) (by omega) ?_ ?_
 ·repeat'((conv=>whnf);first|intro _|apply aI|with_reducible exact vM rfl|exact⟨⟩|apply nM|apply fM)
  all_goals((try apply vM);(try simp only[vq]at*);try omega)
  all_goals skip
 intro k hk;have hzl:=abj (gv.take k);rw[ae0]at hzl;by_cases hlt:k<gv.length
 ·have hza:zeN (gv.take (k+1))=if gv.getD k 0=0 then zeN (gv.take k)+1 else zeN (gv.take k):=by rw[dF hlt,Yy]
  repeat'((conv=>whnf);first|(intro hq;(try simp only[vw]at hq);try first|exact absurd hq (by decide)|exfalso;omega)|apply aI|with_reducible exact vM rfl|exact⟨⟩|apply nM|apply fM)
  all_goals((try apply vM);(try simp only[vq]at*);try omega)
  all_goals(try omega)
  ·refine⟨k+1,[],⟨by omega,by omega⟩,?_⟩
   rw[hza,if_pos ‹gv.getD k 0=0›]
   repeat'((conv=>whnf);first|intro _|apply aI|with_reducible exact vM rfl|exact⟨⟩|apply nM|apply fM)
   all_goals((try apply vM);(try simp only[vq]at*);try omega)
   all_goals skip
  ·refine⟨k+1,[],⟨by omega,by omega⟩,?_⟩
   rw[hza,if_neg ‹¬gv.getD k 0=0›]
   repeat'((conv=>whnf);first|intro _|apply aI|with_reducible exact vM rfl|exact⟨⟩|apply nM|apply fM)
   all_goals((try apply vM);(try simp only[vq]at*);try omega)
   all_goals skip
 have e:k=gv.length:=by omega
 subst e;rw[af5]at*;by_cases hz9:9<zeN gv
 ·rw[if_pos hz9]
  repeat'((conv=>whnf);first|(intro hq;(try simp only[vw]at hq);try first|exact absurd hq (by decide)|exfalso;omega)|apply aI|with_reducible exact vM rfl|exact⟨⟩|apply nM|apply fM)
  all_goals((try apply vM);(try simp only[vq]at*);try omega)
  all_goals first|exact Qc _|(exfalso;omega)|skip
 rw[if_neg hz9]
 repeat'((conv=>whnf);first|(intro hq;(try simp only[vw]at hq);try first|exact absurd hq (by decide)|exfalso;omega)|apply aI|with_reducible exact vM rfl|exact⟨⟩|apply nM|apply fM)
 all_goals((try apply vM);(try simp only[vq]at*);try omega)
 all_goals(try omega)
 conv=>whnf
 refine aM (X:=Nat) (fun k=>k≤gv.length) (fun k=>[(51,.int .i64 k)]) (fun k=>[(18,.cells (srC c ls sum gv lim (.rsl 14 0 gv.length) ((mk (gv.take k):Nat):Int) (.isl (.rows .i64 []) (.own 22))) false),(22,.tok 1 0)]) (fun k=>gv.length-k) 0 ⟨aK,mixed,ak,hcp,aQ⟩ (by rfl) (by omega) ?_ ?_
 ·repeat'((conv=>whnf);first|intro _|apply aI|with_reducible exact vM rfl|exact⟨⟩|apply nM|apply fM)
  all_goals((try apply vM);(try simp only[vq]at*);try omega)
  all_goals first|rfl|skip
 intro k hk;have hInM:∀j,InM (gv.take j):=fun j y hy=>by have:=hp.gr y (agG hy);omega
 have hmk:=gP (hInM k);by_cases hlt:k<gv.length
 ·have hx:=hp.gr (gv.getD k 0) (pW hlt)
  have hsb:=gQ (gv.getD k 0).toNat (by omega)
  have hor:=rQ (hInM k) (show 0≤gv.getD k 0∧gv.getD k 0≤31 by omega)
  rw[←dF hlt]at hor
  repeat'((conv=>whnf);first|(intro hq;(try simp only[vw]at hq);try first|exact absurd hq (by decide)|exfalso;omega)|apply aI|with_reducible exact vM rfl|exact⟨⟩|apply nM|apply fM)
  all_goals((try apply vM);(try simp only[vq]at*);try omega)
  all_goals(try omega)
  refine⟨k+1,[],⟨by omega,by omega⟩,?_⟩
  repeat'((conv=>whnf);first|intro _|apply aI|with_reducible exact vM rfl|exact⟨⟩|apply nM|apply fM)
  all_goals((try apply vM);(try simp only[vq]at*);try omega)
  all_goals exact hor
 have e:k=gv.length:=by omega
 subst e;rw[af5]at*;have e0:(0:Int)=((gv.length-gv.length:Nat):Int):=by omega
 have hI:SrI c gv gv.length gv gv:=⟨⟨by omega,fun x hx=>by have:=hp.gr x hx;omega⟩,fun x hx=>by have:=hp.gr x hx;omega,aea _,fun j _ _ h=>h⟩
 repeat'((conv=>whnf);first|apply Exists.intro (gv)|(intro hq;(try simp only[vw]at hq);try first|exact absurd hq (by decide)|exfalso;omega)|apply aI|with_reducible exact vM rfl|exact⟨⟩|apply nM|apply fM)
 all_goals((try apply vM);(try simp only[vq]at*);try omega)
 ·exact⟨e0,hp,hl.2,by omega,hI⟩
 ·exact Sup.of rfl
def abk (C1 C2:CT):CT:=fun args n H K=>∃b:Bool,match b with
 |true=>C1 args n H K
 |false=>C2 args n H K
theorem YA {P:Program} {g:FuncId} {C1 C2:CT} (h1:COK P g C1) (h2:COK P g C2):COK P g (abk C1 C2):=by
 intro args n H K hk;obtain⟨b,hk⟩:=hk;cases b with
 |true=>exact h1 _ _ _ _ hk
 |false=>exact h2 _ _ _ _ hk
noncomputable def adr:CPT:=aA 102 (abk (dP [] MU) (aB SG)) noC
theorem JQ:aW Tryz.prog adr:=aj (YA (cu [] JO) (au abg)) aD
theorem Ip (c:Int) (ls:List (List Int)) (sum:Int) (gv:List Int) (hg:1≤gv.length∧gv.length≤1000000) (hl:ls.length≤5000) (hn:∀i,i<ls.length→1≤(ls.getD i []).length∧(ls.getD i []).length≤5000):
 gL Tryz.prog 124 [pzV c ls sum gv] [] [.agg [.int .i64 c,.isl (.rows .i64 ls) .none,.int .i64 sum,.rsl 0 0 gv.length]] [.cells (.ints .i64 gv) false]:=by
 refine bG (md:=1) (rf:=[]) mixed ak JQ 0 [(2,0)] Tryz.func124 (by rfl) (by rfl) (by rfl) ?_
 repeat'((conv=>whnf);first|apply Exists.intro (true)|(intro hq;(try simp only[vw]at hq);try first|exact absurd hq (by decide)|exfalso;omega)|apply aI|with_reducible exact vM rfl|exact⟨⟩|apply nM|apply fM)
 all_goals((try apply vM);(try simp only[vq]at*);try omega)
 conv=>whnf
 refine aM (X:=Nat) (fun k=>k≤ls.length) (fun k=>[(20,.int .i64 k)]) (fun k=>[(6,.cells (.pv [.int .i64 c,.isl (.rows .i64 (ls.take k)) (.own 12),.int .i64 sum,.rsl 2 0 gv.length]) false),(12,.tok 1 k)]) (fun k=>ls.length-k) 0 ⟨aK,mixed,ak,JQ,aQ⟩ (by rfl) (by omega) ?_ ?_
 ·repeat'((conv=>whnf);first|intro _|apply aI|with_reducible exact vM rfl|exact⟨⟩|apply nM|apply fM)
  all_goals((try apply vM);(try simp only[vq]at*);try omega)
  all_goals skip
 intro k hk;by_cases hlt:k<ls.length
 ·have hl1:=hn k hlt
  have e1:(ls.take k).length=k:=by rw[ae0];omega
  have e2:ls.take k++[ls.getD k []]=ls.take (k+1):=by
   rw[af3,aeo,aev hlt];rfl
  repeat'((conv=>whnf);first|apply Exists.intro (false)|(intro hq;(try simp only[vw]at hq);try first|exact absurd hq (by decide)|exfalso;omega)|apply aI|with_reducible exact vM rfl|exact⟨⟩|apply nM|apply fM)
  all_goals((try apply vM);(try simp only[vq]at*);try omega)
  all_goals(try(simp only[afu,ae0,ad4,adY];omega))
  all_goals(try omega)
  refine⟨k+1,[],⟨by omega,by omega⟩,?_⟩
  repeat'((conv=>whnf);first|intro _|apply aI|with_reducible exact vM rfl|exact⟨⟩|apply nM|apply fM)
  all_goals((try apply vM);(try simp only[vq]at*);try omega)
  all_goals(try(rw[e2]))
 ·have e:k=ls.length:=by omega
  subst e;rw[af5]
  repeat'((conv=>whnf);first|(intro hq;(try simp only[vw]at hq);try first|exact absurd hq (by decide)|exfalso;omega)|apply aI|with_reducible exact vM rfl|exact⟨⟩|apply nM|apply fM)
  all_goals((try apply vM);(try simp only[vq]at*);try omega)
  all_goals skip
theorem Qd (L0:List Int) (hl:L0.length≤1000000):mM Tryz.prog 231 [] [.ip (.pv [.isl (.ints .i64 L0) .none]) 0] 1 (L0.map (PV.int .i64)):=by
 refine kJ (md:=1) (rf:=[]) mixed ak Tryz.func231 (by rfl) (by rfl) (by rfl) fun G go b hY=>⟨_,aD,?_⟩
 obtain⟨L,hL⟩:∃L,L=L0.map (PV.int .i64):=⟨_,rfl⟩;have hlen:L.length=L0.length:=by simp[hL]
 have hget:∀i,i<L0.length→L[i]? =some (.int .i64 (L0.getD i 0)):=fun i hi=>by simp[hL,hi]
 rw[←hL]at hY⊢;have W:Walk Tryz.prog none jX tab.get noC (rH b 1 G go L):=⟨aK,mixed,ak,aD,hY _ _⟩;have stop:∀i,i<L0.length→GoTo go L i→go (L.take i++[.int .i64 (L0.getD i 0)])=false→L.take i++[.int .i64 (L0.getD i 0)]=iC go [] L:=fun i hi hg h=>by
  rw[dV (hget i hi)]at h⊢;rw[uj (by omega) hg h]
 have cont:∀i,i<L0.length→GoTo go L i→go (L.take i++[.int .i64 (L0.getD i 0)])=true→GoTo go L (i+1):=fun i hi hg h=>hg.succ (by rw[←dV (hget i hi)];exact h)
 have done:GoTo go L L0.length→L.take L0.length=iC go [] L:=fun hg=>by rw[xu (by omega) hg,←hlen];simp
 repeat'((conv=>whnf);first|intro _|apply aI|with_reducible exact vM rfl|exact⟨⟩|apply nM|apply fM)
 all_goals((try apply vM);(try simp only[vq]at*);try omega)
 conv=>whnf
 refine aM (X:=Nat) (fun k=>k≤L0.length∧GoTo go L k) (fun k=>[(7,.int .i64 k),(4,.any)]) (fun k=>[(0,.ext G (L.take k))]) (fun k=>L0.length-k) 0 W (by rfl) ⟨by omega,.zero⟩ ?_ ?_
 ·repeat'((conv=>whnf);first|intro _|apply aI|with_reducible exact vM rfl|exact⟨⟩|apply nM|apply fM)
  all_goals((try apply vM);(try simp only[vq]at*);try omega)
  all_goals simp
 intro k hk;obtain⟨hk1,hk3⟩:=hk;by_cases hlt:k<L0.length
 ·repeat'((conv=>whnf);first|intro _|apply aI|with_reducible exact vM rfl|exact⟨⟩|apply nM|apply fM)
  all_goals((try apply vM);(try simp only[vq]at*);try omega)
  ·exact Ox (hget k hlt) hk3
  ·exact stop k hlt hk3 (by simp_all)
  ·rename_i hgo
   refine⟨k+1,[],⟨⟨by omega,cont k hlt hk3 (by simpa using hgo)⟩,by omega⟩,?_⟩
   repeat'((conv=>whnf);first|intro _|apply aI|with_reducible exact vM rfl|exact⟨⟩|apply nM|apply fM)
   all_goals((try apply vM);(try simp only[vq]at*);try omega)
   exact dV (hget k hlt)
 ·have:L0.length=k:=by omega
  subst this
  repeat'((conv=>whnf);first|intro _|apply aI|with_reducible exact vM rfl|exact⟨⟩|apply nM|apply fM)
  all_goals((try apply vM);(try simp only[vq]at*);try omega)
  exact done hk3
def hsA (L:List Int):Nat→List (Nat × AO)
 |0=>[]
 |i+1=>[(0,.cells (.pv [.rsl 5 0 (i+1)]) false),(5,.cells (.ints .i64 (L.take (i+1))) false)]
theorem Bh (L:List Int) (hl:1≤L.length∧L.length≤1000000):gL Tryz.prog 188 [.nils,.fn (.func 231) [] [.ip (.pv [.isl (.ints .i64 L) .none]) 0]] [] [.rsl 0 0 L.length] [.cells (.ints .i64 L) false]:=by
 refine bG (md:=1) (rf:=[11]) mixed ak aD 0 [(5,0)] Tryz.func188 (by rfl) (by rfl) (by rfl) ?_
 repeat'((conv=>whnf);first|intro _|apply aI|with_reducible exact vM rfl|exact⟨⟩|apply nM|apply fM)
 all_goals((try apply vM);(try simp only[vq]at*);try omega)
 conv=>whnf
 refine gU aK mixed ak aD (fun r=>aQ) (fs:=[]) (cs:=[.ip (.pv [.isl (.ints .i64 L) .none]) 0]) (L.map (PV.int .i64)) (fun _=>true) (hsA L) (by rfl) (by rfl) (by rfl) (Qd L hl.2) (by rfl) (by rfl) (by rfl) (by rfl) ?_ ?_ ?_
 ·repeat'((conv=>whnf);first|intro _|apply aI|with_reducible exact vM rfl|exact⟨⟩|apply nM|apply fM)
  all_goals((try apply vM);(try simp only[vq]at*);try omega)
 ·intro hall
  obtain⟨m,hm⟩:∃m,L.length=m+1:=⟨L.length-1,by omega⟩
  have ht:L.take (m+1)=L:=by rw[←hm,af5]
  rw[af0,hm]
  repeat'((conv=>whnf);first|intro _|apply aI|with_reducible exact vM rfl|exact⟨⟩|apply nM|apply fM)
  all_goals((try apply vM);(try simp only[vq]at*);try omega)
  all_goals(try rw[ht])
 ·intro i x hx hall lp
  have hx':i<L.length∧x=.int .i64 (L.getD i 0):=by
   rw[ae7]at hx;cases h:L[i]? with
   |none=>rw[h]at hx;cases hx
   |some y=>
    rw[h]at hx;cases hx
    have:=(afS.1 h).1;exact⟨this,by rw[aeo,h];rfl⟩
  obtain⟨hi,rfl⟩:=hx';cases i with
  |zero=>
   have e1:[L.getD 0 0]=L.take 1:=by
    cases L with
    |nil=>simp at hi
    |cons a r=>rfl
   repeat'((conv=>whnf);first|intro _|apply aI|with_reducible exact vM rfl|exact⟨⟩|apply nM|apply fM)
   all_goals((try apply vM);(try simp only[vq]at*);try omega)
   refine⟨[(2,5)],?_⟩
   repeat'((conv=>whnf);first|intro _|apply aI|with_reducible exact vM rfl|exact⟨⟩|apply nM|apply fM)
   all_goals((try apply vM);(try simp only[vq]at*);try omega)
   all_goals(try(rw[e1]))
  |succ i=>
   have e1:(L.take (i+1)).length=i+1:=by rw[ae0];omega
   have e2:agH (i+1-0) (agI 0 (agH (i+1) L))++[L.getD (i+1) 0]=L.take (i+1+1):=by
    rw[agJ,agK,List.take_take,Nat.min_self,af3 (i:=i+1),aeo,aev hi];rfl
   repeat'((conv=>whnf);first|intro _|apply aI|with_reducible exact vM rfl|exact⟨⟩|apply nM|apply fM)
   all_goals((try apply vM);(try simp only[vq]at*);try omega)
   all_goals(try(rw[ae0];omega))
   refine⟨[(2,5)],?_⟩
   repeat'((conv=>whnf);first|intro _|apply aI|with_reducible exact vM rfl|exact⟨⟩|apply nM|apply fM)
   all_goals((try apply vM);(try simp only[vq]at*);try omega)
   all_goals(try(rw[e2]))
def MV:LSp:=fun xs objs K=>match xs,objs with
 | [.nils,.fn (.func f) [] [.ip (.pv [.isl (.ints .i64 L) .none]) 0]],[]=>VC (f=231∧1≤L.length∧L.length≤1000000)∧K [.rsl 0 0 L.length] [.cells (.ints .i64 L) false]
 |_,_=>False
theorem YB:LOK Tryz.prog 188 MV:=by
 intro xs objs K hk;unfold MV at hk;split at hk
 ·obtain⟨⟨rfl,h⟩,hk⟩:=hk
  exact⟨_,_,hk,Bh _ h⟩
 ·exact hk.elim
def Gj:LSp:=fun xs objs K=>match xs,objs with
 | [.fn (.func f) [] [.ip (.pv [.isl (.ints .i64 L) .none]) 0]],[]=>VC (f=231∧1≤L.length∧L.length≤1000000)∧K [.rsl 0 0 L.length] [.cells (.ints .i64 L) false]
 |_,_=>False
noncomputable def ads:CPT:=aA 188 (dP [] MV) noC
theorem YC:aW Tryz.prog ads:=aj (cu [] YB) aD
theorem Gl (L:List Int) (hl:1≤L.length∧L.length≤1000000):gL Tryz.prog 148 [.fn (.func 231) [] [.ip (.pv [.isl (.ints .i64 L) .none]) 0]] [] [.rsl 0 0 L.length] [.cells (.ints .i64 L) false]:=by
 refine bG (md:=1) (rf:=[]) mixed ak YC 0 [(0,0)] Tryz.func148 (by rfl) (by rfl) (by rfl) ?_
 repeat'((conv=>whnf);first|intro _|apply aI|with_reducible exact vM rfl|exact⟨⟩|apply nM|apply fM)
 all_goals((try apply vM);(try simp only[vq]at*);try omega)
 all_goals trace_state
theorem SN:LOK Tryz.prog 148 Gj:=by
 intro xs objs K hk;unfold Gj at hk;split at hk
 ·obtain⟨⟨rfl,h⟩,hk⟩:=hk
  exact⟨_,_,hk,Gl _ h⟩
 ·exact hk.elim
theorem YD:COK Tryz.prog 219 zk:=Om (enters' Tryz.func219 (by rfl) (by rfl)) Go.Proofs.Tryz.slices_Sort_int
noncomputable def adt:CPT:=aA 148 (dP [] Gj) (aA 219 zk noC)
theorem YE:aW Tryz.prog adt:=aj (cu [] SN) (aj YD aD)
theorem Iq (L:List Int) (hl:1≤L.length∧L.length≤1000000):aF Tryz.prog 204 [.fn (.func 231) [] [.ip (.pv [.isl (.ints .i64 L) .none]) 0]] (.isl (.ints .i64 (fG L)) .none):=by
 have e:=mY L;refine av (md:=1) (rf:=[]) mixed ak YE Tryz.func204 (by rfl) (by rfl) (by rfl) ?_
 repeat'((conv=>whnf);first|intro _|apply aI|with_reducible exact vM rfl|exact⟨⟩|apply nM|apply fM)
 all_goals((try apply vM);(try simp only[vq]at*);try omega)
 all_goals(refine Sup.via ?_;repeat'((conv=>whnf);first|intro _|apply aI|with_reducible exact vM rfl|exact⟨⟩|apply nM|apply fM);all_goals((try apply vM);(try simp only[vq]at*);try omega);all_goals(try(simp[CL.sub];done)))
 all_goals(simp only[CL.sub,agJ,agK];rw[List.take_of_length_le (by omega)])
def Bj:PSp:=fun xs K=>match xs with
 | [.fn (.func f) [] [.ip (.pv [.isl (.ints .i64 L) .none]) 0]]=>VC (f=231∧1≤L.length∧L.length≤1000000)∧K (.isl (.ints .i64 (fG L)) .none)
 |_=>False
theorem Qe:POK Tryz.prog 204 Bj:=by
 intro xs K hk;unfold Bj at hk;split at hk
 ·obtain⟨⟨rfl,h⟩,hk⟩:=hk
  exact⟨_,hk,Iq _ h⟩
 ·exact hk.elim
theorem Ir (l:CL):aF Tryz.prog 205 [.isl l .none] (.fn (.func 231) [] [.ip (.pv [.isl l .none]) 0]):=by
 refine av (md:=1) (rf:=[]) mixed ak aD Tryz.func205 (by rfl) (by rfl) (by rfl) ?_
 repeat'((conv=>whnf);first|intro _|apply aI|with_reducible exact vM rfl|exact⟨⟩|apply nM|apply fM)
 all_goals((try apply vM);(try simp only[vq]at*);try omega)
 all_goals exact Sup.of rfl
def Bl:PSp:=fun xs K=>match xs with
 | [.isl c .none]=>K (.fn (.func 231) [] [.ip (.pv [.isl c .none]) 0])
 |_=>False
theorem Qf:POK Tryz.prog 205 Bl:=by
 intro xs K hk;unfold Bl at hk;split at hk
 ·exact⟨_,hk,Ir _⟩
 ·exact hk.elim
def nO (l:List Int):Bool:=(ael l.length).all fun i=>decide ((fG l).getD i 0=(i:Int)+1)
theorem Qg {l:List Int} (h:∀i,i<l.length→(fG l).getD i 0=(i:Int)+1):nO l=true:=afI.2 fun i hi=>by simpa using h i (by simpa using hi)
theorem MW {l:List Int} {i:Nat} (hi:i<l.length) (hh:(fG l).getD i 0≠(i:Int)+1):nO l=false:=by
 refine Bool.eq_false_iff.2 fun e=>hh ?_;simpa using afI.1 e i (by simpa using hi)
noncomputable def adu:CPT:=aA 204 (aB Bj) (aA 205 (aB Bl) noC)
theorem JR:aW Tryz.prog adu:=aj (au Qe) (aj (au Qf) aD)
theorem MX (l:List Int) (hl:1≤l.length∧l.length≤1000000):aF Tryz.prog 167 [.isl (.ints .i64 l) .none] (.bp (nO l)):=by
 have e:=mY l;refine av (md:=1) (rf:=[]) mixed ak JR Tryz.func167 (by rfl) (by rfl) (by rfl) ?_
 repeat'((conv=>whnf);first|intro _|apply aI|with_reducible exact vM rfl|exact⟨⟩|apply nM|apply fM)
 all_goals((try apply vM);(try simp only[vq]at*);try omega)
 conv=>whnf
 refine aM (X:=Nat) (fun i=>i≤l.length∧∀j,j<i→(fG l).getD j 0=(j:Int)+1) (fun i=>[(9,.int .i64 i),(3,.any),(4,.any)]) (fun i=>[]) (fun i=>l.length-i) 0 ⟨aK,mixed,ak,JR,aQ⟩ (by rfl) ⟨by omega,fun j hj=>by omega⟩ ?_ ?_
 ·repeat'((conv=>whnf);first|intro _|apply aI|with_reducible exact vM rfl|exact⟨⟩|apply nM|apply fM)
  all_goals((try apply vM);(try simp only[vq]at*);try omega)
 intro i hi;obtain⟨hi,hall⟩:=hi;by_cases hlt:i<l.length
 ·repeat'((conv=>whnf);first|intro _|apply aI|with_reducible exact vM rfl|exact⟨⟩|apply nM|apply fM)
  all_goals((try apply vM);(try simp only[vq]at*);try omega)
  ·rename_i hq
   rw[MW hlt hq];all_goals(refine Sup.via ?_;repeat'((conv=>whnf);first|intro _|apply aI|with_reducible exact vM rfl|exact⟨⟩|apply nM|apply fM);all_goals((try apply vM);(try simp only[vq]at*);try omega);all_goals(try(simp[CL.sub];done)))
  ·rename_i hq
   have hq:=ae2.1 hq;refine⟨i+1,[],⟨⟨by omega,fun j hj=>?_⟩,by omega⟩,?_⟩
   ·by_cases e:j=i
    ·subst e;exact hq
    ·exact hall j (by omega)
   repeat'((conv=>whnf);first|intro _|apply aI|with_reducible exact vM rfl|exact⟨⟩|apply nM|apply fM)
   all_goals((try apply vM);(try simp only[vq]at*);try omega)
 ·have:l.length=i:=by omega
  subst this
  repeat'((conv=>whnf);first|intro _|apply aI|with_reducible exact vM rfl|exact⟨⟩|apply nM|apply fM)
  all_goals((try apply vM);(try simp only[vq]at*);try omega)
  rw[Qg hall];all_goals(refine Sup.via ?_;repeat'((conv=>whnf);first|intro _|apply aI|with_reducible exact vM rfl|exact⟨⟩|apply nM|apply fM);all_goals((try apply vM);(try simp only[vq]at*);try omega);all_goals(try(simp[CL.sub];done)))
def Gm:PSp:=fun xs K=>match xs with
 | [.isl (.ints .i64 l) .none]=>VC (1≤l.length∧l.length≤1000000)∧K (.bp (nO l))
 |_=>False
theorem SQ:POK Tryz.prog 167 Gm:=by
 intro xs K h;unfold Gm at h;split at h
 ·exact⟨_,h.2,MX _ h.1.get⟩
 ·exact h.elim
def cfE (l:List Int):Int:=aG [if l.length=0 then 12 else 0,if 256<l.length then 5 else 0,rT l]
noncomputable def adv:CPT:=aA 193 (aB ow) (aA 195 (aB eO) (aA 203 (aB rU) noC))
theorem YF:aW Tryz.prog adv:=aj (au pU) (aj (au oW) (aj (au zC) aD))
theorem YG (l:List Int) (hl:l.length≤1000000):aF Tryz.prog 166 [.isl (.ints .i64 l) .none] (.int .i64 (cfE l)):=by
 unfold cfE;refine av (md:=1) (rf:=[]) mixed ak YF Tryz.func166 (by rfl) (by rfl) (by rfl) ?_
 repeat'((conv=>whnf);first|(intro hq;(try simp only[vw]at hq);try first|exact absurd hq (by decide)|exfalso;omega)|apply aI|with_reducible exact vM rfl|exact⟨⟩|apply nM|apply fM)
 all_goals((try apply vM);(try simp only[vq]at*);try omega)
 all_goals first|omega|(refine Sup.of (congrArg (PV.int .i64) ?_);(repeat' split)<;>first|rfl|(exfalso;omega))|skip
def cfP:PSp:=fun xs K=>match xs with
 | [.isl (.ints .i64 l) .none]=>VC (l.length≤1000000)∧K (.int .i64 (cfE l))
 |_=>False
theorem ab1:POK Tryz.prog 166 cfP:=by
 intro xs K h;unfold cfP at h;split at h
 ·exact⟨_,h.2,YG _ h.1.get⟩
 ·exact h.elim
noncomputable def adw:CPT:=aA 166 (aB cfP) (aA 167 (aB Gm) noC)
theorem JU:aW Tryz.prog adw:=aj (au ab1) (aj (au SQ) aD)
def iZ (l:List Int):Bool × Int:=if cfE l≠0 then(false,cfE l)else(nO l,0)
theorem CX (l:List Int) (hl:l.length≤1000000):aF Tryz.prog 121 [.isl (.ints .i64 l) .none] (.tup [.bp (iZ l).1,.int .i64 (iZ l).2]):=by
 unfold iZ;by_cases he:cfE l=0
 ·have h1:1≤l.length:=by
   by_cases e:l.length=0
   ·unfold cfE at he;rw[if_pos e]at he;simp[aG]at he
   ·omega
  rw[if_neg (by rw[he];simp)]
  refine av (md:=1) (rf:=[]) mixed ak JU Tryz.func121 (by rfl) (by rfl) (by rfl) ?_
  repeat'((conv=>whnf);first|(intro hq;(try simp only[vw]at hq);try first|exact absurd hq (by decide)|exfalso;omega)|apply aI|with_reducible exact vM rfl|exact⟨⟩|apply nM|apply fM)
  all_goals((try apply vM);(try simp only[vq]at*);try omega)
  all_goals first|exact hl|exact⟨h1,hl⟩|exact Sup.of rfl|(exfalso;exact hq he)|skip
 ·rw[if_pos he]
  refine av (md:=1) (rf:=[]) mixed ak JU Tryz.func121 (by rfl) (by rfl) (by rfl) ?_
  repeat'((conv=>whnf);first|(intro hq;(try simp only[vw]at hq);try first|exact absurd hq (by decide)|exfalso;omega)|apply aI|with_reducible exact vM rfl|exact⟨⟩|apply nM|apply fM)
  all_goals((try apply vM);(try simp only[vq]at*);try omega)
  all_goals first|exact hl|exact zM _ _|(exfalso;exact hq he)|skip
def vv:PSp:=fun xs K=>match xs with
 | [.isl (.ints .i64 l) .none]=>VC (l.length≤1000000)∧K (.tup [.bp (iZ l).1,.int .i64 (iZ l).2])
 |_=>False
theorem Iu:POK Tryz.prog 121 vv:=by
 intro xs K h;unfold vv at h;split at h
 ·exact⟨_,h.2,CX _ h.1.get⟩
 ·exact h.elim
theorem Qh {l:List Int} (h:nO l=true):fG l=(ael l.length).map fun i:Nat=>(i:Int)+1:=by
 refine agW (by rw[mY];simp) fun i h1 h2=>?_
 have hi:i<l.length:=by rw[mY]at h1;exact h1
 have:=afI.1 h i (afY.2 hi);rw[decide_eq_true_eq,aeo,aev h1]at this;rw[show(fG l)[i]=(i:Int)+1 from this];simp
theorem Bn {l:List Int} (h:nO l=true):∀x∈l,1≤x∧x≤l.length:=fun x hx=>by
 have hp:x∈fG l:=(ahi l _).mem_iff.2 hx;rw[Qh h,agQ]at hp;obtain⟨i,hi,rfl⟩:=hp;have:=afY.1 hi;omega
theorem abl {l:List Int} (h:nO l=true):l.Nodup:=by
 have hp:(fG l).Perm l:=ahi l _;rw[Qh h]at hp;refine hp.nodup_iff.1 ?_;rw[List.Nodup,List.pairwise_map];exact List.nodup_range.imp fun hne e=>hne (by omega)
def mF (gv nv:List Int):Prop:=gv.length=nv.length∧∀i,i<nv.length→gv.getD i 0=0∨gv.getD i 0=nv.getD i 0
theorem mF.set0 {gv nv:List Int} (h:mF gv nv) (y:Nat):mF (gv.set y 0) nv:=by
 refine⟨by rw[aeP];exact h.1,fun i hi=>?_⟩
 rw[aeo,aeN];split
 ·left;split<;>rfl
 ·rw[←aeo];exact h.2 i hi
theorem mF.set1 {gv nv:List Int} (h:mF gv nv) (y:Nat):mF (gv.set y (nv.getD y 0)) nv:=by
 refine⟨by rw[aeP];exact h.1,fun i hi=>?_⟩
 rw[aeo,aeN];split
 ·rename_i e;subst e;right;rw[if_pos (by have:=h.1;omega)];rfl
 ·rw[←aeo];exact h.2 i hi
theorem mF.refl (nv:List Int):mF nv nv:=⟨rfl,fun i _=>.inr rfl⟩
theorem Qi {c:Int} {ls:List (List Int)} (hb:gG c ls=0):dR c ls 0 (aez c.toNat 0):=by
 unfold gG at hb;simp only[aG]at hb;have hsy:iX c ls=0:=by
  by_cases e:iX c ls=0
  ·exact e
  ·rw[if_neg e]at hb;exact absurd hb e
 rw[if_pos hsy]at hb;have hc16:¬16<c:=fun e=>by rw[if_pos e]at hb;simp at hb
 rw[if_neg hc16,if_pos rfl]at hb;have hls:ls.length≠0:=fun e=>by rw[if_pos e]at hb;simp at hb
 unfold iX at hsy;have hcr:¬(c<1∨256<c):=fun e=>by rw[if_pos e]at hsy;cases hsy
 rw[if_neg hcr]at hsy;have hln:¬128<ls.length:=fun e=>by rw[if_pos e]at hsy;cases hsy
 rw[if_neg hln]at hsy;have hlE:=fP hsy;refine⟨by omega,by omega,fun i hi=>?_,by omega,by rw[ahj];omega,fun x hx=>?_,fun i j hij hj hpos e=>?_⟩
 ·have hL:=hlE i hi
  unfold iW at hL;have hne:¬(ls.getD i []).length=0:=fun e=>by rw[if_pos e]at hL;cases hL
  rw[if_neg hne]at hL;have hst:cO (bT c (ls.getD i [])) (ls.getD i []).length=0:=by
   by_cases e:cO (bT c (ls.getD i [])) (ls.getD i []).length=0
   ·exact e
   ·rw[if_pos e]at hL;exact hL
  have hst:=fP hst;have hk:∀k,k<(ls.getD i []).length→(0≤(ls.getD i []).getD k 0∧(ls.getD i []).getD k 0<c)∧(0<k→(ls.getD i []).getD (k-1) 0<(ls.getD i []).getD k 0):=fun k hk=>by
   have:=hst k hk;unfold bT at this;have h1:¬((ls.getD i []).getD k 0<0∨c≤(ls.getD i []).getD k 0):=fun e=>by rw[if_pos e]at this;cases this
   rw[if_neg h1]at this;refine⟨by omega,fun h0=>?_⟩
   have h2:¬(0<k∧(ls.getD i []).getD k 0≤(ls.getD i []).getD (k-1) 0):=fun e=>by rw[if_pos e]at this;cases this
   omega
  have hr:∀x∈ls.getD i [],0≤x∧x<c:=fun x hx=>by
   obtain⟨k,h1,rfl⟩:=(iG _ x).1 hx;exact(hk k h1).1
  have hp:=qo fun k h0 h1=>(hk k h1).2 h0;have:=FY hp hr (by omega)
  exact⟨by omega,by omega,hr,hp⟩
 ·rw[(List.mem_replicate.1 hx).2];omega
 ·rw[ahj]at hj
  rw[aeo,List.getElem?_replicate,if_pos hj]at hpos;simp at hpos
theorem abm {c:Int} {ls:List (List Int)} {sum:Int} {gv nv:List Int} (hb:gG c ls=0) (hl:(nv.length:Int)=c) (hn:nO nv=true) (hs: -999999999≤sum∧sum≤999999999) (h:mF gv nv):dR c ls sum gv:=by
 have h0:=Qi hb;have hr:=Bn hn;have hd:=abl hn;have hgl:=h.1;refine⟨h0.c1,h0.ll,h0.ln,hs,by omega,fun x hx=>?_,fun i j hij hj hpos e=>?_⟩
 ·have hc:=h0.c1
  obtain⟨i,hi,rfl⟩:=(iG _ x).1 hx;rcases h.2 i (by omega)with e|e
  ·rw[e];omega
  ·have:=hr (nv.getD i 0) (pW (by omega))
   rw[e];omega
 ·have e1:gv.getD j 0=nv.getD j 0:=by
   rcases h.2 j (by omega)with e'|e'
   ·omega
   ·exact e'
  have e2:gv.getD i 0=nv.getD i 0:=by
   rcases h.2 i (by omega)with e'|e'
   ·omega
   ·exact e'
  rw[e1,e2]at e;have:=List.pairwise_iff_getElem.1 hd i j (by omega) (by omega) hij
  rw[aeo,aeo,aev (show i<nv.length by omega),aev (show j<nv.length by omega)]at e
  exact this e
def MZ:LSp:=fun xs objs K=>match xs,objs with
 | [.agg [.int .i64 c,.isl (.rows .i64 ls) .none,.int .i64 sum,.isl (.ints .i64 gv) .none]],[]=>VC ((1≤gv.length∧gv.length≤1000000)∧ls.length≤5000∧∀i,i<ls.length→1≤(ls.getD i []).length∧(ls.getD i []).length≤5000)∧K [.agg [.int .i64 c,.isl (.rows .i64 ls) .none,.int .i64 sum,.rsl 0 0 gv.length]] [.cells (.ints .i64 gv) false]
 |_,_=>False
theorem YH:LOK Tryz.prog 124 MZ:=by
 intro xs objs K hk;unfold MZ at hk;split at hk
 ·exact⟨_,_,hk.2,Ip _ _ _ _ hk.1.get.1 hk.1.get.2.1 hk.1.get.2.2⟩
 ·exact hk.elim
def Gn:PSp:=fun xs K=>match xs with
 | [.agg [.int .i64 c,.isl (.rows .i64 ls) .none],.isl (.ints .i64 f) .none]=>VC (bH ls∧f.length≤2000000∧rV c ls f=0∧qA f ls)∧K (.tup [.bp (decide (nX (gY f ls ls.length)<0)),.int .i64 0])
 |_=>False
theorem SS:POK Tryz.prog 122 Gn:=by
 intro xs K hk;unfold Gn at hk;split at hk
 ·exact⟨_,hk.2,CV _ _ _ hk.1.get.1 hk.1.get.2.1 hk.1.get.2.2.1 hk.1.get.2.2.2⟩
 ·exact hk.elim
def mkS (c:Int) (ls:List (List Int)) (sum:Int) (nv:List Int) (g:Nat) (gv:List Int) (y:Int):List Int:=
 if(sol c ls sum (gv.set y.toNat 0) g).2.2≠0 then(gv.set y.toNat 0).set y.toNat (nv.getD y.toNat 0)else gv.set y.toNat 0
noncomputable def adx:CPT:=aA 88 (aB fZ) (aA 89 (aB eO) (aA 93 (aB zG) (aA 98 (aB ny) (aA 99 (gM zK) (aA 121 (aB vv) (aA 122 (aB Gn) (aA 123 (aB MH) (aA 124 (dP [] MZ) noC))))))))
theorem mH:aW Tryz.prog adx:=aj (au fA) (aj (au eY) (aj (au FC) (aj (au qj) (aj (eB F5) (aj (au Iu) (aj (au SS) (aj (au Yo) (aj (cu [] YH) aD))))))))
def Bo (c:Int) (ls:List (List Int)) (nv:List Int) (g:Int):Int:=aG [gG c ls,fH g,if(nv.length:Int)≠c then 2 else 0]
def SV (ls:List (List Int)) (nv:List Int):Bool:=decide (nX (gY nv ls ls.length)<0)
def Gp (c:Int) (ls:List (List Int)) (nv ov:List Int) (g:Int):(Int × List (List Int) × Int × List Int) × Int:=
 if Bo c ls nv g≠0 then((0,[],0,[]),Bo c ls nv g)else if(iZ nv).2≠0∨(iZ nv).1=false then((0,[],0,[]),1)else if SV ls nv=false then((0,[],0,[]),16)
 else if(ov.length:Int)≠c∨rZ 5 ov≠0 then((0,[],0,[]),14)
 else((c,ls,gD nv (ls.getD 0 []) (ls.getD 0 []).length,ov.foldl (mkS c ls (gD nv (ls.getD 0 []) (ls.getD 0 []).length) nv g.toNat) nv),0)
abbrev pzT (p:Int × List (List Int) × Int × List Int):PV:=pzV p.1 p.2.1 p.2.2.1 p.2.2.2
theorem zN (e:Int):Sup (bF [PV.agg [.int .i64 0,.nils,.int .i64 0,.nils],.int .i64 e]) (.tup [pzT (0,[],0,[]),.int .i64 e]):=by all_goals(refine Sup.via ?_;repeat'((conv=>whnf);first|intro _|apply aI|with_reducible exact vM rfl|exact⟨⟩|apply nM|apply fM);all_goals((try apply vM);(try simp only[vq]at*);try omega);all_goals(try(simp[CL.sub];done)))
theorem Qj (c:Int) (ls:List (List Int)) (nv ov:List Int) (g:Int) (h:bH ls) (hn:nv.length≤5000) (ho:ov.length≤5000):
 aF Tryz.prog 53 [.agg [.int .i64 c,.isl (.rows .i64 ls) .none],.isl (.ints .i64 nv) .none,.isl (.ints .i64 ov) .none,.int .i64 g] (.tup [pzT (Gp c ls nv ov g).1,.int .i64 (Gp c ls nv ov g).2]):=by
 unfold Gp;by_cases h1:Bo c ls nv g=0
 case neg=>
  rw[if_pos h1];refine eD (md:=1) (rf:=[]) mixed ak mH Tryz.func53 (by rfl) (by rfl) (by rfl) ?_
  repeat'((conv=>whnf);first|(intro hq;(try simp only[vw]at hq);try first|exact absurd hq (by decide)|exfalso;omega)|apply aI|with_reducible exact vM rfl|exact⟨⟩|apply nM|apply fM)
  all_goals((try apply vM);(try simp only[vq]at*);try omega)
  all_goals first|exact h|exact zN _|(exfalso;exact ‹¬aG [_,_,_]≠0› h1)|skip
 rw[if_neg (by rw[h1];simp)]
 have hb:gG c ls=0:=by
  by_cases e:gG c ls=0
  ·exact e
  ·exact absurd ((gN [gG c ls,fH g,if(nv.length:Int)≠c then 2 else 0] 0 (by simp) (fun i hi=>absurd hi (ahd i)) e).symm.trans h1) e
 by_cases h2:(iZ nv).2≠0∨(iZ nv).1=false
 ·rw[if_pos h2]
  refine eD (md:=1) (rf:=[]) mixed ak mH Tryz.func53 (by rfl) (by rfl) (by rfl) ?_
  repeat'((conv=>whnf);first|(intro hq;(try simp only[vw]at hq);try first|exact absurd hq (by decide)|exfalso;omega)|apply aI|with_reducible exact vM rfl|exact⟨⟩|apply nM|apply fM)
  all_goals((try apply vM);(try simp only[vq]at*);try omega)
  all_goals first|exact h|exact zN _|(exfalso;exact ‹aG [_,_,_]≠0› h1)|omega|(exfalso;rcases h2 with h2|h2<;>simp_all;done)|skip
 rw[if_neg h2];obtain⟨hlc,hnr,hi⟩:(nv.length:Int)=c∧nO nv=true∧iZ nv=(true,0):=by
  have a1:(iZ nv).2=0:=ae2.1 fun e=>h2 (.inl e);have a2:(iZ nv).1=true:=by
   cases e:(iZ nv).1 with
   |true=>rfl
   |false=>exact absurd (.inr e) h2
  have a3:cfE nv=0:=by
   by_cases e:cfE nv=0
   ·exact e
   ·unfold iZ at a1;rw[if_pos e]at a1;exact absurd a1 e
  refine⟨?_,?_,Prod.ext a2 a1⟩
  ·by_cases e:(nv.length:Int)=c
   ·exact e
   ·unfold Bo at h1
    rw[if_pos e,hb]at h1;by_cases eg:fH g=0
    ·rw[eg]at h1;simp[aG]at h1
    ·have:=gN [0,fH g,2] 1 (by simp) (fun i hi=>by(have:i=0:=by omega);subst this;rfl) eg
     rw[this]at h1;exact absurd h1 eg
  ·unfold iZ at a2;rw[if_neg (by rw[a3];simp)]at a2;exact a2
 have hp:=Qi hb;have hfil:bH ls∧nv.length≤2000000∧rV c ls nv=0∧qA nv ls:=by
  have hr:=Bn hnr;have hc:=hp.c1;have hN:∀x∈nv,0≤x∧x≤16:=fun x hx=>by have:=hr x hx;omega
  refine⟨h,by omega,?_,⟨hp.ll.1,by have:=hp.ll;omega⟩,fun i hi=>?_⟩
  ·have e1:iX c ls=0:=by
    by_cases e:iX c ls=0
    ·exact e
    ·unfold gG at hb
     exact absurd ((gN [iX c ls,if 16<c then 20 else 0,if ls.length=0 then 12 else 0] 0 (by simp) (fun i hi=>absurd hi (ahd i)) e).symm.trans hb) e
   have e2:rT nv=0:=by
    unfold rT;rw[if_neg];intro e;rw[List.any_eq_true]at e;obtain⟨x,hx,e⟩:=e;have:=hN x hx;unfold jI at e;simp at e;omega
   unfold rV;rw[e1,e2,if_neg (by omega)];rfl
  ·have hL:=hp.ln i hi
   refine⟨by have:=hL.len;omega,fun x hx=>by have:=hL.rng x hx;omega,fun k hk=>?_⟩
   have:=wC hN ((ls.getD i []).take k);have e:gD nv (ls.getD i []) k=mD nv ((ls.getD i []).take k):=rfl;rw[ae0,aeU hk]at this;have:=hL.len;omega
 have hi1:(iZ nv).1=true:=by rw[hi]
 have hi2:(iZ nv).2=0:=by rw[hi]
 cases h3:SV ls nv with
 |false=>
  have h3':¬nX (gY nv ls ls.length)<0:=of_decide_eq_false h3;rw[if_pos rfl];refine eD (md:=1) (rf:=[]) mixed ak mH Tryz.func53 (by rfl) (by rfl) (by rfl) ?_
  repeat'((conv=>whnf);first|(intro hq;(try simp only[vw]at hq);try first|exact absurd hq (by decide)|exfalso;omega)|apply aI|with_reducible exact vM rfl|exact⟨⟩|apply nM|apply fM)
  all_goals((try apply vM);(try simp only[vq]at*);try omega)
  all_goals first|exact h|exact hfil|exact zN _|(exfalso;exact ‹aG [_,_,_]≠0› h1)|(exfalso;exact h3' (by assumption))|omega|(exfalso;simp_all;done)|skip
 |true=>
  have h3':nX (gY nv ls ls.length)<0:=of_decide_eq_true h3;rw[if_neg (by simp)]
  by_cases h4:(ov.length:Int)≠c∨rZ 5 ov≠0
  ·rw[if_pos h4]
   refine eD (md:=1) (rf:=[]) mixed ak mH Tryz.func53 (by rfl) (by rfl) (by rfl) ?_
   repeat'((conv=>whnf);first|(intro hq;(try simp only[vw]at hq);try first|exact absurd hq (by decide)|exfalso;omega)|apply aI|with_reducible exact vM rfl|exact⟨⟩|apply nM|apply fM)
   all_goals((try apply vM);(try simp only[vq]at*);try omega)
   all_goals first|exact h|exact hfil|exact zN _|(exfalso;exact ‹aG [_,_,_]≠0› h1)|(exfalso;exact ‹¬nX _<0› h3')|omega|(exfalso;rcases h4 with h4|h4<;>contradiction)|(exfalso;simp_all;done)|skip
  rw[if_neg h4];have h5:(ov.length:Int)=c:=ae2.1 fun e=>h4 (.inl e);have h6:rZ 5 ov=0:=ae2.1 fun e=>h4 (.inr e);have hll:=hp.ll;have hc:=hp.c1;have hcond:(1≤nv.length∧nv.length≤1000000)∧ls.length≤5000∧∀i,i<ls.length→1≤(ls.getD i []).length∧(ls.getD i []).length≤5000:=⟨by omega,by omega,fun i hi=>by have:=hp.ln i hi;have:=this.ne;have:=(hp.ln i hi).len;omega⟩
  refine eD (md:=1) (rf:=[]) mixed ak mH Tryz.func53 (by rfl) (by rfl) (by rfl) ?_
  repeat'((conv=>whnf);first|(intro hq;(try simp only[vw]at hq);try first|exact absurd hq (by decide)|exfalso;omega)|apply aI|with_reducible exact vM rfl|exact⟨⟩|apply nM|apply fM)
  all_goals((try apply vM);(try simp only[vq]at*);try omega)
  all_goals(try first|exact h|exact hfil|exact hcond|(exfalso;exact ‹aG [_,_,_]≠0› h1)|(exfalso;exact ‹¬nX _<0› h3')|omega|(exfalso;exact ‹rZ 5 ov≠0› h6)|(exfalso;simp_all;done))
  conv=>whnf
  refine aM (X:=Nat) (fun k=>k≤(ls.getD 0 []).length) (fun k=>[(84,.int .i64 k)]) (fun k=>[(35,.cells (.pv [.int .i64 c,.isl (.rows .i64 ls) .none,.int .i64 (gD nv (ls.getD 0 []) k),(.rsl 31 0 nv.length)]) false)]) (fun k=>(ls.getD 0 []).length-k) 0 ⟨aK,mixed,ak,mH,aQ⟩ (by rfl) (by omega) ?_ ?_
  ·repeat'((conv=>whnf);first|intro _|apply aI|with_reducible exact vM rfl|exact⟨⟩|apply nM|apply fM)
   all_goals((try apply vM);(try simp only[vq]at*);try omega)
  intro k hk;have hL:=hp.ln 0 (by omega)
  have hN:∀x∈nv,0≤x∧x≤16:=fun x hx=>by have:=Bn hnr x hx;omega
  have hsb:=wC hN ((ls.getD 0 []).take k);rw[ae0,aeU hk]at hsb;have esb:gD nv (ls.getD 0 []) k=mD nv ((ls.getD 0 []).take k):=rfl;have hLl:=hL.len;by_cases hlt:k<(ls.getD 0 []).length
  ·have hx:=hL.rng ((ls.getD 0 []).getD k 0) (pW hlt)
   have hv:=hN (nv.getD ((ls.getD 0 []).getD k 0).toNat 0) (pW (by omega))
   have hsx:=zB nv (ls.getD 0 []) k hlt
   repeat'((conv=>whnf);first|(intro hq;(try simp only[vw]at hq);try first|exact absurd hq (by decide)|exfalso;omega)|apply aI|with_reducible exact vM rfl|exact⟨⟩|apply nM|apply fM)
   all_goals((try apply vM);(try simp only[vq]at*);try omega)
   all_goals(try simp only[ahk]at*)
   all_goals(try omega)
   refine⟨k+1,[],⟨by omega,by omega⟩,?_⟩
   rw[hsx]
   repeat'((conv=>whnf);first|intro _|apply aI|with_reducible exact vM rfl|exact⟨⟩|apply nM|apply fM)
   all_goals((try apply vM);(try simp only[vq]at*);try omega)
   all_goals skip
  have e:k=(ls.getD 0 []).length:=by omega
  subst e
  repeat'((conv=>whnf);first|(intro hq;(try simp only[vw]at hq);try first|exact absurd hq (by decide)|exfalso;omega)|apply aI|with_reducible exact vM rfl|exact⟨⟩|apply nM|apply fM)
  all_goals((try apply vM);(try simp only[vq]at*);try omega)
  all_goals(try simp only[ahk]at*)
  all_goals(try(exfalso;omega))
  conv=>whnf
  obtain⟨sm,hsm⟩:∃sm,gD nv (ls.getD 0 []) (ls.getD 0 []).length=sm:=⟨_,rfl⟩;rw[hsm];refine aM (X:=Nat) (fun k=>k≤ov.length) (fun k=>[(99,.int .i64 k)]) (fun k=>[(31,.cells (.ints .i64 ((ov.take k).foldl (mkS c ls sm nv g.toNat) nv)) false)]) (fun k=>ov.length-k) 0 ⟨aK,mixed,ak,mH,aQ⟩ (by rfl) (by omega) ?_ ?_
  ·repeat'((conv=>whnf);first|intro _|apply aI|with_reducible exact vM rfl|exact⟨⟩|apply nM|apply fM)
   all_goals((try apply vM);(try simp only[vq]at*);try omega)
  intro k hk;obtain⟨gk,hgk⟩:∃gk,(ov.take k).foldl (mkS c ls sm nv g.toNat) nv=gk:=⟨_,rfl⟩;have hsub:mF gk nv:=by
   rw[←hgk];clear hgk;generalize ov.take k=l
   have:∀(l:List Int) (v:List Int),mF v nv→mF (l.foldl (mkS c ls sm nv g.toNat) v) nv:=by
    intro l;induction l with
    |nil=>exact fun v h=>h
    |cons y l ih=>
     intro v h;refine ih _ ?_;unfold mkS;split
     ·exact(h.set0 _).set1 _
     ·exact h.set0 _
   exact this l nv (mF.refl nv)
  have hgl:=hsub.1;have hsmb: -999999999≤sm∧sm≤999999999:=by
   have:=wC hN (ls.getD 0 []);have e:gD nv (ls.getD 0 []) (ls.getD 0 []).length=mD nv ((ls.getD 0 []).take (ls.getD 0 []).length):=rfl;rw[af5]at e;omega
  have hg5:1≤g∧g≤5:=by
   unfold Bo at h1;rw[hb]at h1;by_cases eg:fH g=0
   ·unfold fH at eg
    by_cases e:g<1∨5<g
    ·rw[if_pos e]at eg;cases eg
    ·omega
   ·have:=gN [0,fH g,if(nv.length:Int)≠c then 2 else 0] 1 (by simp) (fun i hi=>by(have:i=0:=by omega);subst this;rfl) eg
    rw[this]at h1;exact absurd h1 eg
  by_cases hlk:k<ov.length
  ·have hy:0≤ov.getD k 0∧ov.getD k 0<ov.length:=by
    unfold rZ at h6;rw[if_neg (by omega)]at h6
    have:=fP h6 k hlk;unfold AV at this;by_cases e:ov.getD k 0<0∨ov.length≤ov.getD k 0∨ov.getD k 0∈ov.take k
    ·rw[if_pos e]at this;cases this
    ·omega
   have hnext:(ov.take (k+1)).foldl (mkS c ls sm nv g.toNat) nv=mkS c ls sm nv g.toNat gk (ov.getD k 0):=by
    rw[dF hlk,agq,hgk];rfl
   have hpz:=abm hb hlc hnr hsmb (hsub.set0 (ov.getD k 0).toNat);have hsl:(gk.set (ov.getD k 0).toNat 0).length=nv.length:=by rw[aeP];exact hgl
   have tk:agH (nv.length-0) (agI 0 (gk.set (ov.getD k 0).toNat 0))=gk.set (ov.getD k 0).toNat 0:=bP hsl;rw[hgk];cases ho:jq (sol c ls sm (gk.set (ov.getD k 0).toNat 0) g.toNat)with
   |none=>
    have he:(sol c ls sm (gk.set (ov.getD k 0).toNat 0) g.toNat).2.2≠0:=by
     unfold jq at ho;by_cases e:(sol c ls sm (gk.set (ov.getD k 0).toNat 0) g.toNat).2.2=21
     ·rw[e];decide
     ·rw[if_neg e]at ho;cases ho
    have hst:mkS c ls sm nv g.toNat gk (ov.getD k 0)=(gk.set (ov.getD k 0).toNat 0).set (ov.getD k 0).toNat (nv.getD (ov.getD k 0).toNat 0):=by unfold mkS;rw[if_pos he]
    repeat'((conv=>whnf);first|apply Exists.intro (none)|(intro hq;(try simp only[vw]at hq);try first|exact absurd hq (by decide)|exfalso;omega)|apply aI|with_reducible exact vM rfl|exact⟨⟩|apply nM|apply fM)
    all_goals((try apply vM);(try simp only[vq]at*);try omega)
    all_goals(try first|omega|exact⟨by rw[tk];exact hpz,by omega,by rw[tk];exact ho⟩)
    refine⟨k+1,[],⟨by omega,by omega⟩,?_⟩
    rw[hnext,hst]
    repeat'((conv=>whnf);first|intro _|apply aI|with_reducible exact vM rfl|exact⟨⟩|apply nM|apply fM)
    all_goals((try apply vM);(try simp only[vq]at*);try omega)
   |some r=>
    have hr:sol c ls sm (gk.set (ov.getD k 0).toNat 0) g.toNat=r:=by
     unfold jq at ho;by_cases e:(sol c ls sm (gk.set (ov.getD k 0).toNat 0) g.toNat).2.2=21
     ·rw[if_pos e]at ho;cases ho
     ·rw[if_neg e]at ho;exact Option.some.inj ho
    have hs1:r.2.2≠0→mkS c ls sm nv g.toNat gk (ov.getD k 0)=(gk.set (ov.getD k 0).toNat 0).set (ov.getD k 0).toNat (nv.getD (ov.getD k 0).toNat 0):=fun e=>by unfold mkS;rw[hr,if_pos e]
    have hs0:¬r.2.2≠0→mkS c ls sm nv g.toNat gk (ov.getD k 0)=gk.set (ov.getD k 0).toNat 0:=fun e=>by unfold mkS;rw[hr,if_neg e]
    repeat'((conv=>whnf);first|apply Exists.intro (some r)|(intro hq;(try simp only[vw]at hq);try first|exact absurd hq (by decide)|exfalso;omega)|apply aI|with_reducible exact vM rfl|exact⟨⟩|apply nM|apply fM)
    all_goals((try apply vM);(try simp only[vq]at*);try omega)
    all_goals(try first|omega|exact⟨by rw[tk];exact hpz,by omega,by rw[tk];exact ho⟩)
    ·refine⟨k+1,[],⟨by omega,by omega⟩,?_⟩
     rw[hnext,hs1 (by assumption)]
     repeat'((conv=>whnf);first|intro _|apply aI|with_reducible exact vM rfl|exact⟨⟩|apply nM|apply fM)
     all_goals((try apply vM);(try simp only[vq]at*);try omega)
    ·refine⟨k+1,[],⟨by omega,by omega⟩,?_⟩
     rw[hnext,hs0 (by assumption)]
     repeat'((conv=>whnf);first|intro _|apply aI|with_reducible exact vM rfl|exact⟨⟩|apply nM|apply fM)
     all_goals((try apply vM);(try simp only[vq]at*);try omega)
  have e:k=ov.length:=by omega
  subst e;rw[af5]at hgk⊢;rw[hgk];have s2:(CL.ints .i64 gk).sub 0 nv.length=.ints .i64 gk:=congrArg (CL.ints .i64) (bP hgl)
  repeat'((conv=>whnf);first|(intro hq;(try simp only[vw]at hq);try first|exact absurd hq (by decide)|exfalso;omega)|apply aI|with_reducible exact vM rfl|exact⟨⟩|apply nM|apply fM)
  all_goals((try apply vM);(try simp only[vq]at*);try omega)
  rw[s2];exact Sup.of rfl
end Go.Eng.YtcechbdgokjmgaaGreatDoor
namespace Go.Eng.YtcechbdgokjmgaaGreatDoor
open Go.Proofs Go.RowKit
set_option linter.unusedSimpArgs false
set_option linter.unusedVariables false
set_option maxHeartbeats 0
set_option maxRecDepth 100000
theorem JV {s w:ByteArray} {l:List Int} (h:bZ s w=some l):l.length≤s.size:=by
 unfold bZ at h;split at h
 ·obtain rfl:=Option.some.inj h
  unfold numsL;rw[af0,List.length_drop];have:=yc 32 s;omega
 ·cases h
structure SX (r:Rd) (n:Nat):Prop where
 ln:r.line=n
 ll:r.L.length≤n
 rw:∀x∈r.L,x.length≤5000
 gl:r.gv.length≤5000
theorem YI {r:Rd} {n:Nat} {s:ByteArray} (h:SX r n) (hs:s.size≤4096):SX (nxt r s).2 (n+1):=by
 have h1:=h.ln;have h2:=h.ll;have h3:=h.rw;have h4:=h.gl;unfold nxt
 repeat' split
 all_goals refine⟨by simp only;omega,?_,?_,?_⟩
 all_goals simp only
 all_goals first|exact h3|exact h4|omega|(rw[afu,ad4,adY];omega)|(simp;done)|skip
 ·intro x hx
  rcases aep.1 hx with hx|hx
  ·exact h3 _ hx
  ·obtain rfl:=agL.1 hx
   have:=JV ‹bZ s DF=some _›;omega
 ·have:=JV ‹bZ s uT=some _›
  omega
noncomputable def rdG:Rd→List ByteArray→Rd × Bool
 |r,[]=>(r,true)
 |r,x::t=>if(nxt r x).1=true then rdG (nxt r x).2 t else((nxt r x).2,false)
def rd0:Rd:=⟨0,[],0,[],0,false⟩
abbrev kNl:ByteArray:=⟨#[10]⟩
def vB (s:ByteArray):Int:=aG [if 4096<(s.size:Int)then 25 else 0,if Fg s kNl=false then 27 else 0]
noncomputable def iI (s:ByteArray):Rd × Bool:=rdG rd0 (dD 10 (jo s kNl))
noncomputable def M0 (s:ByteArray):(Int × List (List Int) × Int × List Int) × Int × Int:=
 if vB s≠0 then((0,[],0,[]),0,vB s)
 else if(iI s).2=false then((0,[],0,[]),(iI s).1.line,24)
 else if(iI s).1.done=false then((0,[],0,[]),(iI s).1.line+1,24)
 else if pzE (iI s).1.c (iI s).1.L (iI s).1.sum (iI s).1.gv≠0 then((0,[],0,[]),0,pzE (iI s).1.c (iI s).1.L (iI s).1.sum (iI s).1.gv)
 else(((iI s).1.c,(iI s).1.L,(iI s).1.sum,(iI s).1.gv),0,0)
noncomputable def ab2:CPT:=aA 22 (aB kC) (aA 88 (aB fZ) (aA 89 (aB eO) (aA 112 (aB Rm) (aA 113 (aB zw) (aA 114 (aB Rp) (aA 115 (dP [] R7) noC))))))
theorem yu:aW Tryz.prog ab2:=aj (au jJ) (aj (au fA) (aj (au eY) (aj (au aaE) (aj (au Fe) (aj (au aaF) (aj (cu [] aaX) aD))))))
def abn (r:(Int × List (List Int) × Int × List Int) × Int × Int):PV:=.tup [pzT r.1,.int .i64 r.2.1,.int .i64 r.2.2]
theorem zO (a b:Int):Sup (bF [PV.agg [.int .i64 0,.nils,.int .i64 0,.nils],.int .i64 a,.int .i64 b]) (abn ((0,[],0,[]),a,b)):=by all_goals(refine Sup.via ?_;repeat'((conv=>whnf);first|intro _|apply aI|with_reducible exact vM rfl|exact⟨⟩|apply nM|apply fM);all_goals((try apply vM);(try simp only[vq]at*);try omega);all_goals(try(simp[CL.sub];done)))
theorem Qk (s:ByteArray) (hs:s.size≤1000000):aF Tryz.prog 44 [.str s] (abn (M0 s)):=by
 have hx:aG [if decide (4096<(s.size:Int))=true then 25 else 0,if(!Fg s ⟨#[10]⟩)=true then 27 else 0]=vB s:=by unfold vB;simp
 have htr:(jo s kNl).size≤s.size:=by
  have e3:(jo s kNl).size=(Go.Lib.trimSuffix s.data.toList kNl.data.toList).length:=by
   show(List.toArray _).size=_;rw[List.size_toArray]
  have e1:s.size=s.data.toList.length:=by rw[aeO];rfl
  rw[e3,e1];unfold Go.Lib.trimSuffix;split
  ·rw[ae0];omega
  ·omega
 unfold M0;by_cases he:vB s=0
 case neg=>
  rw[if_pos he];have he2:=he;unfold vB at he2;refine eD (md:=1) (rf:=[]) mixed ak yu Tryz.func44 (by rfl) (by rfl) (by rfl) ?_
  repeat'((conv=>whnf);first|refine Exists.intro (10) ?_|(intro hq;(try simp only[vw]at hq);try first|exact absurd hq (by decide)|exfalso;omega)|apply aI|with_reducible exact vM rfl|exact⟨⟩|apply nM|apply fM)
  all_goals try refine VC.mk ?_
  all_goals first|omega|(exfalso;exact hq he2)|(exfalso;exact ‹¬aG [_,_]≠0› he2)|(rw[←hx];exact zO _ _)|(simp;done)|skip
 rw[if_neg (by rw[he];simp)]
 have he2:=he;unfold vB at he2;have h4:s.size≤4096:=by
  by_cases e:4096<(s.size:Int)
  ·rw[if_pos e]at he2;cases h:Fg s kNl<;>simp[aG,h]at he2
  ·omega
 refine eD (md:=1) (rf:=[]) mixed ak yu Tryz.func44 (by rfl) (by rfl) (by rfl) ?_
 repeat'((conv=>whnf);first|refine Exists.intro (10) ?_|(intro hq;(try simp only[vw]at hq);try first|exact absurd hq (by decide)|exfalso;omega)|apply aI|with_reducible exact vM rfl|exact⟨⟩|apply nM|apply fM)
 all_goals try refine VC.mk ?_
 all_goals(try first|omega|(exfalso;exact hq he2)|(simp;done)|(refine And.intro rfl ?_;show(jo s kNl).size<_;omega))
 conv=>whnf
 have hG:iI s=rdG rd0 (dD 10 (jo s kNl)):=rfl;have hln:=yc 10 (jo s kNl);have hsz:∀j,j<(dD 10 (jo s kNl)).length→((dD 10 (jo s kNl)).getD j .empty).size≤4096:=fun j hj=>by
  have:=Ch (uS hj);omega
 generalize dD 10 (jo s kNl)=W at hG hln hsz⊢
 refine aM (X:=Nat × Rd) (fun x=>x.1≤W.length∧SX x.2 x.1∧iI s=rdG x.2 (W.drop x.1)) (fun x=>[(28,.int .i64 x.1)]) (fun x=>[(18,.cells (.pv [.int .i64 x.2.c,.isl (.rows .i64 x.2.L) (.own 22),.int .i64 x.2.sum,.isl (.ints .i64 x.2.gv) .none,.int .i64 x.2.line,.bp x.2.done]) false),(22,.tok 1 x.2.L.length)]) (fun x=>W.length-x.1) (0,rd0) ⟨aK,mixed,ak,yu,aQ⟩ (by rfl) ⟨by omega,⟨rfl,aea 0,fun x hx=>absurd hx (by simp[rd0]),by simp[rd0]⟩,hG⟩ ?_ ?_
 ·repeat'((conv=>whnf);first|intro _|apply aI|with_reducible exact vM rfl|exact⟨⟩|apply nM|apply fM)
  all_goals((try apply vM);(try simp only[vq]at*);try omega)
  all_goals skip
 rintro⟨i,r⟩ ⟨hi,hr,hT⟩
 simp only at hi hr hT;by_cases hlt:i<W.length
 ·have hsi:=hsz i hlt
  have hd:W.drop i=W.getD i .empty::W.drop (i+1):=by rw[aeo,aev hlt];simp
  have hr1:=hr.ln;have hr2:=hr.ll;have hok:=YI hr hsi;rw[hd]at hT;unfold rdG at hT
  repeat'((conv=>whnf);first|refine Exists.intro (10) ?_|(intro hq;(try simp only[vw]at hq);try first|exact absurd hq (by decide)|exfalso;omega)|apply aI|with_reducible exact vM rfl|exact⟨⟩|apply nM|apply fM)
  all_goals((try apply vM);(try simp only[vq]at*);try omega)
  ·have hq:(nxt r (W.getD i .empty)).1=false:=hq
   rw[if_neg (by rw[hq];simp)]at hT
   rw[hT];exact zO _ _
  have hq:(nxt r (W.getD i .empty)).1=true:=hq;rw[if_pos hq]at hT;refine⟨(i+1,(nxt r (W.getD i .empty)).2),[],⟨⟨by simp only;omega,hok,hT⟩,by simp only;omega⟩,?_⟩
  repeat'((conv=>whnf);first|refine Exists.intro (10) ?_|(intro hq;(try simp only[vw]at hq);try first|exact absurd hq (by decide)|exfalso;omega)|apply aI|with_reducible exact vM rfl|exact⟨⟩|apply nM|apply fM)
  all_goals((try apply vM);(try simp only[vq]at*);try omega)
  all_goals skip
 have e:i=W.length:=by omega
 subst e;have hT2:iI s=(r,true):=by rw[hT,ahg];rfl
 have hr1:=hr.ln;have hr2:=hr.ll;have hLN:bH r.L:=⟨by omega,hr.rw⟩
 have hgl:=hr.gl;rw[hT2]
 repeat'((conv=>whnf);first|refine Exists.intro (10) ?_|(intro hq;(try simp only[vw]at hq);try first|exact absurd hq (by decide)|exfalso;omega)|apply aI|with_reducible exact vM rfl|exact⟨⟩|apply nM|apply fM)
 all_goals((try apply vM);(try simp only[vq]at*);try omega)
 all_goals(try omega)
 ·rw[if_neg (by simp),if_pos hq]
  exact zO _ _
 ·exact⟨hLN,hgl⟩
 ·rename_i hd
  rw[if_neg (by simp),if_neg (by simp only[hd];simp),if_pos hq]
  exact zO _ _
 ·rename_i hd
  rw[if_neg (by simp),if_neg (by simp only[hd];simp),if_neg hq]
  exact Sup.of rfl
end Go.Eng.YtcechbdgokjmgaaGreatDoor
namespace Go.Eng.YtcechbdgokjmgaaGreatDoor
open Go.Proofs
set_option linter.unusedSimpArgs false
set_option linter.unusedVariables false
set_option maxHeartbeats 0
set_option maxRecDepth 100000
abbrev lD:ByteArray:=⟨#[99,101,108,108]⟩
abbrev sIs:ByteArray:=⟨#[105,115]⟩
abbrev Gq:ByteArray:=⟨#[110,111,116]⟩
abbrev sBy:ByteArray:=⟨#[98,121]⟩
abbrev Bp:ByteArray:=⟨#[111,110,32,108,105,110,101]⟩
def exW (g:Int) (r:ByteArray) (y x k:Int):List ByteArray:=
 [lD,itB y,sIs]++(if g≤3 then []else [Gq])++[itB x,sBy,r]++(if 0≤k then [Bp,itB k]else [])
def M8 (c:Int) (ls:List (List Int)) (sum:Int) (gv:List Int) (r:ByteArray) (y x k:Int):ByteArray × Int:=
 if pzE c ls sum gv≠0 then(rY,pzE c ls sum gv)else if dL c ls r y x k≠0 then(rY,dL c ls r y x k)else(joB (exW (aP r) r y x k) kBl,0)
noncomputable def ady:CPT:=aA 22 (aB kC) (aA 101 (aB kS) (aA 107 (aB zo) (aA 126 (aB FR) (aA 129 (aB Dq) (aA 130 (aB nC) noC)))))
theorem gJ:aW Tryz.prog ady:=aj (au jJ) (aj (au kT) (aj (au Fa) (aj (au FT) (aj (au Ja) (aj (au l7) aD)))))
theorem vC {g:Int} {r:ByteArray} {y x k:Int} (hy:nI y) (hx:nI x) (hk:nI k) (hr:r.size≤6):Rf (exW g r y x k) 1000000:=by
 have h1:=oU hy;have h2:=oU hx;have h3:=oU hk;refine⟨?_,fun w hw=>?_⟩
 ·unfold exW;split<;>split<;>simp
 ·unfold exW at hw
  simp only[aep,List.mem_cons,List.not_mem_nil,or_false]at hw;rcases hw with((((rfl|rfl|rfl)|hw)|(rfl|rfl|rfl))|hw)
  ·decide
  ·omega
  ·decide
  ·split at hw
   ·simp at hw
   ·simp at hw;subst hw;decide
  ·omega
  ·decide
  ·omega
  ·split at hw
   ·simp at hw
    rcases hw with rfl|rfl
    ·decide
    ·omega
   ·simp at hw
theorem Gs (c:Int) (ls:List (List Int)) (sum:Int) (gv:List Int) (h:bH ls) (hg:gv.length≤5000) (r:ByteArray) (y x k:Int):
 aF Tryz.prog 63 [pzV c ls sum gv,ddV r y x k] (.tup [.str (M8 c ls sum gv r y x k).1,.int .i64 (M8 c ls sum gv r y x k).2]):=by
 unfold M8;by_cases he:pzE c ls sum gv=0
 case neg=>
  rw[if_pos he];refine av (md:=1) (rf:=[]) mixed ak gJ Tryz.func63 (by rfl) (by rfl) (by rfl) ?_
  repeat'((conv=>whnf);first|(intro hq;(try simp only[vw]at hq);try first|exact absurd hq (by decide)|exfalso;omega)|apply aI|with_reducible exact vM rfl|exact⟨⟩|apply nM|apply fM)
  all_goals((try apply vM);(try simp only[vq]at*);try omega)
  all_goals first|exact⟨h,hg⟩|exact h|exact Sup.of rfl|(exfalso;exact he (by assumption))|(exfalso;contradiction)|skip
 rw[if_neg (by rw[he];simp)]
 by_cases hd:dL c ls r y x k=0
 case neg=>
  rw[if_pos hd];refine av (md:=1) (rf:=[]) mixed ak gJ Tryz.func63 (by rfl) (by rfl) (by rfl) ?_
  repeat'((conv=>whnf);first|(intro hq;(try simp only[vw]at hq);try first|exact absurd hq (by decide)|exfalso;omega)|apply aI|with_reducible exact vM rfl|exact⟨⟩|apply nM|apply fM)
  all_goals((try apply vM);(try simp only[vq]at*);try omega)
  all_goals first|exact⟨h,hg⟩|exact h|exact Sup.of rfl|(exfalso;exact hd (by assumption))|(exfalso;contradiction)|skip
 rw[if_neg (by rw[hd];simp)]
 have hp:=dR.of he;have hc:=hp.c1;have hll:=hp.ll;have ho:=l9.of hd;have hy:=ho.y;have hx:=ho.x;have hte:=uL;have hk:k= -1∨(0≤k∧k<128):=by
  unfold dL at hd;by_cases h1:aP r=0
  ·rw[if_pos h1]at hd;cases hd
  rw[if_neg h1]at hd;by_cases h2:y<0∨c≤y
  ·rw[if_pos h2]at hd;cases hd
  rw[if_neg h2]at hd;by_cases h3:x<1∨c<x
  ·rw[if_pos h3]at hd;cases hd
  rw[if_neg h3]at hd;by_cases h4:aP r=2∨aP r=3
  ·rw[if_pos h4]at hd
   by_cases h5:k= -1
   ·exact .inl h5
   ·rw[if_pos h5]at hd;cases hd
  ·rw[if_neg h4]at hd
   by_cases h5:k<0∨ls.length≤k∨y∉ls.getD k.toNat []
   ·rw[if_pos h5]at hd;cases hd
   ·have h6:¬k<0:=fun e=>h5 (.inl e)
    have h7:¬(ls.length:Int)≤k:=fun e=>h5 (.inr (.inl e));omega
 have b1:nI y:=⟨by omega,by omega⟩
 have b2:nI x:=⟨by omega,by omega⟩
 have b3:nI k:=⟨by omega,by omega⟩
 obtain⟨rfl,hg'⟩|⟨rfl,hg'⟩|⟨rfl,hg'⟩|⟨rfl,hg'⟩|⟨rfl,hg'⟩|hg':=l8 r
 ·rw[hg']
  have hw:=vC (g:=1) (r:=bJ) (k:=k) b1 b2 b3 (by decide)
  rcases hk with hk0|hk0
  ·have e:exW 1 bJ y x k=([lD,itB y,sIs]++[itB x,sBy,bJ]):=by unfold exW;rw[if_pos (show(1:Int)≤3 by decide),if_neg (show¬(0:Int)≤k by omega),agN];(try rfl)
   rw[e]at hw⊢;refine av (md:=1) (rf:=[]) mixed ak gJ Tryz.func63 (by rfl) (by rfl) (by rfl) ?_
   repeat'((conv=>whnf);first|apply Exists.intro (1)|(intro hq;(try simp only[vw]at hq);try first|exact absurd hq (by decide)|exfalso;omega)|apply aI|with_reducible exact vM rfl|exact⟨⟩|apply nM|apply fM)
   all_goals((try apply vM);(try simp only[vq]at*);try omega)
   all_goals first|exact⟨h,hg⟩|exact h|exact hg'|exact hd|exact he|exact b1|exact b2|exact b3|(rw[hte];decide)|exact hw|(simp;done)|(exfalso;contradiction)|(exfalso;omega)|exact Sup.of rfl|skip
  ·have e:exW 1 bJ y x k=([lD,itB y,sIs]++[itB x,sBy,bJ])++[Bp,itB k]:=by unfold exW;rw[if_pos (show(1:Int)≤3 by decide),if_pos (show(0:Int)≤k by omega)];(try rfl)
   rw[e]at hw⊢;refine av (md:=1) (rf:=[]) mixed ak gJ Tryz.func63 (by rfl) (by rfl) (by rfl) ?_
   repeat'((conv=>whnf);first|apply Exists.intro (1)|(intro hq;(try simp only[vw]at hq);try first|exact absurd hq (by decide)|exfalso;omega)|apply aI|with_reducible exact vM rfl|exact⟨⟩|apply nM|apply fM)
   all_goals((try apply vM);(try simp only[vq]at*);try omega)
   all_goals first|exact⟨h,hg⟩|exact h|exact hg'|exact hd|exact he|exact b1|exact b2|exact b3|(rw[hte];decide)|exact hw|(simp;done)|(exfalso;contradiction)|(exfalso;omega)|exact Sup.of rfl|skip
 ·rw[hg']
  have hw:=vC (g:=2) (r:=bU) (k:=k) b1 b2 b3 (by decide)
  rcases hk with hk0|hk0
  ·have e:exW 2 bU y x k=([lD,itB y,sIs]++[itB x,sBy,bU]):=by unfold exW;rw[if_pos (show(2:Int)≤3 by decide),if_neg (show¬(0:Int)≤k by omega),agN];(try rfl)
   rw[e]at hw⊢;refine av (md:=1) (rf:=[]) mixed ak gJ Tryz.func63 (by rfl) (by rfl) (by rfl) ?_
   repeat'((conv=>whnf);first|apply Exists.intro (2)|(intro hq;(try simp only[vw]at hq);try first|exact absurd hq (by decide)|exfalso;omega)|apply aI|with_reducible exact vM rfl|exact⟨⟩|apply nM|apply fM)
   all_goals((try apply vM);(try simp only[vq]at*);try omega)
   all_goals first|exact⟨h,hg⟩|exact h|exact hg'|exact hd|exact he|exact b1|exact b2|exact b3|(rw[hte];decide)|exact hw|(simp;done)|(exfalso;contradiction)|(exfalso;omega)|exact Sup.of rfl|skip
  ·have e:exW 2 bU y x k=([lD,itB y,sIs]++[itB x,sBy,bU])++[Bp,itB k]:=by unfold exW;rw[if_pos (show(2:Int)≤3 by decide),if_pos (show(0:Int)≤k by omega)];(try rfl)
   rw[e]at hw⊢;refine av (md:=1) (rf:=[]) mixed ak gJ Tryz.func63 (by rfl) (by rfl) (by rfl) ?_
   repeat'((conv=>whnf);first|apply Exists.intro (2)|(intro hq;(try simp only[vw]at hq);try first|exact absurd hq (by decide)|exfalso;omega)|apply aI|with_reducible exact vM rfl|exact⟨⟩|apply nM|apply fM)
   all_goals((try apply vM);(try simp only[vq]at*);try omega)
   all_goals first|exact⟨h,hg⟩|exact h|exact hg'|exact hd|exact he|exact b1|exact b2|exact b3|(rw[hte];decide)|exact hw|(simp;done)|(exfalso;contradiction)|(exfalso;omega)|exact Sup.of rfl|skip
 ·rw[hg']
  have hw:=vC (g:=3) (r:=bV) (k:=k) b1 b2 b3 (by decide)
  rcases hk with hk0|hk0
  ·have e:exW 3 bV y x k=([lD,itB y,sIs]++[itB x,sBy,bV]):=by unfold exW;rw[if_pos (show(3:Int)≤3 by decide),if_neg (show¬(0:Int)≤k by omega),agN];(try rfl)
   rw[e]at hw⊢;refine av (md:=1) (rf:=[]) mixed ak gJ Tryz.func63 (by rfl) (by rfl) (by rfl) ?_
   repeat'((conv=>whnf);first|apply Exists.intro (3)|(intro hq;(try simp only[vw]at hq);try first|exact absurd hq (by decide)|exfalso;omega)|apply aI|with_reducible exact vM rfl|exact⟨⟩|apply nM|apply fM)
   all_goals((try apply vM);(try simp only[vq]at*);try omega)
   all_goals first|exact⟨h,hg⟩|exact h|exact hg'|exact hd|exact he|exact b1|exact b2|exact b3|(rw[hte];decide)|exact hw|(simp;done)|(exfalso;contradiction)|(exfalso;omega)|exact Sup.of rfl|skip
  ·have e:exW 3 bV y x k=([lD,itB y,sIs]++[itB x,sBy,bV])++[Bp,itB k]:=by unfold exW;rw[if_pos (show(3:Int)≤3 by decide),if_pos (show(0:Int)≤k by omega)];(try rfl)
   rw[e]at hw⊢;refine av (md:=1) (rf:=[]) mixed ak gJ Tryz.func63 (by rfl) (by rfl) (by rfl) ?_
   repeat'((conv=>whnf);first|apply Exists.intro (3)|(intro hq;(try simp only[vw]at hq);try first|exact absurd hq (by decide)|exfalso;omega)|apply aI|with_reducible exact vM rfl|exact⟨⟩|apply nM|apply fM)
   all_goals((try apply vM);(try simp only[vq]at*);try omega)
   all_goals first|exact⟨h,hg⟩|exact h|exact hg'|exact hd|exact he|exact b1|exact b2|exact b3|(rw[hte];decide)|exact hw|(simp;done)|(exfalso;contradiction)|(exfalso;omega)|exact Sup.of rfl|skip
 ·rw[hg']
  have hw:=vC (g:=4) (r:=bR) (k:=k) b1 b2 b3 (by decide)
  rcases hk with hk0|hk0
  ·have e:exW 4 bR y x k=([lD,itB y,sIs]++[Gq]++[itB x,sBy,bR]):=by unfold exW;rw[if_neg (show¬(4:Int)≤3 by decide),if_neg (show¬(0:Int)≤k by omega),agN];(try rfl)
   rw[e]at hw⊢;refine av (md:=1) (rf:=[]) mixed ak gJ Tryz.func63 (by rfl) (by rfl) (by rfl) ?_
   repeat'((conv=>whnf);first|apply Exists.intro (4)|(intro hq;(try simp only[vw]at hq);try first|exact absurd hq (by decide)|exfalso;omega)|apply aI|with_reducible exact vM rfl|exact⟨⟩|apply nM|apply fM)
   all_goals((try apply vM);(try simp only[vq]at*);try omega)
   all_goals first|exact⟨h,hg⟩|exact h|exact hg'|exact hd|exact he|exact b1|exact b2|exact b3|(rw[hte];decide)|exact hw|(simp;done)|(exfalso;contradiction)|(exfalso;omega)|exact Sup.of rfl|skip
  ·have e:exW 4 bR y x k=([lD,itB y,sIs]++[Gq]++[itB x,sBy,bR])++[Bp,itB k]:=by unfold exW;rw[if_neg (show¬(4:Int)≤3 by decide),if_pos (show(0:Int)≤k by omega)];(try rfl)
   rw[e]at hw⊢;refine av (md:=1) (rf:=[]) mixed ak gJ Tryz.func63 (by rfl) (by rfl) (by rfl) ?_
   repeat'((conv=>whnf);first|apply Exists.intro (4)|(intro hq;(try simp only[vw]at hq);try first|exact absurd hq (by decide)|exfalso;omega)|apply aI|with_reducible exact vM rfl|exact⟨⟩|apply nM|apply fM)
   all_goals((try apply vM);(try simp only[vq]at*);try omega)
   all_goals first|exact⟨h,hg⟩|exact h|exact hg'|exact hd|exact he|exact b1|exact b2|exact b3|(rw[hte];decide)|exact hw|(simp;done)|(exfalso;contradiction)|(exfalso;omega)|exact Sup.of rfl|skip
 ·rw[hg']
  have hw:=vC (g:=5) (r:=bS) (k:=k) b1 b2 b3 (by decide)
  rcases hk with hk0|hk0
  ·have e:exW 5 bS y x k=([lD,itB y,sIs]++[Gq]++[itB x,sBy,bS]):=by unfold exW;rw[if_neg (show¬(5:Int)≤3 by decide),if_neg (show¬(0:Int)≤k by omega),agN];(try rfl)
   rw[e]at hw⊢;refine av (md:=1) (rf:=[]) mixed ak gJ Tryz.func63 (by rfl) (by rfl) (by rfl) ?_
   repeat'((conv=>whnf);first|apply Exists.intro (5)|(intro hq;(try simp only[vw]at hq);try first|exact absurd hq (by decide)|exfalso;omega)|apply aI|with_reducible exact vM rfl|exact⟨⟩|apply nM|apply fM)
   all_goals((try apply vM);(try simp only[vq]at*);try omega)
   all_goals first|exact⟨h,hg⟩|exact h|exact hg'|exact hd|exact he|exact b1|exact b2|exact b3|(rw[hte];decide)|exact hw|(simp;done)|(exfalso;contradiction)|(exfalso;omega)|exact Sup.of rfl|skip
  ·have e:exW 5 bS y x k=([lD,itB y,sIs]++[Gq]++[itB x,sBy,bS])++[Bp,itB k]:=by unfold exW;rw[if_neg (show¬(5:Int)≤3 by decide),if_pos (show(0:Int)≤k by omega)];(try rfl)
   rw[e]at hw⊢;refine av (md:=1) (rf:=[]) mixed ak gJ Tryz.func63 (by rfl) (by rfl) (by rfl) ?_
   repeat'((conv=>whnf);first|apply Exists.intro (5)|(intro hq;(try simp only[vw]at hq);try first|exact absurd hq (by decide)|exfalso;omega)|apply aI|with_reducible exact vM rfl|exact⟨⟩|apply nM|apply fM)
   all_goals((try apply vM);(try simp only[vq]at*);try omega)
   all_goals first|exact⟨h,hg⟩|exact h|exact hg'|exact hd|exact he|exact b1|exact b2|exact b3|(rw[hte];decide)|exact hw|(simp;done)|(exfalso;contradiction)|(exfalso;omega)|exact Sup.of rfl|skip
 have:=ho.g;omega
end Go.Eng.YtcechbdgokjmgaaGreatDoor
namespace Go.Eng
open Go.Proofs Go.Shelf Go.RowKit
set_option linter.unusedSimpArgs false
set_option linter.unusedVariables false
theorem wE {P:Program} {w:World} {ops:Array Oper} {rest:List Oper} {o:Oper} {a:Act} {Q:Exit→Act→World→Prop} (hgd:o.guard=none) (sl x:Operand) (t u:TypeId)
 (ho:o.op=.call {callee:=.builtin .append,args:= #[sl,x],argTypes:= #[t,u]})
 (e:TypeId) (i:TypeInfo) (ht:P.underlying t=some (.slice e)) (hu:P.underlying u=some .string) (hi:P.info? e=some i) (hz:i.zero=some (.int .u8 0)) (hsize:i.size=1) (hby:i.bytes=1)
 (v:Value) (n:Nat) (xs:List Value) (hs:a.eval sl=v) (hown:w.ownsRowF 0 e 1 v n xs) (s:ByteArray) (hx:a.eval x=.string s) (h63:n+s.size≤maxLen) (hbytes:n+s.size≤140737488355328)
 (h:∀v' w',w'.ownsRowF 0 e 1 v' (n+s.size) (xs++Lib.strCells s)→w.grownBy w' v.ownBlock→(∀b,b<w.heap.size→bsz w' b=bsz w b)→(∀g,v'.ownBlock=some g→v.ownBlock=some g∨w.heap.size≤g)→wpList P ops Q rest (a.put o.dst v') w'):
 wpList P ops Q (o::rest) a w:=by
 refine wpList_plain hgd fun K hK=>?_;obtain⟨v',w',hr,h2,h3,h4,h5⟩:=Lh (P:=P) w t u o.type e i ht hu hi hz hsize hby v n xs hown s h63 hbytes;unfold Oper.wp execOp;simp only[ho,resolve,invoke,builtin,Sem.run_bind,Sem.run_pure,Result.andThen_ok,List.map_toArray,List.map_cons,List.map_nil,hs,hx,hr];exact hK _ _ (h v' w' h2 h3 h4 h5)
theorem wQ (w:World) (a:Addr) (x:Value) (b:Nat):bsz (w.setCell a x) b=bsz w b:=by
 unfold bsz World.setCell;rw[aeh];by_cases e:a.block=b
 ·rw[if_pos e]
  cases w.heap[b]? with
  |none=>rfl
  |some o=>
   cases o with
   |cells c t f=>simp only[Option.map_some];split<;>simp
   |_=>rfl
 ·rw[if_neg e]
theorem Gt (a b:ByteArray):Lib.strCells a++Lib.strCells b=Lib.strCells (a++b):=by
 unfold Lib.strCells;rw[←af4];congr 1
theorem Ql {P:Program} {ρ:Ren} (L:Lays.n240 P ρ) (X:Builder.X72 P ρ) (b:Nat) (p v:Value) (w:World) (hbk:w.heap[b]? =some (.cells #[p,v] (ρ.t 72) (0,0))) (hp:p=.pointer none∨p=.pointer (some ⟨b,0,none⟩)):
 Calls P (ρ.f 240) #[.pointer (some ⟨b,0,none⟩)] w fun e w'=>e=.returned (.tuple #[])∧w'.heap[b]? =some (.cells #[.pointer (some ⟨b,0,none⟩),v] (ρ.t 72) (0,0))∧w'.os=w.os∧w'.tape=w.tape∧w'.output=w.output∧w'.heap.size=w.heap.size∧
  (∀b',b'≠b→w'.heap[b']? =w.heap[b']?)∧∀b',bsz w' b'=bsz w b':=by
 rcases hp with rfl|rfl
 ·refine(Any.Builder_copyCheck_fresh L X b w (by rw[Lib.cell_of_heap hbk];rfl) (by simp[World.shape?,hbk]) (Lib.frozen_of_heap hbk 0)).mono ?_
  rintro e w' ⟨rfl,rfl⟩
  exact⟨rfl,by simp[World.setCell,aeh,hbk],rfl,rfl,rfl,by simp[World.setCell],fun b' hb'=>Below.heap_setCell _ _ _ _ hb',fun b'=>wQ _ _ _ _⟩
 ·refine(Any.Builder_copyCheck_used L X b w (by rw[Lib.cell_of_heap hbk];rfl)).mono ?_
  rintro e w' ⟨rfl,rfl⟩
  exact⟨rfl,hbk,rfl,rfl,rfl,rfl,fun _ _=>rfl,fun _=>rfl⟩
set_option maxHeartbeats 4000000 in
set_option maxRecDepth 100000 in
theorem Qm {P:Program} {ρ:Ren} (L:Lays.n166 P ρ) (X:Builder.Extra P ρ) (b:Nat) (p v:Value) (bs s:ByteArray) (w:World) (hbk:w.heap[b]? =some (.cells #[p,v] (ρ.t 72) (0,0))) (hp:p=.pointer none∨p=.pointer (some ⟨b,0,none⟩))
 (hne:v.ownBlock≠some b) (hown:w.ownsRowF 0 (ρ.t 5) 1 v bs.size (Lib.strCells bs)) (hlen:bs.size+s.size≤140737488355328):
 Calls P (ρ.f 166) #[.pointer (some ⟨b,0,none⟩),.string s] w fun ex w'=>∃val v',ex=.returned val∧uI (ρ.t 72) (ρ.t 5) b v w w' (bs++s) v'∧val=.tuple #[.int .i64 s.size,.nilIface]:=by
 obtain⟨i0,hi,hz0,hz1,hz2⟩:=info_parts X.infoByte;have mixed:=L.mixed;have t72:=L.t72;have a72:=L.a72;have z72:=L.z72;have v72:=L.v72;have u72:=run_underlying L.t72;have t70:=L.t70;have a70:=L.a70;have z70:=L.z70;have v70:=L.v70;have u70:=run_underlying L.t70;have t37:=L.t37;have a37:=L.a37;have z37:=L.z37;have v37:=L.v37;have u37:=run_underlying L.t37;have t3:=L.t3;have a3:=L.a3;have z3:=L.z3;have v3:=L.v3;have u3:=run_underlying L.t3;have t9:=L.t9;have a9:=L.a9;have z9:=L.z9;have v9:=L.v9;have u9:=run_underlying L.t9;have t4:=L.t4;have a4:=L.a4;have z4:=L.z4;have v4:=L.v4;have u4:=run_underlying L.t4;have t164:=L.t164;have a164:=L.a164;have z164:=L.z164;have v164:=L.v164;have u164:=run_underlying L.t164;have t5:=X.t5;have a5:=X.a5;have z5:=X.z5;have v5:=X.v5;have u5:=run_underlying X.t5;have e240:∀args w,(callFunc (ρ.f 240) args).run P w=.ok (.enter (ρ.f 240) args) w:=enters_of L.f240 (by kernel_rfl) rfl
 go_enter L.f166,Body.n166_ntmps ρ
 go_wp2_with (go_at_fn (ρ.f 240);refine(Ql {L with} X.toX72 b p v _ hbk hp).mono ?_)
 rintro e w1 ⟨rfl,hb1,o1,tp1,ou1,sz1,oth1,bz1⟩
 have hown1:w1.ownsRowF 0 (ρ.t 5) 1 v bs.size (Lib.strCells bs):=lN hown fun g hg=>oth1 g (fun e=>hne (by rw[hg,e]))
 have c0:w1.cell? ⟨b,0,none⟩=some (.pointer (some ⟨b,0,none⟩)):=by rw[Lib.cell_of_heap hb1];rfl
 have c1:w1.cell? ⟨b,1,none⟩=some v:=by rw[Lib.cell_of_heap hb1];rfl
 go_wp2_with (at_builtin;refine wE rfl _ _ (ρ.t 37) (ρ.t 9) rfl (ρ.t 5) i0 L.t37 L.t9 hi hz0 hz1 hz2 _ _ _ rfl hown1 s rfl ?c3 ?c4 ?_)
 case c3=>unfold maxLen;omega
 case c4=>omega
 intro v' w2 hown' hgrow hbz hnew;have hlt:b<w1.heap.size:=lt_of_heap hb1;have hb2:w2.heap[b]? =some (.cells #[.pointer (some ⟨b,0,none⟩),v] (ρ.t 72) (0,0)):=by
  rw[hgrow.block b hlt (fun e=>hne e.symm)];exact hb1
 have d0:w2.cell? ⟨b,0,none⟩=some (.pointer (some ⟨b,0,none⟩)):=by rw[Lib.cell_of_heap hb2];rfl
 have d1:w2.cell? ⟨b,1,none⟩=some v:=by rw[Lib.cell_of_heap hb2];rfl
 have f1:w2.frozen? ⟨b,1,none⟩=false:=Lib.frozen_of_heap hb2 1;have hvb:v'.ownBlock≠some b:=fun e=>by
  rcases hnew b e with h|h
  ·exact hne h
  ·omega
 obtain⟨ao,n',cap,rfl⟩:∃ao n' cap,v'=.slice ao n' cap:=by
  rcases hown'.2 with⟨hv,_⟩|⟨g,cap,cur,fz,hv,_⟩
  ·exact⟨_,_,_,hv⟩
  ·exact⟨_,_,_,hv⟩
 go_wp2
 go_ret2
 refine⟨_,.slice ao n' cap,rfl,⟨⟨_,?_,.inr rfl⟩,hvb,?_,?_,?_,?_,?_,?_,?_,?_⟩,rfl⟩
 ·simp[World.setCell,aeh,hb2]
 ·rw[←Gt,ByteArray.size_append]
  exact lN hown' fun g hg=>Below.heap_setCell _ _ _ _ (fun e=>hvb (by rw[hg,e]))
 ·intro g hg
  rcases hnew g hg with h|h
  ·exact .inl h
  ·exact .inr (by omega)
 ·exact hgrow.os.trans o1
 ·exact hgrow.tape.trans tp1
 ·exact hgrow.output.trans ou1
 ·have:=hgrow.size;simp[World.setCell];omega
 ·intro b' h1 h2 h3
  rw[Below.heap_setCell _ _ _ _ h2,hgrow.block b' (by omega) (fun e=>h3 e.symm)]
  exact oth1 b' h2
 ·intro b' h1
  rw[wQ,hbz b' (by omega)]
set_option maxHeartbeats 4000000 in
set_option maxRecDepth 100000 in
theorem M9 {P:Program} {ρ:Ren} (L:Lays.n169 P ρ) (X:Builder.Extra P ρ) (b:Nat) (p v:Value) (s:ByteArray) (w:World) (hbk:w.heap[b]? =some (.cells #[p,v] (ρ.t 72) (0,0))) (hp:p=.pointer none∨p=.pointer (some ⟨b,0,none⟩))
 (hne:v.ownBlock≠some b) (hown:w.ownsRowF 0 (ρ.t 5) 1 v s.size (Lib.strCells s)) (h0:0<s.size):
 Calls P (ρ.f 169) #[.pointer (some ⟨b,0,none⟩)] w fun ex w'=>∃val v',ex=.returned val∧uI (ρ.t 72) (ρ.t 5) b v w w' s v'∧val=.string s:=by
 obtain⟨g,cap,cur,fz,rfl,hbg,hg,hfz,hnc,hcm,hcs,htake⟩:∃g cap cur fz,v=.slice (some ⟨g,0,none⟩) s.size cap∧0≤g∧w.heap[g]? =some (.cells cur (ρ.t 5) fz)∧fz.2≤s.size*1∧s.size≤cap∧cap≤maxLen∧cur.size=cap*1∧cur.toList.take (s.size*1)=Lib.strCells s:=by
  rcases hown.2 with⟨_,hz⟩|⟨g,cap,cur,fz,hv,r⟩
  ·omega
  ·exact⟨g,cap,cur,fz,hv,r⟩
 have hgb:g≠b:=fun e=>hne (by simp[Value.ownBlock,e])
 have hls:s.data.toList.length=s.size:=by rw[aeO];rfl
 have c1:w.drew.cell? ⟨b,1,none⟩=some (.slice (some ⟨g,0,none⟩) s.size cap):=by
  have:w.drew.heap[b]? =some (.cells #[p,.slice (some ⟨g,0,none⟩) s.size cap] (ρ.t 72) (0,0)):=hbk;rw[Lib.cell_of_heap this];rfl
 have hSD:(Builtin.unsafeSliceData_ #[(ρ.t 37)] (ρ.t 127) #[.slice (some ⟨g,0,none⟩) s.size cap]).run P w.drew=.ok (.pointer (some ⟨g,0,none⟩)) w.drew:=
  Lib.run_unsafeSliceData_row _ _ _ _ _ _ (by omega)
 have hUS:(Builtin.unsafeString_ #[(ρ.t 127),(ρ.t 3)] (ρ.t 9) #[.pointer (some ⟨g,0,none⟩),.int .i64 s.size]).run P w.drew=.ok (.string s) (w.drew.freeze ⟨g,0,none⟩ s.size):=by
  have:=Lib.run_unsafeString_row (P:=P) w.drew (ρ.t 127) (ρ.t 3) (ρ.t 9) (ρ.t 5) L.t127 X.cellsByte g cur.size (by have hg':w.drew.heap[g]? =some (.cells cur (ρ.t 5) fz):=hg;simp[World.shape?,hg']) s.data.toList (by intro e;rw[e]at hls;exact absurd hls (by rw[adY];omega)) (by omega) (by unfold maxLen at hcm;omega) (by
   intro j x hx;exact hown.cells (g:=g) rfl j (.int .u8 x.toNat) (by simp[Lib.strCells,hx]))
  rw[hls]at this;exact this
 have hfin:uI (ρ.t 72) (ρ.t 5) b (.slice (some ⟨g,0,none⟩) s.size cap) w (w.drew.freeze ⟨g,0,none⟩ s.size) s (.slice (some ⟨g,0,none⟩) s.size cap):=by
  have hgn:(w.drew.freeze ⟨g,0,none⟩ s.size).heap[g]? =some (.cells cur (ρ.t 5) (if fz.1==fz.2 then(0,0+s.size)else(min fz.1 0,max fz.2 (0+s.size)))):=by
   unfold World.freeze;rw[if_neg (by omega)]
   have hg':w.drew.heap[g]? =some (.cells cur (ρ.t 5) fz):=hg;simp[aeh,hg']
  have hoth:∀b',b'≠g→(w.drew.freeze ⟨g,0,none⟩ s.size).heap[b']? =w.heap[b']? :=fun b' hb'=>by
   unfold World.freeze;rw[if_neg (by omega)]
   simp only[aeh];rw[if_neg (fun e=>hb' e.symm)];rfl
  refine⟨⟨p,(hoth b (fun e=>hgb e.symm)).trans hbk,hp⟩,hne,⟨hown.1,.inr ⟨g,cap,cur,_,rfl,hbg,hgn,?_,hnc,hcm,hcs,htake⟩⟩,fun g' hg'=>.inl hg',?_,?_,?_,?_,fun b' _ _ h3=>hoth b' (fun e=>h3 (by simp[Value.ownBlock,e])),fun b' _=>?_⟩
  ·split
   ·simp
   ·simp;omega
  ·unfold World.freeze;split<;>rfl
  ·unfold World.freeze;split<;>rfl
  ·unfold World.freeze;split<;>rfl
  ·unfold World.freeze
   split
   ·exact aea _
   ·exact Nat.le_of_eq (Array.size_modify ..).symm
  ·by_cases e:b'=g
   ·subst e;unfold bsz;rw[hgn,hg]
   ·exact eu (hoth b' e)
 have mixed:=L.mixed;have t72:=L.t72;have a72:=L.a72;have z72:=L.z72;have v72:=L.v72;have u72:=run_underlying L.t72;have t70:=L.t70;have a70:=L.a70;have z70:=L.z70;have v70:=L.v70;have u70:=run_underlying L.t70;have t37:=L.t37;have a37:=L.a37;have z37:=L.z37;have v37:=L.v37;have u37:=run_underlying L.t37;have t127:=L.t127;have a127:=L.a127;have z127:=L.z127;have v127:=L.v127;have u127:=run_underlying L.t127;have t3:=L.t3;have a3:=L.a3;have z3:=L.z3;have v3:=L.v3;have u3:=run_underlying L.t3;have t9:=L.t9;have a9:=L.a9;have z9:=L.z9;have v9:=L.v9;have u9:=run_underlying L.t9;have t5:=X.t5;have a5:=X.a5;have z5:=X.z5;have v5:=X.v5;have u5:=run_underlying X.t5
 go_enter L.f169,Body.n169_ntmps ρ
 go_wp2
 go_region_o
 all_goals(go_wp2;go_ret;exact⟨_,_,rfl,hfin,rfl⟩)
end Go.Eng
namespace Go.Eng.YtcechbdgokjmgaaGreatDoor
open Go.Proofs Go.RowKit
set_option linter.unusedSimpArgs false
set_option linter.unusedVariables false
set_option maxHeartbeats 0
set_option maxRecDepth 100000
def Na:CT:=fun args n H K=>match args with
 | [p,x]=>match p with
  |.rp k off=>match x with
   |.str s=>bW H k fun o=>match o with
    |.bld t e acc=>ifK (aew off 0&&aew t 163&&aew e 5) (VC (acc.size+s.size≤140737488355328)∧K (.tup [.int .i64 s.size,.nili]) [(k,.bld t e (acc++s))] [k] [])
    |_=>False
   |_=>False
  |_=>False
 |_=>False
def Nb:CT:=fun args n H K=>match args with
 | [p]=>match p with
  |.rp k off=>bW H k fun o=>match o with
   |.bld t e acc=>ifK (aew off 0&&aew t 163&&aew e 5) (K (.int .i64 acc.size) [(k,.bld t e acc)] [k] [])
   |_=>False
  |_=>False
 |_=>False
def Nc:CT:=fun args n H K=>match args with
 | [p]=>match p with
  |.rp k off=>bW H k fun o=>match o with
   |.bld t e acc=>ifK (aew off 0&&aew t 163&&aew e 5) (VC (0<acc.size)∧K (.str acc) [(k,.bld t e acc)] [k] [])
   |_=>False
  |_=>False
 |_=>False
theorem Bq {S:Imm} {w:World} {ι:Ix} {k b:Nat} {v:Value} (h:Rep S w ι (.rp k 0) v) (hb:ι.o k=some b):v=.pointer (some ⟨b,0,none⟩):=by
 cases h with
 |rp _ _ _ b' hk=>rw[hb]at hk;cases hk;rfl
theorem SY {S:Imm} {w:World} {ι:Ix} {s:ByteArray} {v:Value} (h:Rep S w ι (.str s) v):v=.string s:=by cases h;rfl
theorem Ta:COK Tryz.prog 106 Na:=by
 intro args n H K hk;unfold Na at hk;split at hk
 ·split at hk
  ·rename_i k off
   split at hk
   ·rename_i s
    rw[bg]at hk;obtain⟨o,hob,hk⟩:=hk;split at hk
    ·rename_i t e acc
     simp only[aL,aeA]at hk;obtain⟨⟨⟨h1,h2⟩,h3⟩,⟨hsz⟩,hk⟩:=hk;have h1:=aeB h1;have h2:=aeB h2;have h3:=aeB h3;subst h1;subst h2;subst h3;refine⟨_,_,_,[],hk,xD (enters' Tryz.func106 (by rfl) (by rfl)) hob fun S w ι vs b p v hr ho h0 hp hne hown=>?_⟩
     obtain⟨v1,v2,rfl,r1,r2⟩:=ET hr;obtain rfl:=Bq r1 ho;obtain rfl:=SY r2;refine(Qm (P:=Tryz.prog) (ρ:=Tryz.lays156_ren) {Tryz.lays156 with} Tryz.Builder_Extra_156 b p v acc s w h0 hp hne hown hsz).mono ?_
     rintro ex w' ⟨val,v',rfl,B,rfl⟩
     exact⟨_,v',rfl,B,fun S' ι'=>.tup _ _ _ rfl fun i hi=>by
      match i,hi with
      |0,_=>exact .int _ _ _
      |1,_=>exact .nili _⟩
    ·exact hk.elim
   ·exact hk.elim
  ·exact hk.elim
 ·exact hk.elim
theorem Tc:COK Tryz.prog 110 Nc:=by
 intro args n H K hk;unfold Nc at hk;split at hk
 ·split at hk
  ·rename_i k off
   rw[bg]at hk;obtain⟨o,hob,hk⟩:=hk;split at hk
   ·rename_i t e acc
    simp only[aL,aeA]at hk;obtain⟨⟨⟨h1,h2⟩,h3⟩,⟨hsz⟩,hk⟩:=hk;have h1:=aeB h1;have h2:=aeB h2;have h3:=aeB h3;subst h1;subst h2;subst h3;refine⟨_,_,_,[],hk,xD (enters' Tryz.func110 (by rfl) (by rfl)) hob fun S w ι vs b p v hr ho h0 hp hne hown=>?_⟩
    obtain⟨v1,rfl,r1⟩:=xE hr;obtain rfl:=Bq r1 ho;refine(M9 (P:=Tryz.prog) (ρ:=Tryz.lays156_ren) {Tryz.lays156 with} Tryz.Builder_Extra_156 b p v acc w h0 hp hne hown hsz).mono ?_
    rintro ex w' ⟨val,v',rfl,B,rfl⟩
    exact⟨_,v',rfl,B,fun S' ι'=>.str _ _⟩
   ·exact hk.elim
  ·exact hk.elim
 ·exact hk.elim
set_option maxRecDepth 100000 in
theorem YJ (b:Nat) (p v:Value) (s:ByteArray) (w:World) (hbk:w.heap[b]? =some (.cells #[p,v] 163 (0,0))) (hown:w.ownsRowF 0 5 1 v s.size (Lib.strCells s)):
 Calls Tryz.prog 109 #[.pointer (some ⟨b,0,none⟩)] w fun ex w'=>ex=.returned (.int .i64 s.size)∧w'=w:=by
 obtain⟨ao,cap,rfl⟩:∃ao cap,v=.slice ao s.size cap:=by
  rcases hown.2 with⟨hv,h0⟩|⟨g,cap,cur,fz,hv,_⟩
  ·exact⟨none,0,by rw[hv,h0]⟩
  ·exact⟨_,_,hv⟩
 have c1:w.cell? ⟨b,1,none⟩=some (.slice ao s.size cap):=by rw[Lib.cell_of_heap hbk];rfl
 have mixed:=Tryz.lays156.mixed;have t72:=Tryz.underlying163;have u72:=run_underlying Tryz.underlying163
 go_enter Tryz.func109,Tryz.ntmps109
 go_wp2
 go_ret
 exact⟨rfl,rfl⟩
theorem Td:COK Tryz.prog 109 Nb:=by
 intro args n H K hk;unfold Nb at hk;split at hk
 ·split at hk
  ·rename_i k off
   rw[bg]at hk;obtain⟨o,hob,hk⟩:=hk;split at hk
   ·rename_i t e acc
    simp only[aL,aeA]at hk;obtain⟨⟨⟨h1,h2⟩,h3⟩,hk⟩:=hk;have h1:=aeB h1;have h2:=aeB h2;have h3:=aeB h3;subst h1;subst h2;subst h3;refine⟨_,_,_,[],hk,xD (enters' Tryz.func109 (by rfl) (by rfl)) hob fun S w ι vs b p v hr ho h0 hp hne hown=>?_⟩
    obtain⟨v1,rfl,r1⟩:=xE hr;obtain rfl:=Bq r1 ho;refine(YJ b p v acc w h0 hown).mono ?_
    rintro ex w' ⟨rfl,rfl⟩
    exact⟨_,v,rfl,⟨⟨p,h0,hp⟩,hne,hown,fun g hg=>.inl hg,rfl,rfl,rfl,aea _,fun _ _ _ _=>rfl,fun _ _=>rfl⟩,fun S' ι'=>.int _ _ _⟩
   ·exact hk.elim
  ·exact hk.elim
 ·exact hk.elim
def sNl:ByteArray:=⟨#[10]⟩
def lnB (w:ByteArray) (l:List Int):ByteArray:=joB ([w]++l.map itB) kBl++sNl
theorem mI {w:ByteArray} {l:List Int} (hw:w.size≤10) (h:∀x∈l,nI x):(lnB w l).size≤22*(l.length+1)+1:=by
 have:=E9 (xs:=[w]++l.map itB) (b:=21) fun x hx=>by
  rcases aep.1 hx with hx|hx
  ·simp at hx;subst hx;omega
  ·obtain⟨n,hn,rfl⟩:=agQ.1 hx
   exact oU (h n hn)
 unfold lnB;rw[ByteArray.size_append];have e:sNl.size=1:=rfl;simp only[afu,ad4,adY,af0]at this;omega
noncomputable def adz:CPT:=aA 106 Na (aA 107 (aB zo) (aA 108 (aB Fb) noC))
theorem YK:aW Tryz.prog adz:=aj Ta (aj (au Fa) (aj (au Ri) aD))
structure Br (acc w:ByteArray) (l:List Int):Prop where
 sa:acc.size≤1000000000
 sw:w.size≤10
 sl:1≤l.length∧l.length≤100000
 sn:∀x∈l,nI x
theorem Te (acc w:ByteArray) (l:List Int) (h:Br acc w l):gL Tryz.prog 105 [.str w,.isl (.ints .i64 l) .none,.rp 0 0] [.bld 163 5 acc] [] [.bld 163 5 (acc++lnB w l)]:=by
 obtain⟨h1,h2,h3,h4⟩:=h;have hs:=mI h2 h4;have hT:Rh l:=⟨by omega,fun i hi=>h4 _ (bL hi)⟩
 have hW:Rf ([w]++l.map itB) 1000000:=⟨by simp;omega,fun x hx=>by
  rcases aep.1 hx with hx|hx
  ·simp at hx;subst hx;omega
  ·obtain⟨n,hn,rfl⟩:=agQ.1 hx
   have:=oU (h4 n hn);omega⟩
 have e1:(joB ([w]++l.map itB) kBl).size+1=(lnB w l).size:=by
  unfold lnB;rw[ByteArray.size_append];rfl
 unfold lnB sNl;unfold lnB sNl at hs e1;refine bG (md:=1) (rf:=[]) mixed ak YK 1 [] Tryz.func105 (by rfl) (by rfl) (by rfl) ?_
 repeat'((conv=>whnf);first|intro _|apply aI|with_reducible exact vM rfl|exact⟨⟩|apply nM|apply fM)
 all_goals((try apply vM);(try simp only[vq]at*);try omega)
 all_goals first|exact hT|exact hW|(simp only[afu,af0,ad4,adY];omega)|(rw[ByteArray.size_append]at*;omega)|skip
def Tf:LSp:=fun xs objs K=>match xs,objs with
 | [.str w,.isl (.ints .i64 l) .none,.rp 0 0],[.bld 163 5 acc]=>VC (Br acc w l)∧K [] [.bld 163 5 (acc++lnB w l)]
 |_,_=>False
theorem abo:LOK Tryz.prog 105 Tf:=by
 intro xs objs K hk;unfold Tf at hk;split at hk
 ·exact⟨_,_,hk.2,Te _ _ _ hk.1.get⟩
 ·exact hk.elim
abbrev qH:ByteArray:=⟨#[99,101,108,108,115]⟩
abbrev Nf:ByteArray:=⟨#[115,117,109]⟩
abbrev DR:ByteArray:=⟨#[108,105,110,101]⟩
abbrev vD:ByteArray:=⟨#[103,105,118,101,110]⟩
def prA (c:Int) (ls:List (List Int)) (sum:Int) (k:Nat):ByteArray:=(ls.take k).foldl (fun a l=>a++lnB DR l) (.empty++lnB qH [c]++lnB Nf [sum])
def vE (c:Int) (ls:List (List Int)) (sum:Int) (gv:List Int):ByteArray:=prA c ls sum ls.length++lnB vD gv
def Ng (c:Int) (ls:List (List Int)) (sum:Int) (gv:List Int):ByteArray × Int:=
 if pzE c ls sum gv≠0 then(rY,pzE c ls sum gv)else if 4096<(vE c ls sum gv).size then(rY,25)else(vE c ls sum gv,0)
theorem Gu (c:Int) (ls:List (List Int)) (sum:Int) (k:Nat) (h:k<ls.length):prA c ls sum (k+1)=prA c ls sum k++lnB DR (ls.getD k []):=by
 unfold prA;rw[af3,aev h,agq,aeo,aev h];rfl
noncomputable def adA:CPT:=aA 22 (aB kC) (aA 105 (dP [] Tf) (aA 109 Nb (aA 110 Nc noC)))
theorem Bt:aW Tryz.prog adA:=aj (au jJ) (aj (cu [] abo) (aj Td (aj Tc aD)))
theorem Tg {c:Int} {ls:List (List Int)} {sum:Int} {gv:List Int} (hp:dR c ls sum gv):∀k,k≤ls.length→(prA c ls sum k).size≤5000+1000*k:=by
 intro k;induction k with
 |zero=>
  intro _;have h1:=mI (w:=qH) (l:=[c]) (by decide) (fun x hx=>by simp at hx;subst hx;have:=hp.c1;exact⟨by omega,by omega⟩)
  have h2:=mI (w:=Nf) (l:=[sum]) (by decide) (fun x hx=>by simp at hx;subst hx;have:=hp.sm;exact⟨by omega,by omega⟩)
  show(ByteArray.empty++lnB qH [c]++lnB Nf [sum]).size≤_;rw[ByteArray.size_append,ByteArray.size_append];simp at h1 h2⊢;omega
 |succ k ih=>
  intro hk;have hL:=hp.ln k (by omega)
  have h1:=mI (w:=DR) (l:=ls.getD k []) (by decide) (fun x hx=>by have:=hL.rng x hx;have:=hp.c1;exact⟨by omega,by omega⟩)
  rw[Gu _ _ _ _ (by omega),ByteArray.size_append]
  have:=ih (by omega)
  have:=hL.len;omega
theorem Nh (c:Int) (ls:List (List Int)) (sum:Int) (gv:List Int) (h:bH ls) (hg:gv.length≤5000):
 aF Tryz.prog 42 [pzV c ls sum gv] (.tup [.str (Ng c ls sum gv).1,.int .i64 (Ng c ls sum gv).2]):=by
 unfold Ng;by_cases he:pzE c ls sum gv=0
 case neg=>
  rw[if_pos he];refine av (md:=1) (rf:=[2163]) mixed ak Bt Tryz.func42 (by rfl) (by rfl) (by rfl) ?_
  repeat'((conv=>whnf);first|(intro hq;(try simp only[vw]at hq);try first|exact absurd hq (by decide)|exfalso;omega)|apply aI|with_reducible exact vM rfl|exact⟨⟩|apply nM|apply fM)
  all_goals((try apply vM);(try simp only[vq]at*);try omega)
  all_goals first|exact⟨h,hg⟩|exact Sup.of rfl|(exfalso;exact he (by assumption))|(exfalso;contradiction)|skip
 rw[if_neg (by rw[he];simp)]
 have hp:=dR.of he;have hc:=hp.c1;have hs:=hp.sm;have hgl:=hp.gl;have hll:=hp.ll;have hA:=Tg hp;have k1:Br .empty qH [c]:=⟨by decide,by decide,by simp,fun x hx=>by simp at hx;subst hx;exact⟨by omega,by omega⟩⟩
 have k2:Br (.empty++lnB qH [c]) Nf [sum]:=⟨by
  have h1:=mI (w:=qH) (l:=[c]) (by decide) (fun x hx=>by simp at hx;subst hx;exact⟨by omega,by omega⟩)
  rw[ByteArray.size_append];simp at h1⊢;omega,by decide,by simp,fun x hx=>by simp at hx;subst hx;exact⟨by omega,by omega⟩⟩
 have k3:∀k,k<ls.length→Br (prA c ls sum k) DR (ls.getD k []):=fun k hk=>⟨by have:=hA k (by omega);omega,by decide,by have:=(hp.ln k hk).ne;have:=(hp.ln k hk).len;omega,fun x hx=>by have:=(hp.ln k hk).rng x hx;exact⟨by omega,by omega⟩⟩
 have k4:Br (prA c ls sum ls.length) vD gv:=⟨by have:=hA ls.length (aea _);omega,by decide,by omega,fun x hx=>by have:=hp.gr x hx;exact⟨by omega,by omega⟩⟩
 have hT:0<(vE c ls sum gv).size∧(vE c ls sum gv).size≤1000000:=by
  have h1:=hA ls.length (aea _);have h2:=mI (w:=vD) (l:=gv) (by decide) k4.sn
  have h3:0<(lnB vD gv).size:=by unfold lnB;rw[ByteArray.size_append];exact Nat.lt_of_lt_of_le (by decide:0<sNl.size) (Nat.le_add_left _ _)
  unfold vE;rw[ByteArray.size_append];omega
 have fin:∀r:ByteArray × Int,r=(if 4096<(vE c ls sum gv).size then(rY,(25:Int))else(vE c ls sum gv,0))→aF Tryz.prog 42 [pzV c ls sum gv] (.tup [.str r.1,.int .i64 r.2]):=by
  intro r hr;refine av (md:=1) (rf:=[2163]) mixed ak Bt Tryz.func42 (by rfl) (by rfl) (by rfl) ?_
  repeat'((conv=>whnf);first|(intro hq;(try simp only[vw]at hq);try first|exact absurd hq (by decide)|exfalso;omega)|apply aI|with_reducible exact vM rfl|exact⟨⟩|apply nM|apply fM)
  all_goals((try apply vM);(try simp only[vq]at*);try omega)
  all_goals(try first|exact⟨h,hg⟩|exact k1|exact k2|(exfalso;contradiction))
  all_goals(try exact(rfl:Ll.zero.cells= #[Value.pointer none,Value.slice none 0 0]))
  conv=>whnf
  refine aM (X:=Nat) (fun k=>k≤ls.length) (fun k=>[(30,.int .i64 k)]) (fun k=>[(5,.bld 163 5 (prA c ls sum k))]) (fun k=>ls.length-k) 0 ⟨aK,mixed,ak,Bt,aQ⟩ (by rfl) (by omega) ?_ ?_
  ·repeat'((conv=>whnf);first|intro _|apply aI|with_reducible exact vM rfl|exact⟨⟩|apply nM|apply fM)
   all_goals((try apply vM);(try simp only[vq]at*);try omega)
  intro k hk;by_cases hlt:k<ls.length
  ·have hs:=Gu c ls sum k hlt
   repeat'((conv=>whnf);first|(intro hq;(try simp only[vw]at hq);try first|exact absurd hq (by decide)|exfalso;omega)|apply aI|with_reducible exact vM rfl|exact⟨⟩|apply nM|apply fM)
   all_goals((try apply vM);(try simp only[vq]at*);try omega)
   all_goals(try first|exact k3 k hlt|omega)
   refine⟨k+1,[],⟨by omega,by omega⟩,?_⟩
   repeat'((conv=>whnf);first|intro _|apply aI|with_reducible exact vM rfl|exact⟨⟩|apply nM|apply fM)
   all_goals((try apply vM);(try simp only[vq]at*);try omega)
   all_goals(try(rw[hs]))
  have e:k=ls.length:=by omega
  subst e;have e2:prA c ls sum ls.length++lnB vD gv=vE c ls sum gv:=rfl
  repeat'((conv=>whnf);first|(intro hq;(try simp only[vw]at hq);try first|exact absurd hq (by decide)|exfalso;omega)|apply aI|with_reducible exact vM rfl|exact⟨⟩|apply nM|apply fM)
  all_goals((try apply vM);(try simp only[vq]at*);try omega)
  all_goals(try first|exact k4|omega)
  all_goals(try rw[e2]at*)
  ·rw[hr,if_pos (by omega)];exact Sup.of rfl
  ·exact hT.1
  ·rw[hr,if_neg (by omega)];exact Sup.of rfl
 exact fin _ rfl
def L9:List (List Int):=[[0,1,2],[3,4,5],[6,7,8],[0,3,6],[1,4,7],[2,5,8],[0,4,8],[2,4,6]]
def G9:List Int:=[2,7,0,0,5,0,0,0,0]
def G9b:List Int:=[2,7,5,0,0,0,0,0,0]
def N9:List Int:=[2,7,6,9,5,1,4,3,8]
def O9:List Int:=[8,7,6,5,4,3,2,1,0]
theorem abp:pzE 9 L9 15 G9=0:=by decide+kernel
theorem ab3:(sol 9 L9 15 G9 1).1.length=6∧(sol 9 L9 15 G9 1).2.1.cs.getD 3 []=[9]∧(sol 9 L9 15 G9 1).2.1.cs.length=9∧(sol 9 L9 15 G9 1).2.2=0:=by decide+kernel
theorem abq:DN 9 L9 15 G9 5=([N9],0):=by decide+kernel
theorem ab4:F6 9 L9 15 G9=[6,0,0,0,0]:=by decide+kernel
theorem Ni:(kK 9 L9 15 G9).1=1∧(kK 9 L9 15 G9).2.2=0:=by decide+kernel
instance acr:DecidableEq Dd:=fun a b=>match a,b with
 |⟨g,y,x,k⟩,⟨g',y',x',k'⟩=>decidable_of_iff (g=g'∧y=y'∧x=x'∧k=k') ⟨fun h=>by obtain⟨rfl,rfl,rfl,rfl⟩:=h;rfl,fun h=>by cases h;exact⟨rfl,rfl,rfl,rfl⟩⟩
theorem abr:sj 9 L9 15 G9=(some ⟨1,2,6,0⟩,0):=by decide+kernel
abbrev Ti:ByteArray:=⟨#[99,101,108,108,32,50,32,105,115,32,54,32,98,121,32,108,97,115,116,32,111,110,32,108,105,110,101,32,48]⟩
theorem ab5:M8 9 L9 15 G9 ⟨#[108,97,115,116]⟩ 2 6 0=(Ti,0):=by decide+kernel
theorem ab6:fG N9=[1,2,3,4,5,6,7,8,9]:=by
 unfold fG;simp[N9,List.mergeSort,List.MergeSort.Internal.splitInTwo,ahl,ahl.go,List.merge]
theorem adB:iZ N9=(true,0):=by
 have h:nO N9=true:=by unfold nO;rw[ab6];decide
 unfold iZ;rw[if_neg (by decide),h]
theorem Nj:Bo 9 L9 N9 1=0∧SV L9 N9=true∧rZ 5 O9=0:=by decide+kernel
theorem Vz:O9.foldl (mkS 9 L9 15 N9 1) N9=[2,7,0,9,0,0,0,0,0]∧gD N9 (L9.getD 0 []) (L9.getD 0 []).length=15:=by decide+kernel
theorem ab7:Gp 9 L9 N9 O9 1=((9,L9,15,[2,7,0,9,0,0,0,0,0]),0):=by
 unfold Gp;rw[if_neg (by rw[Nj.1];simp),if_neg (by rw[adB];simp),if_neg (by rw[Nj.2.1];simp),if_neg (by rw[Nj.2.2];decide),Vz.2]
 rw[show(1:Int).toNat=1 from rfl,Vz.1]
abbrev j6:ByteArray:=⟨#[99,101,108,108,115,32,57,10,115,117,109,32,49,53,10,108,105,110,101,32,48,32,49,32,50,10,108,105,110,101,32,51,32,52,32,53,10,108,105,110,101,32,54,32,55,32,56,10,108,105,110,101,32,48,32,51,32,54,10,108,105,110,101,32,49,32,52,32,55,10,108,105,110,101,32,50,32,53,32,56,10,108,105,110,101,32,48,32,52,32,56,10,108,105,110,101,32,50,32,52,32,54,10,103,105,118,101,110,32,50,32,55,32,48,32,48,32,53,32,48,32,48,32,48,32,48,10]⟩
theorem ab8:Ng 9 L9 15 G9=(j6,0):=by decide+kernel
def Nk (z:ByteArray):Bool:=decide (0<z.size)&&decide (z.size≤9)&&(decide (z.size=1)||!decide (((z.data.getD 0 0).toNat:Int)=48))&&(dB z).all dgI
theorem yw (z:ByteArray):Az z↔Nk z=true:=by
 unfold Az Nk;simp only[aeA,afs,decide_eq_true_eq,ag8,decide_eq_false_iff_not];constructor
 ·rintro⟨⟨h1,h2,h3⟩,h4⟩;exact⟨⟨⟨h1,h2⟩,h3⟩,h4⟩
 ·rintro⟨⟨⟨h1,h2⟩,h3⟩,h4⟩;exact⟨⟨h1,h2,h3⟩,h4⟩
def Nl (s:ByteArray) (sg:Bool):Bool:=preB s kMi&&(!sg||decide (jZ s kMi=kZe))
theorem Gv (s:ByteArray) (sg:Bool):Mt s sg↔Nl s sg=true:=by
 unfold Mt Nl;simp
def Bu (s:ByteArray) (sg:Bool):Option Int:=if(Nk (jZ s kMi)&&!Nl s sg)=true then Go.Lib.atoi s.data.toList else none
theorem Bv (s:ByteArray) (sg:Bool):fI s sg=Bu s sg:=by
 unfold fI Bu;by_cases h:Nk (jZ s kMi)=true<;>by_cases h2:Nl s sg=true
 ·rw[if_neg (fun e=>e.2 ((Gv _ _).2 h2)),if_neg (by simp[h,h2])]
 ·rw[if_pos ⟨(yw _).2 h,fun e=>h2 ((Gv _ _).1 e)⟩,if_pos (by simp[h,h2])]
 ·rw[if_neg (fun e=>h ((yw _).1 e.1)),if_neg (by simp[h,h2])]
 ·rw[if_neg (fun e=>h ((yw _).1 e.1)),if_neg (by simp[h,h2])]
def Gw (s w:ByteArray):Option (List Int):=
 if(decide ((dD 32 s).getD 0 .empty=w)&&((dD 32 s).drop 1).all fun x=>(Bu x (decide (w=iY))).isSome)=true then some (((dD 32 s).drop 1).map fun x=>(Bu x (decide (w=iY))).getD 0)else none
theorem JW (sg:Bool) (ws:List ByteArray):okW sg ws↔(ws.all fun x=>(Bu x sg).isSome)=true:=by
 unfold okW;rw[afI];constructor
 ·intro h x hx
  obtain⟨j,hj,rfl⟩:=List.mem_iff_getElem.1 hx;have:=h j hj;rw[aeo,aev hj,Bv]at this;exact this
 ·intro h j hj
  rw[Bv];exact h _ (uS hj)
theorem YL (s w:ByteArray):bZ s w=Gw s w:=by
 unfold bZ Gw numsL;simp only[Bv];by_cases h:(dD 32 s).getD 0 .empty=w<;>by_cases h2:(((dD 32 s).drop 1).all fun x=>(Bu x (decide (w=iY))).isSome)=true
 ·rw[if_pos ⟨h,(JW _ _).2 h2⟩,if_pos (by rw[h2];simp only[h];simp)]
 ·rw[if_neg (fun e=>h2 ((JW _ _).1 e.2)),if_neg (fun e=>h2 (by rw[aeA]at e;exact e.2))]
 ·rw[if_neg (fun e=>h e.1),if_neg (fun e=>h (by rw[aeA,decide_eq_true_eq]at e;exact e.1))]
 ·rw[if_neg (fun e=>h e.1),if_neg (fun e=>h (by rw[aeA,decide_eq_true_eq]at e;exact e.1))]
def Gx (r:Rd) (s:ByteArray):Bool × Rd:=
 if r.line+1≤2 then
  match Gw s (if r.line=0 then FP else iY)with
  |none=>(false,{r with line:=r.line+1})
  |some l=>if l.length≠1 then(false,{r with line:=r.line+1})else if r.line=0 then(true,{r with line:=r.line+1,c:=l.getD 0 0})else(true,{r with line:=r.line+1,sum:=l.getD 0 0})
 else if r.done=true then(false,{r with line:=r.line+1})
 else match Gw s DF with
  |some l=>(true,{r with line:=r.line+1,L:=r.L++[l]})
  |none=>match Gw s uT with
   |some l=>(true,{r with line:=r.line+1,gv:=l,done:=true})
   |none=>(false,{r with line:=r.line+1,gv:=[],done:=false})
theorem YM (r:Rd) (s:ByteArray):nxt r s=Gx r s:=by
 unfold nxt Gx;simp only[YL];rfl
def rdC:Rd→List ByteArray→Rd × Bool
 |r,[]=>(r,true)
 |r,x::t=>if(Gx r x).1=true then rdC (Gx r x).2 t else((Gx r x).2,false)
theorem abt:∀(l:List ByteArray) (r:Rd),rdG r l=rdC r l:=by
 intro l;induction l with
 |nil=>intro r;rfl
 |cons x t ih=>
  intro r;unfold rdG rdC;rw[YM,ih]
theorem adC:((rdC rd0 (dD 10 (jo j6 kNl))).1.c,(rdC rd0 (dD 10 (jo j6 kNl))).1.L,(rdC rd0 (dD 10 (jo j6 kNl))).1.sum,(rdC rd0 (dD 10 (jo j6 kNl))).1.gv,(rdC rd0 (dD 10 (jo j6 kNl))).1.done,(rdC rd0 (dD 10 (jo j6 kNl))).2)=(9,L9,15,G9,true,true):=by decide+kernel
theorem ab9:vB j6=0:=by decide+kernel
theorem abu:M0 j6=((9,L9,15,G9),0,0):=by
 have h:=adC;have hG:iI j6=rdC rd0 (dD 10 (jo j6 kNl)):=abt _ _;rw[←hG]at h;simp only[Prod.mk.injEq]at h;obtain⟨h1,h2,h3,h4,h5,h6⟩:=h;unfold M0;rw[if_neg (by rw[ab9];simp),if_neg (by rw[h6];simp),if_neg (by rw[h5];simp),h1,h2,h3,h4,if_neg (by rw[abp];simp)]
theorem abv (l:List Dd):Sup (.isl (dlC l) .none) (.isl (.recs 4 (l.map ddC)) .none):=⟨fun{S w ι v} hr=>by
 have hn:(CL.recs 4 (l.map ddC)).ncell=(dlC l).ncell:=by simp[CL.ncell]
 have hc:(CL.recs 4 (l.map ddC)).cnt=(dlC l).cnt:=by simp[CL.cnt]
 have hg:∀j,j<(dlC l).ncell→(CL.recs 4 (l.map ddC)).get j=(dlC l).get j:=fun j hj=>by
  simp only[CL.ncell]at hj;have:j / 4<l.length:=by omega
  simp only[CL.get];rw[aeo,ae7,aeo,aev this];rfl
 cases hr with
 |islnil _ _ _ h=>exact .islnil _ _ _ (by rw[hc];exact h)
 |isl _ _ _ b off cap h1 h2 h3 h4 h5=>
  rw[←hc];exact .isl _ _ _ _ _ _ (by rw[hc];exact h1) (fun j hj=>h2 j (by rw[←hn];exact hj)) (fun j hj=>by rw[hg j (by rw[←hn];exact hj)];exact h3 j (by rw[←hn];exact hj)) (fun h=>by cases h) (fun k h=>by cases h)⟩
theorem Iw:aF Tryz.prog 84 [] (.agg [.int .i64 9,.isl (.rows .i64 L9) .none]):=by
 refine eD (md:=1) (rf:=[]) mixed ak aD Tryz.func84 (by rfl) (by rfl) (by rfl) ?_
 repeat'((conv=>whnf);first|(intro hq;(try simp only[vw]at hq);try first|exact absurd hq (by decide)|exfalso;omega)|apply aI|with_reducible exact vM rfl|exact⟨⟩|apply nM|apply fM)
 all_goals((try apply vM);(try simp only[vq]at*);try omega)
 unfold L9;all_goals(refine Sup.via ?_;repeat'((conv=>whnf);first|intro _|apply aI|with_reducible exact vM rfl|exact⟨⟩|apply nM|apply fM);all_goals((try apply vM);(try simp only[vq]at*);try omega);all_goals(try(simp[CL.sub];done)))
theorem Tj:aF Tryz.prog 85 [] (.isl (.ints .i64 N9) .none):=by
 refine av (md:=1) (rf:=[]) mixed ak aD Tryz.func85 (by rfl) (by rfl) (by rfl) ?_
 repeat'((conv=>whnf);first|(intro hq;(try simp only[vw]at hq);try first|exact absurd hq (by decide)|exfalso;omega)|apply aI|with_reducible exact vM rfl|exact⟨⟩|apply nM|apply fM)
 all_goals((try apply vM);(try simp only[vq]at*);try omega)
 unfold N9;all_goals(refine Sup.via ?_;repeat'((conv=>whnf);first|intro _|apply aI|with_reducible exact vM rfl|exact⟨⟩|apply nM|apply fM);all_goals((try apply vM);(try simp only[vq]at*);try omega);all_goals(try(simp[CL.sub];done)))
def Bw:PSp:=fun xs K=>match xs with
 | []=>VC (True)∧K (.agg [.int .i64 9,.isl (.rows .i64 L9) .none])
 |_=>False
theorem Qn:POK Tryz.prog 84 Bw:=by
 intro xs K h;unfold Bw at h;split at h
 ·exact⟨_,h.2,Iw⟩
 ·exact h.elim
def Tk:PSp:=fun xs K=>match xs with
 | []=>VC (True)∧K (.isl (.ints .i64 N9) .none)
 |_=>False
theorem abw:POK Tryz.prog 85 Tk:=by
 intro xs K h;unfold Tk at h;split at h
 ·exact⟨_,h.2,Tj⟩
 ·exact h.elim
theorem mP:bH L9:=⟨by decide,by decide⟩
def C9:List (List Int):=[[2],[7],[1,3,4,6,8,9],[1,3,4,6,8,9],[5],[1,3,4,6,8,9],[1,3,4,6,8,9],[1,3,4,6,8,9],[1,3,4,6,8,9]]
def D9:List Bool:=[true,true,false,false,true,false,false,false,false]
def T9:List (List PV):=[(6,2,0),(3,7,4),(8,8,6),(4,6,2),(9,3,3),(1,5,1)].map fun d:Int × Int × Int=>[.str bJ,.int .i64 d.2.1,.int .i64 d.1,.int .i64 d.2.2]
theorem acd:vg 9 L9 15 G9=⟨C9,D9⟩:=by
 have h1:(vg 9 L9 15 G9).cs=C9:=by decide+kernel
 have h2:(vg 9 L9 15 G9).ds=D9:=by decide+kernel
 rw[←h1,←h2]
theorem adD:aF Tryz.prog 20 [pzV 9 L9 15 G9] (.tup [.agg [.isl (.rows .i64 C9) .none,.isl (.bools D9) .none],.int .i64 0]):=by
 have h:=MJ 9 L9 15 G9 mP (by decide)
 rw[acd,abp]at h;exact h
theorem ace:aF Tryz.prog 21 [pzV 9 L9 15 G9] (.tup [ddV bJ 2 6 0,.int .i64 0]):=by
 have h:=PI 9 L9 15 G9 mP (by decide)
 rw[abr]at h;exact h
theorem acf:aF Tryz.prog 63 [pzV 9 L9 15 G9,ddV bJ 2 6 0] (.tup [.str Ti,.int .i64 0]):=by
 have h:=Gs 9 L9 15 G9 mP (by decide) bJ 2 6 0
 rw[ab5]at h;exact h
theorem acg:(sol 9 L9 15 G9 1).1.map ddC=T9:=by
 have h:(sol 9 L9 15 G9 1).1=[⟨1,2,6,0⟩,⟨1,7,3,4⟩,⟨1,8,8,6⟩,⟨1,6,4,2⟩,⟨1,3,9,3⟩,⟨1,5,1,1⟩]:=by decide+kernel
 rw[h];rfl
def S9:List (List Int):=[[2],[7],[6],[9],[5],[1],[4],[3],[8]]
theorem abx:aF Tryz.prog 30 [pzV 9 L9 15 G9,.int .i64 1] (.tup [.isl (.recs 4 T9) .none,.agg [.isl (.rows .i64 S9) .none,.isl (.bools (aez 9 true)) .none],.int .i64 0]):=by
 have h:=zL 9 L9 15 G9 1 mP (by decide)
 have h1:su 9 L9 15 G9 1=sol 9 L9 15 G9 1:=by
  have e:aG [pzE 9 L9 15 G9,fH 1]=0∧(sol 9 L9 15 G9 (1:Int).toNat).2.2≠21:=by decide+kernel
  unfold su;rw[if_neg (by rw[e.1];simp),if_neg e.2]
  rfl
 rw[h1]at h;have h2:(sol 9 L9 15 G9 1).2.2=0:=ab3.2.2.2;have h3:(sol 9 L9 15 G9 1).2.1.cs=S9:=by decide+kernel
 have h4:(sol 9 L9 15 G9 1).2.1.ds=aez 9 true:=by decide+kernel
 rw[←acg];refine tZ h (AZ rfl fun i hi=>?_)
 match i,hi with
 |0,_=>exact abv _
 |1,_=>
  show Sup (stV _) _;rw[show stV (sol 9 L9 15 G9 1).2.1=.agg [.isl (.rows .i64 (sol 9 L9 15 G9 1).2.1.cs) .none,.isl (.bools (sol 9 L9 15 G9 1).2.1.ds) .none]from rfl,h3];rw[h4];exact mg _
 |2,_=>show Sup (.int .i64 _) _;rw[h2];exact mg _
theorem aby:aF Tryz.prog 31 [pzV 9 L9 15 G9] (.tup [.int .i64 1,.int .i64 0]):=by
 have h:=MK 9 L9 15 G9 mP (by decide)
 rw[Ni.1,Ni.2]at h;exact h
theorem abz:aF Tryz.prog 32 [pzV 9 L9 15 G9] (.tup [.isl (.ints .i64 [6,0,0,0,0]) .none,.int .i64 0]):=by
 have h:=MN 9 L9 15 G9 mP (by decide)
 rw[ab4,Ni.2]at h;exact h
theorem ach:aF Tryz.prog 53 [.agg [.int .i64 9,.isl (.rows .i64 L9) .none],.isl (.ints .i64 N9) .none,.isl (.ints .i64 O9) .none,.int .i64 1] (.tup [pzV 9 L9 15 [2,7,0,9,0,0,0,0,0],.int .i64 0]):=by
 have h:=Qj 9 L9 N9 O9 1 mP (by decide) (by decide)
 rw[ab7]at h;exact h
theorem aci:aF Tryz.prog 39 [pzV 9 L9 15 G9,.int .i64 5] (.tup [.isl (.rows .i64 [N9]) .none,.int .i64 0]):=by
 have h:=Bg 9 L9 15 G9 5 mP (by decide)
 rw[abq]at h;exact h
theorem abA:aF Tryz.prog 42 [pzV 9 L9 15 G9] (.tup [.str j6,.int .i64 0]):=by
 have h:=Nh 9 L9 15 G9 mP (by decide)
 rw[ab8]at h;exact h
theorem acj:aF Tryz.prog 44 [.str j6] (.tup [pzV 9 L9 15 G9,.int .i64 0,.int .i64 0]):=by
 have h:=Qk j6 (by decide+kernel)
 rw[abu]at h;exact h
theorem abB:aF Tryz.prog 30 [pzV 9 L9 15 G9b,.int .i64 5] (.tup [.any,.agg [.isl (.rows .i64 []) .none,.isl (.bools []) .none],.int .i64 21]):=by
 have h:=zL 9 L9 15 G9b 5 mP (by decide)
 have h1:su 9 L9 15 G9b 5=([],noS,21):=by
  have e:aG [pzE 9 L9 15 G9b,fH 5]=0∧(sol 9 L9 15 G9b (5:Int).toNat).2.2=21:=by decide+kernel
  unfold su;rw[if_neg (by rw[e.1];simp),if_pos e.2]
 rw[h1]at h;refine tZ h (AZ rfl fun i hi=>?_)
 match i,hi with
 |0,_=>exact⟨fun _=>.any _ _⟩
 |1,_=>exact mg _
 |2,_=>exact mg _
def Nn:PSp:=fun xs K=>match xs with
 | [.agg [.int .i64 c,.isl (.rows .i64 ls) .none,.int .i64 s,.isl (.ints .i64 gv) .none]]=>VC (c=9∧ls=L9∧s=15∧gv=G9)∧K (.tup [.agg [.isl (.rows .i64 C9) .none,.isl (.bools D9) .none],.int .i64 0])
 |_=>False
theorem YN:POK Tryz.prog 20 Nn:=by
 intro xs K h;unfold Nn at h;split at h
 ·exact⟨_,h.2,(by obtain⟨rfl,rfl,rfl,rfl⟩:=h.1.get;exact adD)⟩
 ·exact h.elim
def Gy:PSp:=fun xs K=>match xs with
 | [.agg [.int .i64 c,.isl (.rows .i64 ls) .none,.int .i64 s,.isl (.ints .i64 gv) .none]]=>VC (c=9∧ls=L9∧s=15∧gv=G9)∧K (.tup [ddV bJ 2 6 0,.int .i64 0])
 |_=>False
theorem Tn:POK Tryz.prog 21 Gy:=by
 intro xs K h;unfold Gy at h;split at h
 ·exact⟨_,h.2,(by obtain⟨rfl,rfl,rfl,rfl⟩:=h.1.get;exact ace)⟩
 ·exact h.elim
def Gz:PSp:=fun xs K=>match xs with
 | [.agg [.int .i64 c,.isl (.rows .i64 ls) .none,.int .i64 s,.isl (.ints .i64 gv) .none],.agg [.str r,.int .i64 y,.int .i64 x,.int .i64 k]]=>VC ((c=9∧ls=L9∧s=15∧gv=G9)∧r=bJ∧y=2∧x=6∧k=0)∧K (.tup [.str Ti,.int .i64 0])
 |_=>False
theorem Tp:POK Tryz.prog 63 Gz:=by
 intro xs K h;unfold Gz at h;split at h
 ·exact⟨_,h.2,(by obtain⟨⟨rfl,rfl,rfl,rfl⟩,rfl,rfl,rfl,rfl⟩:=h.1.get;exact acf)⟩
 ·exact h.elim
def Bz:PSp:=fun xs K=>match xs with
 | [.agg [.int .i64 c,.isl (.rows .i64 ls) .none,.int .i64 s,.isl (.ints .i64 gv) .none],.int .i64 g]=>match decide (g=1)with
  |true=>VC (g=1∧c=9∧ls=L9∧s=15∧gv=G9)∧K (.tup [.isl (.recs 4 T9) .none,.agg [.isl (.rows .i64 S9) .none,.isl (.bools (aez 9 true)) .none],.int .i64 0])
  |false=>VC (g=5∧c=9∧ls=L9∧s=15∧gv=G9b)∧K (.tup [.any,.agg [.isl (.rows .i64 []) .none,.isl (.bools []) .none],.int .i64 21])
 |_=>False
theorem Qo:POK Tryz.prog 30 Bz:=by
 intro xs K hk;unfold Bz at hk;split at hk
 ·split at hk
  ·obtain⟨⟨rfl,rfl,rfl,rfl,rfl⟩,hk⟩:=hk;exact⟨_,hk,abx⟩
  ·obtain⟨⟨rfl,rfl,rfl,rfl,rfl⟩,hk⟩:=hk;exact⟨_,hk,abB⟩
 ·exact hk.elim
def BA:PSp:=fun xs K=>match xs with
 | [.agg [.int .i64 c,.isl (.rows .i64 ls) .none,.int .i64 s,.isl (.ints .i64 gv) .none]]=>VC (c=9∧ls=L9∧s=15∧gv=G9)∧K (.tup [.int .i64 1,.int .i64 0])
 |_=>False
theorem Qp:POK Tryz.prog 31 BA:=by
 intro xs K h;unfold BA at h;split at h
 ·exact⟨_,h.2,(by obtain⟨rfl,rfl,rfl,rfl⟩:=h.1.get;exact aby)⟩
 ·exact h.elim
def BD:PSp:=fun xs K=>match xs with
 | [.agg [.int .i64 c,.isl (.rows .i64 ls) .none,.int .i64 s,.isl (.ints .i64 gv) .none]]=>VC (c=9∧ls=L9∧s=15∧gv=G9)∧K (.tup [.isl (.ints .i64 [6,0,0,0,0]) .none,.int .i64 0])
 |_=>False
theorem Qq:POK Tryz.prog 32 BD:=by
 intro xs K h;unfold BD at h;split at h
 ·exact⟨_,h.2,(by obtain⟨rfl,rfl,rfl,rfl⟩:=h.1.get;exact abz)⟩
 ·exact h.elim
def GA:PSp:=fun xs K=>match xs with
 | [.agg [.int .i64 c,.isl (.rows .i64 ls) .none],.isl (.ints .i64 nv) .none,.isl (.ints .i64 ov) .none,.int .i64 g]=>VC (c=9∧ls=L9∧nv=N9∧ov=O9∧g=1)∧K (.tup [pzV 9 L9 15 [2,7,0,9,0,0,0,0,0],.int .i64 0])
 |_=>False
theorem Tq:POK Tryz.prog 53 GA:=by
 intro xs K h;unfold GA at h;split at h
 ·exact⟨_,h.2,(by obtain⟨rfl,rfl,rfl,rfl,rfl⟩:=h.1.get;exact ach)⟩
 ·exact h.elim
def GD:PSp:=fun xs K=>match xs with
 | [.agg [.int .i64 c,.isl (.rows .i64 ls) .none,.int .i64 s,.isl (.ints .i64 gv) .none],.int .i64 lim]=>VC ((c=9∧ls=L9∧s=15∧gv=G9)∧lim=5)∧K (.tup [.isl (.rows .i64 [N9]) .none,.int .i64 0])
 |_=>False
theorem Tt:POK Tryz.prog 39 GD:=by
 intro xs K h;unfold GD at h;split at h
 ·exact⟨_,h.2,(by obtain⟨⟨rfl,rfl,rfl,rfl⟩,rfl⟩:=h.1.get;exact aci)⟩
 ·exact h.elim
def BF:PSp:=fun xs K=>match xs with
 | [.agg [.int .i64 c,.isl (.rows .i64 ls) .none,.int .i64 s,.isl (.ints .i64 gv) .none]]=>VC (c=9∧ls=L9∧s=15∧gv=G9)∧K (.tup [.str j6,.int .i64 0])
 |_=>False
theorem Qr:POK Tryz.prog 42 BF:=by
 intro xs K h;unfold BF at h;split at h
 ·exact⟨_,h.2,(by obtain⟨rfl,rfl,rfl,rfl⟩:=h.1.get;exact abA)⟩
 ·exact h.elim
def GH:PSp:=fun xs K=>match xs with
 | [.str s]=>VC (s=j6)∧K (.tup [pzV 9 L9 15 G9,.int .i64 0,.int .i64 0])
 |_=>False
theorem Tv:POK Tryz.prog 44 GH:=by
 intro xs K h;unfold GH at h;split at h
 ·exact⟨_,h.2,(by obtain rfl:=h.1.get;exact acj)⟩
 ·exact h.elim
noncomputable def acn:CPT:=aA 20 (ku Nn) (aA 21 (ku Gy) (aA 30 (ku Bz) (aA 31 (ku BA) (aA 32 (ku BD) (aA 36 (aB nu) (aA 39 (ku GD) (aA 42 (ku BF) (aA 44 (aB GH) (aA 53 (aB GA) (aA 63 (ku Gz) (aA 84 (aB Bw) (aA 85 (aB Tk) noC))))))))))))
theorem Tw:aW Tryz.prog acn:=aj (iO YN) (aj (iO Tn) (aj (iO Qo) (aj (iO Qp) (aj (iO Qq) (aj (au qg) (aj (iO Tt) (aj (iO Qr) (aj (au Tv) (aj (au Tq) (aj (iO Tp) (aj (au Qn) (aj (au abw) aD))))))))))))
theorem Np:aF Tryz.prog 17 [] (.bp true):=by
 refine eD (md:=1) (rf:=[28]) mixed ak Tw Tryz.func17 (by rfl) (by rfl) (by rfl) ?_
 repeat'((conv=>whnf);first|(intro hq;(try simp only[vw]at hq);try first|exact absurd hq (by decide)|exfalso;omega)|apply aI|with_reducible exact vM rfl|exact⟨⟩|apply nM|apply fM)
 all_goals((try apply vM);(try simp only[vq]at*);try omega)
 all_goals(try rfl)
 all_goals(try decide+kernel)
 all_goals(try(exfalso;exact absurd hq (by decide+kernel)))
 have hb:∀b,b=true→Sup (bF ([PV.bp b]++[])) (PV.bp true):=fun b e=>by subst e;exact Sup.of rfl
 exact hb _ (by decide+kernel)
def Qs:PSp:=fun xs K=>match xs with
 | []=>VC (True)∧K (.bp true)
 |_=>False
theorem adE:POK Tryz.prog 17 Qs:=by
 intro xs K h;unfold Qs at h;split at h
 ·exact⟨_,h.2,Np⟩
 ·exact h.elim
end Go.Eng.YtcechbdgokjmgaaGreatDoor
namespace Go.Eng.YtcechbdgokjmgaaGreatDoor
open Go.Proofs
set_option linter.unusedSimpArgs false
set_option linter.unusedVariables false
set_option maxHeartbeats 0
set_option maxRecDepth 100000
theorem Tx (c:Int) (ls:List (List Int)) (sum:Int) (gv:List Int):aF Tryz.prog 19 [pzV c ls sum gv] (pzV c ls sum gv):=by
 refine av (md:=1) (rf:=[]) mixed ak aD Tryz.func19 (by rfl) (by rfl) (by rfl) ?_
 repeat'((conv=>whnf);first|intro _|apply aI|with_reducible exact vM rfl|exact⟨⟩|apply nM|apply fM)
 all_goals((try apply vM);(try simp only[vq]at*);try omega)
 all_goals exact Sup.of rfl
def Tz:PSp:=fun xs K=>match xs with
 | [.agg [.int .i64 c,.isl (.rows .i64 ls) .none,.int .i64 sum,.isl (.ints .i64 gv) .none]]=>VC (True)∧K (.agg [.int .i64 c,.isl (.rows .i64 ls) .none,.int .i64 sum,.isl (.ints .i64 gv) .none])
 |_=>False
theorem abC:POK Tryz.prog 19 Tz:=by
 intro xs K h;unfold Tz at h;split at h
 ·exact⟨_,h.2,Tx _ _ _ _⟩
 ·exact h.elim
theorem TA (s:St):aF Tryz.prog 24 [stV s] (stV s):=by
 refine av (md:=1) (rf:=[]) mixed ak aD Tryz.func24 (by rfl) (by rfl) (by rfl) ?_
 repeat'((conv=>whnf);first|intro _|apply aI|with_reducible exact vM rfl|exact⟨⟩|apply nM|apply fM)
 all_goals((try apply vM);(try simp only[vq]at*);try omega)
 all_goals exact Sup.of rfl
def abD:PSp:=fun xs K=>match xs with
 | [.agg [.isl (.rows .i64 CS) .none,.isl (.bools DS) .none]]=>VC (True)∧K (.agg [.isl (.rows .i64 CS) .none,.isl (.bools DS) .none])
 |_=>False
theorem adT:POK Tryz.prog 24 abD:=by
 intro xs K h;unfold abD at h;split at h
 ·exact⟨_,h.2,TA ⟨_,_⟩⟩
 ·exact h.elim
def shB (ls:List (List Int)) (k n:Nat):Bool:=decide (ls.length≤n)&&ls.all fun l=>decide (l.length≤k)
theorem Qt {ls:List (List Int)} {k n:Nat} (h:shB ls k n=true):ls.length≤n∧∀l∈ls,l.length≤k:=by
 unfold shB at h;rw[aeA,decide_eq_true_eq,afI]at h;exact⟨h.1,fun l hl=>of_decide_eq_true (h.2 l hl)⟩
theorem Nq (c:Int) (ls:List (List Int)) (k n:Nat) (hn:n≤1000000):aF Tryz.prog 50 [.agg [.int .i64 c,.isl (.rows .i64 ls) .none],.int .i64 (k:Int),.int .i64 (n:Int)] (.bp (shB ls k n)):=by
 by_cases h1:ls.length≤n
 case neg=>
  rw[show shB ls k n=false by unfold shB;rw[decide_eq_false h1];rfl]
  refine av (md:=1) (rf:=[]) mixed ak aD Tryz.func50 (by rfl) (by rfl) (by rfl) ?_
  repeat'((conv=>whnf);first|(intro hq;(try simp only[vw]at hq);try first|exact absurd hq (by decide)|exfalso;omega)|apply aI|with_reducible exact vM rfl|exact⟨⟩|apply nM|apply fM)
  all_goals((try apply vM);(try simp only[vq]at*);try omega)
  all_goals first|omega|exact dK false|skip
 refine av (md:=1) (rf:=[]) mixed ak aD Tryz.func50 (by rfl) (by rfl) (by rfl) ?_
 repeat'((conv=>whnf);first|(intro hq;(try simp only[vw]at hq);try first|exact absurd hq (by decide)|exfalso;omega)|apply aI|with_reducible exact vM rfl|exact⟨⟩|apply nM|apply fM)
 all_goals((try apply vM);(try simp only[vq]at*);try omega)
 all_goals(try omega)
 conv=>whnf
 refine aM (X:=Nat) (fun i=>i≤ls.length∧∀j,j<i→(ls.getD j []).length≤k) (fun i=>[(7,.int .i64 i)]) (fun i=>[]) (fun i=>ls.length-i) 0 ⟨aK,mixed,ak,aD,aQ⟩ (by rfl) ⟨by omega,fun j hj=>by omega⟩ ?_ ?_
 ·repeat'((conv=>whnf);first|intro _|apply aI|with_reducible exact vM rfl|exact⟨⟩|apply nM|apply fM)
  all_goals((try apply vM);(try simp only[vq]at*);try omega)
 intro i ⟨hi,hok⟩;by_cases hlt:i<ls.length
 ·repeat'((conv=>whnf);first|(intro hq;(try simp only[vw]at hq);try first|exact absurd hq (by decide)|exfalso;omega)|apply aI|with_reducible exact vM rfl|exact⟨⟩|apply nM|apply fM)
  all_goals((try apply vM);(try simp only[vq]at*);try omega)
  all_goals(try omega)
  ·have:shB ls k n=false:=by
    unfold shB;rw[ahh.2 ⟨ls.getD i [],kR hlt,by rw[decide_eq_false (by omega)];simp⟩,Bool.and_false]
   rw[this];exact dK false
  ·refine⟨i+1,[],⟨⟨by omega,fun j hj=>?_⟩,by omega⟩,?_⟩
   ·by_cases e:j=i
    ·subst e;omega
    ·exact hok j (by omega)
   repeat'((conv=>whnf);first|intro _|apply aI|with_reducible exact vM rfl|exact⟨⟩|apply nM|apply fM)
   all_goals((try apply vM);(try simp only[vq]at*);try omega)
 have e:i=ls.length:=by omega
 subst e;have:shB ls k n=true:=by
  unfold shB;rw[decide_eq_true h1,agO,afI];intro l hl;obtain⟨j,hj,rfl⟩:=aeu hl;have:=hok j hj;rw[aeo,aev hj]at this;exact decide_eq_true this
 rw[this]
 repeat'((conv=>whnf);first|(intro hq;(try simp only[vw]at hq);try first|exact absurd hq (by decide)|exfalso;omega)|apply aI|with_reducible exact vM rfl|exact⟨⟩|apply nM|apply fM)
 all_goals((try apply vM);(try simp only[vq]at*);try omega)
 all_goals first|omega|exact dK true
def zP:PSp:=fun xs K=>match xs with
 | [.agg [.int .i64 c,.isl (.rows .i64 ls) .none],.int .i64 k,.int .i64 n]=>VC (0≤k∧0≤n∧n≤1000000)∧K (.bp (shB ls k.toNat n.toNat))
 |_=>False
theorem GI:POK Tryz.prog 50 zP:=by
 intro xs K hk;unfold zP at hk;split at hk
 ·rename_i c ls k n
  obtain⟨⟨h1,h2,h3⟩,hk⟩:=hk;obtain⟨k',rfl⟩:∃k':Nat,k=k':=⟨k.toNat,by omega⟩
  obtain⟨n',rfl⟩:∃n':Nat,n=n':=⟨n.toNat,by omega⟩
  exact⟨_,hk,Nq _ _ _ _ (by omega)⟩
 ·exact hk.elim
noncomputable def adF:CPT:=aA 50 (aB zP) noC
theorem JX:aW Tryz.prog adF:=aj (au GI) aD
def vF (ls:List (List Int)) (gv:List Int):Bool:=shB ls 20 130&&decide ((gv.length:Int)≤260)
theorem Iy (c:Int) (ls:List (List Int)) (sum:Int) (gv:List Int):aF Tryz.prog 41 [pzV c ls sum gv] (.bp (vF ls gv)):=by
 unfold vF;cases h:shB ls 20 130 with
 |true=>
  refine av (md:=1) (rf:=[]) mixed ak JX Tryz.func41 (by rfl) (by rfl) (by rfl) ?_
  repeat'((conv=>whnf);first|(intro hq;(try simp only[vw]at hq);try first|exact absurd hq (by decide)|exfalso;omega)|apply aI|with_reducible exact vM rfl|exact⟨⟩|apply nM|apply fM)
  all_goals((try apply vM);(try simp only[vq]at*);try omega)
  ·rw[agO];exact Sup.of rfl
  ·exact absurd (h.symm.trans hq) (by decide)
 |false=>
  refine av (md:=1) (rf:=[]) mixed ak JX Tryz.func41 (by rfl) (by rfl) (by rfl) ?_
  repeat'((conv=>whnf);first|(intro hq;(try simp only[vw]at hq);try first|exact absurd hq (by decide)|exfalso;omega)|apply aI|with_reducible exact vM rfl|exact⟨⟩|apply nM|apply fM)
  all_goals((try apply vM);(try simp only[vq]at*);try omega)
  ·exact absurd (hq.symm.trans h) (by decide)
  ·exact dK false
def BG:PSp:=fun xs K=>match xs with
 | [.agg [.int .i64 c,.isl (.rows .i64 ls) .none,.int .i64 sum,.isl (.ints .i64 gv) .none]]=>VC (True)∧K (.bp (vF ls gv))
 |_=>False
theorem Qu:POK Tryz.prog 41 BG:=by
 intro xs K h;unfold BG at h;split at h
 ·exact⟨_,h.2,Iy _ _ _ _⟩
 ·exact h.elim
theorem YO {ls:List (List Int)} {gv:List Int} (h:vF ls gv=true):bH ls∧gv.length≤260:=by
 unfold vF at h;rw[aeA,decide_eq_true_eq]at h;obtain⟨h1,h2⟩:=Qt h.1;exact⟨⟨by omega,fun l hl=>by have:=h2 l hl;omega⟩,by omega⟩
def vG (c:Int) (ls:List (List Int)) (k n:Nat):Bool:=shB ls k n&&(decide (iX c ls=0)&&decide (c≤k))
noncomputable def adG:CPT:=aA 50 (aB zP) (aA 120 (aB DC) noC)
theorem BH:aW Tryz.prog adG:=aj (au GI) (aj (au Jq) aD)
theorem JY {ls:List (List Int)} {k n:Nat} (h:shB ls k n=true) (hk:k≤5000) (hn:n≤1000000):bH ls:=by
 obtain⟨h1,h2⟩:=Qt h;exact⟨by omega,fun l hl=>by have:=h2 l hl;omega⟩
theorem TD (c:Int) (ls:List (List Int)) (k n:Nat) (hk:k≤5000) (hn:n≤1000000):aF Tryz.prog 52 [.agg [.int .i64 c,.isl (.rows .i64 ls) .none],.int .i64 (k:Int),.int .i64 (n:Int)] (.bp (vG c ls k n)):=by
 unfold vG;cases h:shB ls k n with
 |false=>
  rw[agn];refine av (md:=1) (rf:=[]) mixed ak BH Tryz.func52 (by rfl) (by rfl) (by rfl) ?_
  repeat'((conv=>whnf);first|(intro hq;(try simp only[vw]at hq);try first|exact absurd hq (by decide)|exfalso;omega)|apply aI|with_reducible exact vM rfl|exact⟨⟩|apply nM|apply fM)
  all_goals((try apply vM);(try simp only[vq]at*);try omega)
  all_goals first|omega|exact dK false|exact absurd (hq.symm.trans h) (by decide)|(exfalso;exact absurd (h.symm.trans (‹shB ls _ _=true›)) (by decide))|skip
 |true=>
  have hL:=JY h hk hn;rw[agO];by_cases h1:iX c ls=0
  ·rw[decide_eq_true h1,agO]
   refine av (md:=1) (rf:=[]) mixed ak BH Tryz.func52 (by rfl) (by rfl) (by rfl) ?_
   repeat'((conv=>whnf);first|(intro hq;(try simp only[vw]at hq);try first|exact absurd hq (by decide)|exfalso;omega)|apply aI|with_reducible exact vM rfl|exact⟨⟩|apply nM|apply fM)
   all_goals((try apply vM);(try simp only[vq]at*);try omega)
   all_goals first|omega|exact hL|exact Sup.of rfl|exact absurd (h.symm.trans hq) (by decide)|(exfalso;exact hq h1)|skip
  ·rw[decide_eq_false h1,agn]
   refine av (md:=1) (rf:=[]) mixed ak BH Tryz.func52 (by rfl) (by rfl) (by rfl) ?_
   repeat'((conv=>whnf);first|(intro hq;(try simp only[vw]at hq);try first|exact absurd hq (by decide)|exfalso;omega)|apply aI|with_reducible exact vM rfl|exact⟨⟩|apply nM|apply fM)
   all_goals((try apply vM);(try simp only[vq]at*);try omega)
   all_goals first|omega|exact hL|exact dK false|exact absurd (h.symm.trans hq) (by decide)|(exfalso;exact h1 hq)|skip
def TG:PSp:=fun xs K=>match xs with
 | [.agg [.int .i64 c,.isl (.rows .i64 ls) .none],.int .i64 k,.int .i64 n]=>VC ((0≤k∧k≤5000)∧0≤n∧n≤1000000)∧K (.bp (vG c ls k.toNat n.toNat))
 |_=>False
theorem abE:POK Tryz.prog 52 TG:=by
 intro xs K hk;unfold TG at hk;split at hk
 ·rename_i c ls k n
  obtain⟨⟨h1,h2,h3⟩,hk⟩:=hk;obtain⟨k',rfl⟩:∃k':Nat,k=k':=⟨k.toNat,by omega⟩
  obtain⟨n',rfl⟩:∃n':Nat,n=n':=⟨n.toNat,by omega⟩
  exact⟨_,hk,TD _ _ _ _ (by omega) (by omega)⟩
 ·exact hk.elim
def Nr (c:Int) (ls:List (List Int)) (sum:Int) (gv:List Int) (k n:Nat):Bool:=vG c ls k n&&(decide ((gv.length:Int)≤k)&&decide (pzE c ls sum gv=0))
noncomputable def adH:CPT:=aA 18 (aB ME) (aA 52 (aB TG) noC)
theorem BI:aW Tryz.prog adH:=aj (au Px) (aj (au abE) aD)
theorem TH {c:Int} {ls:List (List Int)} {k n:Nat} (h:vG c ls k n=true) (hk:k≤5000) (hn:n≤1000000):bH ls:=by
 unfold vG at h;rw[aeA]at h;exact JY h.1 hk hn
theorem Qv (c:Int) (ls:List (List Int)) (sum:Int) (gv:List Int) (k n:Nat) (hk:k≤5000) (hn:n≤1000000):aF Tryz.prog 29 [pzV c ls sum gv,.int .i64 (k:Int),.int .i64 (n:Int)] (.bp (Nr c ls sum gv k n)):=by
 unfold Nr;cases h:vG c ls k n with
 |false=>
  rw[agn];refine av (md:=1) (rf:=[]) mixed ak BI Tryz.func29 (by rfl) (by rfl) (by rfl) ?_
  repeat'((conv=>whnf);first|(intro hq;(try simp only[vw]at hq);try first|exact absurd hq (by decide)|exfalso;omega)|apply aI|with_reducible exact vM rfl|exact⟨⟩|apply nM|apply fM)
  all_goals((try apply vM);(try simp only[vq]at*);try omega)
  all_goals first|omega|exact dK false|exact absurd (hq.symm.trans h) (by decide)|(exfalso;exact absurd (h.symm.trans (‹vG c ls _ _=true›)) (by decide))|skip
 |true=>
  have hL:=TH h hk hn;rw[agO];by_cases h1:(gv.length:Int)≤k
  ·rw[decide_eq_true h1,agO]
   refine av (md:=1) (rf:=[]) mixed ak BI Tryz.func29 (by rfl) (by rfl) (by rfl) ?_
   repeat'((conv=>whnf);first|(intro hq;(try simp only[vw]at hq);try first|exact absurd hq (by decide)|exfalso;omega)|apply aI|with_reducible exact vM rfl|exact⟨⟩|apply nM|apply fM)
   all_goals((try apply vM);(try simp only[vq]at*);try omega)
   all_goals first|omega|exact⟨hL,by omega⟩|exact Sup.of rfl|exact absurd (h.symm.trans hq) (by decide)|(exfalso;exact hq h1)|skip
  ·rw[decide_eq_false h1,agn]
   refine av (md:=1) (rf:=[]) mixed ak BI Tryz.func29 (by rfl) (by rfl) (by rfl) ?_
   repeat'((conv=>whnf);first|(intro hq;(try simp only[vw]at hq);try first|exact absurd hq (by decide)|exfalso;omega)|apply aI|with_reducible exact vM rfl|exact⟨⟩|apply nM|apply fM)
   all_goals((try apply vM);(try simp only[vq]at*);try omega)
   all_goals first|omega|exact⟨hL,by omega⟩|exact dK false|exact absurd (h.symm.trans hq) (by decide)|(exfalso;exact h1 hq)|skip
def Ns:PSp:=fun xs K=>match xs with
 | [.agg [.int .i64 c,.isl (.rows .i64 ls) .none,.int .i64 sum,.isl (.ints .i64 gv) .none],.int .i64 k,.int .i64 n]=>VC ((0≤k∧k≤5000)∧0≤n∧n≤1000000)∧K (.bp (Nr c ls sum gv k.toNat n.toNat))
 |_=>False
theorem YQ:POK Tryz.prog 29 Ns:=by
 intro xs K hk;unfold Ns at hk;split at hk
 ·rename_i c ls sum gv k n
  obtain⟨⟨h1,h2,h3⟩,hk⟩:=hk;obtain⟨k',rfl⟩:∃k':Nat,k=k':=⟨k.toNat,by omega⟩
  obtain⟨n',rfl⟩:∃n':Nat,n=n':=⟨n.toNat,by omega⟩
  exact⟨_,hk,Qv _ _ _ _ _ _ (by omega) (by omega)⟩
 ·exact hk.elim
noncomputable def adI:CPT:=aA 18 (aB ME) (aA 19 (aB Tz) (aA 29 (aB Ns) (aA 41 (aB BG) noC)))
theorem BJ:aW Tryz.prog adI:=aj (au Px) (aj (au abC) (aj (au YQ) (aj (au Qu) aD)))
def TI (c:Int) (ls:List (List Int)) (sum:Int) (gv:List Int):Bool:=!vF ls gv||(decide (pzE c ls sum gv=0)&&!Nr c ls sum gv 12 12)
theorem Nt (c:Int) (ls:List (List Int)) (sum:Int) (gv:List Int):aF Tryz.prog 16 [pzV c ls sum gv] (.bp (TI c ls sum gv)):=by
 unfold TI;cases h:vF ls gv with
 |false=>
  rw[Bool.not_false,agF];refine av (md:=1) (rf:=[]) mixed ak BJ Tryz.func16 (by rfl) (by rfl) (by rfl) ?_
  repeat'((conv=>whnf);first|(intro hq;(try simp only[vw]at hq);try first|exact absurd hq (by decide)|exfalso;omega)|apply aI|with_reducible exact vM rfl|exact⟨⟩|apply nM|apply fM)
  all_goals((try apply vM);(try simp only[vq]at*);try omega)
  all_goals first|omega|exact dK true|exact absurd (hq.symm.trans h) (by decide)|(exfalso;exact absurd ((‹vF ls gv=true›).symm.trans h) (by decide))|skip
 |true=>
  obtain⟨hL,hg⟩:=YO h;rw[Bool.not_true,agE];by_cases h1:pzE c ls sum gv=0
  ·rw[decide_eq_true h1,agO]
   refine av (md:=1) (rf:=[]) mixed ak BJ Tryz.func16 (by rfl) (by rfl) (by rfl) ?_
   repeat'((conv=>whnf);first|(intro hq;(try simp only[vw]at hq);try first|exact absurd hq (by decide)|exfalso;omega)|apply aI|with_reducible exact vM rfl|exact⟨⟩|apply nM|apply fM)
   all_goals((try apply vM);(try simp only[vq]at*);try omega)
   all_goals first|omega|exact⟨hL,by omega⟩|exact Sup.of rfl|exact absurd (h.symm.trans hq) (by decide)|(exfalso;exact hq h1)|skip
  ·rw[decide_eq_false h1,agn]
   refine av (md:=1) (rf:=[]) mixed ak BJ Tryz.func16 (by rfl) (by rfl) (by rfl) ?_
   repeat'((conv=>whnf);first|(intro hq;(try simp only[vw]at hq);try first|exact absurd hq (by decide)|exfalso;omega)|apply aI|with_reducible exact vM rfl|exact⟨⟩|apply nM|apply fM)
   all_goals((try apply vM);(try simp only[vq]at*);try omega)
   all_goals first|omega|exact⟨hL,by omega⟩|exact dK false|exact absurd (h.symm.trans hq) (by decide)|(exfalso;exact h1 hq)|skip
def Qw:PSp:=fun xs K=>match xs with
 | [.agg [.int .i64 c,.isl (.rows .i64 ls) .none,.int .i64 sum,.isl (.ints .i64 gv) .none]]=>VC (True)∧K (.bp (TI c ls sum gv))
 |_=>False
theorem adJ:POK Tryz.prog 16 Qw:=by
 intro xs K h;unfold Qw at h;split at h
 ·exact⟨_,h.2,Nt _ _ _ _⟩
 ·exact h.elim
noncomputable def adK:CPT:=aA 36 (aB nu) noC
theorem qI:aW Tryz.prog adK:=aj (au qg) aD
theorem TJ {a b:List (List Int)} (hl:a.length=b.length) (h:∀j,j<a.length→a.getD j []=b.getD j []):a=b:=by
 refine agW hl fun j h1 h2=>?_;have:=h j h1
 rwa [aeo,aev h1,aeo,aev h2]at this
theorem Qx {a b:List Bool} (hl:a.length=b.length) (h:∀j,j<a.length→a.getD j false=b.getD j false):a=b:=by
 refine agW hl fun j h1 h2=>?_;have:=h j h1
 rwa [aeo,aev h1,aeo,aev h2]at this
def smB (a b:St):Bool:=decide (a.cs=b.cs∧a.ds=b.ds)
theorem Ck (a b:St) (ha:a.cs.length≤1000000∧a.ds.length≤1000000∧∀i,(a.cs.getD i []).length≤2000000):aF Tryz.prog 23 [stV a,stV b] (.bp (smB a b)):=by
 have fF:¬(a.cs=b.cs∧a.ds=b.ds)→Sup (bF [PV.bool false]) (PV.bp (smB a b)):=fun h=>by rw[show smB a b=false from decide_eq_false h];exact dK false
 by_cases h1:a.cs.length=b.cs.length
 case neg=>
  refine av (md:=1) (rf:=[]) mixed ak qI Tryz.func23 (by rfl) (by rfl) (by rfl) ?_
  repeat'((conv=>whnf);first|(intro hq;(try simp only[vw]at hq);try first|exact absurd hq (by decide)|exfalso;omega)|apply aI|with_reducible exact vM rfl|exact⟨⟩|apply nM|apply fM)
  all_goals((try apply vM);(try simp only[vq]at*);try omega)
  all_goals first|omega|exact fF (fun e=>h1 (by rw[e.1]))|skip
 by_cases h2:a.ds.length=b.ds.length
 case neg=>
  refine av (md:=1) (rf:=[]) mixed ak qI Tryz.func23 (by rfl) (by rfl) (by rfl) ?_
  repeat'((conv=>whnf);first|(intro hq;(try simp only[vw]at hq);try first|exact absurd hq (by decide)|exfalso;omega)|apply aI|with_reducible exact vM rfl|exact⟨⟩|apply nM|apply fM)
  all_goals((try apply vM);(try simp only[vq]at*);try omega)
  all_goals first|omega|exact fF (fun e=>h2 (by rw[e.2]))|skip
 refine av (md:=1) (rf:=[]) mixed ak qI Tryz.func23 (by rfl) (by rfl) (by rfl) ?_
 repeat'((conv=>whnf);first|(intro hq;(try simp only[vw]at hq);try first|exact absurd hq (by decide)|exfalso;omega)|apply aI|with_reducible exact vM rfl|exact⟨⟩|apply nM|apply fM)
 all_goals((try apply vM);(try simp only[vq]at*);try omega)
 all_goals(try omega)
 conv=>whnf
 refine aM (X:=Nat) (fun i=>i≤a.cs.length∧∀j,j<i→a.cs.getD j []=b.cs.getD j []) (fun i=>[(5,.int .i64 i)]) (fun i=>[]) (fun i=>a.cs.length-i) 0 ⟨aK,mixed,ak,qI,aQ⟩ (by rfl) ⟨by omega,fun j hj=>by omega⟩ ?_ ?_
 ·repeat'((conv=>whnf);first|intro _|apply aI|with_reducible exact vM rfl|exact⟨⟩|apply nM|apply fM)
  all_goals((try apply vM);(try simp only[vq]at*);try omega)
 intro i ⟨hi,hok⟩;by_cases hlt:i<a.cs.length
 ·have h3:=ha.2.2 i
  repeat'((conv=>whnf);first|(intro hq;(try simp only[vw]at hq);try first|exact absurd hq (by decide)|exfalso;omega)|apply aI|with_reducible exact vM rfl|exact⟨⟩|apply nM|apply fM)
  all_goals((try apply vM);(try simp only[vq]at*);try omega)
  all_goals(try omega)
  ·exact fF fun e=>hq (by rw[e.1])
  ·refine⟨i+1,[],⟨⟨by omega,fun j hj=>?_⟩,by omega⟩,?_⟩
   ·by_cases e:j=i
    ·subst e;assumption
    ·exact hok j (by omega)
   repeat'((conv=>whnf);first|intro _|apply aI|with_reducible exact vM rfl|exact⟨⟩|apply nM|apply fM)
   all_goals((try apply vM);(try simp only[vq]at*);try omega)
 have e:i=a.cs.length:=by omega
 subst e;have hcs:=TJ h1 hok
 repeat'((conv=>whnf);first|(intro hq;(try simp only[vw]at hq);try first|exact absurd hq (by decide)|exfalso;omega)|apply aI|with_reducible exact vM rfl|exact⟨⟩|apply nM|apply fM)
 all_goals((try apply vM);(try simp only[vq]at*);try omega)
 all_goals(try omega)
 conv=>whnf
 refine aM (X:=Nat) (fun i=>i≤a.ds.length∧∀j,j<i→a.ds.getD j false=b.ds.getD j false) (fun i=>[(6,.int .i64 i)]) (fun i=>[]) (fun i=>a.ds.length-i) 0 ⟨aK,mixed,ak,qI,aQ⟩ (by rfl) ⟨by omega,fun j hj=>by omega⟩ ?_ ?_
 ·repeat'((conv=>whnf);first|intro _|apply aI|with_reducible exact vM rfl|exact⟨⟩|apply nM|apply fM)
  all_goals((try apply vM);(try simp only[vq]at*);try omega)
 intro i ⟨hi,hok⟩;by_cases hlt:i<a.ds.length
 ·repeat'((conv=>whnf);first|(intro hq;(try simp only[vw]at hq);try first|exact absurd hq (by decide)|exfalso;omega)|apply aI|with_reducible exact vM rfl|exact⟨⟩|apply nM|apply fM)
  all_goals((try apply vM);(try simp only[vq]at*);try omega)
  all_goals(try omega)
  ·exact fF fun e=>by rw[e.2]at hq;simp at hq
  ·refine⟨i+1,[],⟨⟨by omega,fun j hj=>?_⟩,by omega⟩,?_⟩
   ·by_cases e:j=i
    ·subst e;exact beq_iff_eq.1 hq
    ·exact hok j (by omega)
   repeat'((conv=>whnf);first|intro _|apply aI|with_reducible exact vM rfl|exact⟨⟩|apply nM|apply fM)
   all_goals((try apply vM);(try simp only[vq]at*);try omega)
 have e:i=a.ds.length:=by omega
 subst e;have hds:=Qx h2 hok;rw[show smB a b=true from decide_eq_true ⟨hcs,hds⟩]
 repeat'((conv=>whnf);first|(intro hq;(try simp only[vw]at hq);try first|exact absurd hq (by decide)|exfalso;omega)|apply aI|with_reducible exact vM rfl|exact⟨⟩|apply nM|apply fM)
 all_goals((try apply vM);(try simp only[vq]at*);try omega)
 all_goals first|omega|exact dK true
end Go.Eng.YtcechbdgokjmgaaGreatDoor
namespace Go.Eng.YtcechbdgokjmgaaGreatDoor
open Go.Proofs Go.RowKit
set_option linter.unusedSimpArgs false
set_option linter.unusedVariables false
set_option maxHeartbeats 0
set_option maxRecDepth 100000
def aco (p:PSp) (u:PV):PSp:=fun xs K=>p xs (fun v=>VC (Sup v u))∧K u
theorem adQ {g:FuncId} {p:PSp} (h:POK Tryz.prog g p) (u:PV):POK Tryz.prog g (aco p u):=by
 intro xs K hk;obtain⟨v,hv,hp⟩:=h _ _ hk.1;exact⟨u,hk.2,tZ hp hv.get⟩
theorem adU {a b:Bool} (h:a=b):Sup (.bp a) (.bool b):=⟨fun hr=>by cases hr;subst h;exact .bool _ _⟩
theorem adV {a b:Int} (h:a=b):Sup (.int .i64 a) (.int .i64 b):=Sup.of (by rw[h])
theorem Nu {g:FuncId} {xs ys:List PV} {v:PV} (h:aF Tryz.prog g xs v) (hl:ys.length=xs.length) (hs:∀i,i<ys.length→Sup (aC ys i) (aC xs i)):aF Tryz.prog g ys v:=
 ⟨h.1,fun S w vs hB hI hA=>h.2 S w vs hB hI ⟨hl.symm.trans hA.1,fun i hi=>(hs i (by omega)).get (hA.2 i (by omega))⟩⟩
theorem JZ {S:Imm} {w:World} {ι:Ix} {c:CL} {v:Value} (h:Rep S w ι (.isl (.ints .i64 []) .none) v) (hc:c.cnt=0):Rep S w ι (.isl c .none) v:=by
 cases h with
 |islnil _ _ _ h=>exact .islnil _ _ _ hc
 |isl _ _ _ b off cap h1 hs h hf ho=>exact iJ _ hc (.inr ⟨b,off,rfl⟩) _
def abF:PSp:=fun xs K=>match xs with
 | [.agg [.isl (.rows .i64 A) .none,.isl (.bools B) .none],.agg [.isl (.rows .i64 C) .none,.isl (.bools D) .none]]=>VC (A.length≤1000000∧B.length≤1000000∧∀i,(A.getD i []).length≤2000000)∧K (.bp (smB ⟨A,B⟩ ⟨C,D⟩))
 | [.agg [.isl (.rows .i64 A) .none,.isl (.bools B) .none],.agg [.isl (.ints .i64 []) .none,.isl (.ints .i64 []) .none]]=>VC (A=[]∧B=[])∧K (.bp true)
 |_=>False
theorem adW:POK Tryz.prog 23 abF:=by
 intro xs K hk;unfold abF at hk;split at hk
 ·exact⟨_,hk.2,Ck ⟨_,_⟩ ⟨_,_⟩ hk.1.get⟩
 ·obtain⟨⟨rfl,rfl⟩,hk⟩:=hk
  refine⟨_,hk,Nu (Ck ⟨[],[]⟩ ⟨[],[]⟩ ⟨by decide,by decide,fun i=>by simp⟩) rfl fun i hi=>?_⟩
  match i,hi with
  |0,_=>exact mg _
  |1,_=>exact⟨fun hr=>by
   cases hr with
   |agg _ _ vs hl hh=>
    refine .agg _ _ _ hl fun i hi=>?_
    match i,hi with
    |0,_=>have:=hh 0 (by decide);simp only[aC]at this⊢;generalize vs.getD 0 undef=u at this;exact JZ this rfl
    |1,_=>have:=hh 1 (by decide);simp only[aC]at this⊢;generalize vs.getD 1 undef=u at this;exact JZ this rfl⟩
 ·exact hk.elim
end Go.Eng.YtcechbdgokjmgaaGreatDoor
