/- Contracts of functions that the law calls, and what the law says of them. Conditions stand in them. -/
import Derived.Test.YtcechbdgokjmgaaGreatDoorBg
open Bool renaming true_and→agO,false_and→agn,not_false→aeV,not_true→aeW,and_false→agR,and_eq_true→aeA,not_eq_true'→ag8
open Classical renaming not_not→ae2
open Int renaming tdiv_eq_zero_of_lt→ajH,toNat_zero→ahk,toNat→agt
open List renaming length_cons→ad4,eq_nil_of_length_eq_zero→ajF,nil_append→ajG,length_append→afu,length_nil→adY,length_filter_le→agM,length_take→ae0,append_nil→agN,take_length→af5,foldl_append→agq,any_eq_true→agC,mem_filter→agh,length_singleton→ajI,take→agH,drop→agI,mem_range→afY,filter_append→ag2,filter_cons→ag3,filter_nil→ag4,range→ael,map_append→af4,map_cons→aen,map_nil→ajJ,length_map→af0,getD_eq_getElem?_getD→aeo,getElem?_eq_getElem→aev,length_set→aeP,getElem_set_ne→ahb
open Nat renaming mod_lt→afa,le_trans→afW,eq_zero_or_pos→aee,le_refl→aea,mul_one→aeL,zero_le→aeY
open Option renaming bind_eq_some_iff→ajK
namespace Go.Eng.YtcechbdgokjmgaaGreatDoor
open Go.Proofs
set_option linter.unusedSimpArgs false
set_option linter.unusedVariables false
set_option maxHeartbeats 0
set_option maxRecDepth 100000
theorem aiH (l:List Int) (hl:l.length≤1000000) (h:l=[]∨l.getD (l.length-1) 0≠0):aF Tryz.prog 258 [.isl (.ints .i64 l) .none] (.isl (.ints .i64 l) .none):=by
 refine av (md:=1) (rf:=[]) mixed ak aD Tryz.func258 (by rfl) (by rfl) (by rfl) ?_
 repeat'((conv=>whnf);first|(intro hq;(try simp only[vw]at hq);try first|exact absurd hq (by decide)|exfalso;omega)|apply aI|with_reducible exact vM rfl|exact⟨⟩|apply nM|apply fM)
 all_goals((try apply vM);(try simp only[vq]at*);try omega)
 conv=>whnf
 refine aM (X:=Unit) (fun i=>True) (fun i=>[(0,.isl (.ints .i64 l) .none)]) (fun i=>[]) (fun i=>1) () ⟨aK,mixed,ak,aD,aQ⟩ (by rfl) trivial ?_ ?_
 ·repeat'((conv=>whnf);first|intro _|apply aI|with_reducible exact vM rfl|exact⟨⟩|apply nM|apply fM)
  all_goals((try apply vM);(try simp only[vq]at*);try omega)
 intro i _;have e:((l.length:Int)-1).toNat=l.length-1:=by omega
 repeat'((conv=>whnf);first|(intro hq;(try simp only[vw]at hq);try first|exact absurd hq (by decide)|exfalso;omega)|apply aI|with_reducible exact vM rfl|exact⟨⟩|apply nM|apply fM)
 all_goals((try apply vM);(try simp only[vq]at*);try omega)
 all_goals(try first|omega|exact Sup.of rfl)
 ·exfalso
  rename_i h0;rw[e]at hq;rcases h with h|h
  ·rw[h]at h0;simp at h0
  ·exact h hq
def aii:PSp:=fun xs K=>match xs with
 | [.isl (.ints .i64 l) .none]=>VC (l.length≤1000000∧(l=[]∨l.getD (l.length-1) 0≠0))∧K (.isl (.ints .i64 l) .none)
 |_=>False
theorem aja:POK Tryz.prog 258 aii:=by
 intro xs K h;unfold aii at h;split at h
 ·exact⟨_,h.2,aiH _ h.1.get.1 h.1.get.2⟩
 ·exact h.elim
noncomputable def ajx:CPT:=aA 258 (aB aii) noC
theorem ajb:aW Tryz.prog ajx:=aj (au aja) aD
theorem ah7 (b:Bool) (l:List Int) (hl:l.length≤1000000) (h:l=[]∨l.getD (l.length-1) 0≠0):aF Tryz.prog 240 [.bp b,.isl (.ints .i64 l) .none] (.agg [.bp (b&&decide (0<(l.length:Int))),.isl (.ints .i64 l) .none]):=by
 refine av (md:=1) (rf:=[]) mixed ak ajb Tryz.func240 (by rfl) (by rfl) (by rfl) ?_
 repeat'((conv=>whnf);first|(intro hq;(try simp only[vw]at hq);try first|exact absurd hq (by decide)|exfalso;omega)|apply aI|with_reducible exact vM rfl|exact⟨⟩|apply nM|apply fM)
 all_goals((try apply vM);(try simp only[vq]at*);try omega)
 all_goals(try exact⟨hl,h⟩)
 ·rw[hq,agO];exact Sup.of rfl
 ·rw[hq,agn]
  refine⟨fun hr=>?_⟩;cases hr with
  |agg _ _ vs hl hh=>
   refine .agg _ _ _ hl fun i hi=>?_
   match i,hi with
   |0,_=>have:=hh 0 (show 0<2 by decide);simp only[aC]at this⊢;generalize vs.getD 0 undef=u at this;cases this;exact .bp _ _
   |1,_=>exact hh 1 (show 1<2 by decide)
def ahC:PSp:=fun xs K=>match xs with
 | [.bp b,.isl (.ints .i64 l) .none]=>VC (l.length≤1000000∧(l=[]∨l.getD (l.length-1) 0≠0))∧K (.agg [.bp (b&&decide (0<(l.length:Int))),.isl (.ints .i64 l) .none])
 |_=>False
theorem aiI:POK Tryz.prog 240 ahC:=by
 intro xs K h;unfold ahC at h;split at h
 ·exact⟨_,h.2,ah7 _ _ h.1.get.1 h.1.get.2⟩
 ·exact h.elim
def dgB (u:Nat):ByteArray:=⟨(Go.Lib.decDigits u).toArray⟩
abbrev aiQ:ByteArray:=⟨#[48,49,50,51,52,53,54,55,56,57]⟩
theorem ajc:∀d:Nat,d<10→aiQ.extract d (d+1)=⟨#[UInt8.ofNat (48+d)]⟩:=by decide
theorem ahD (a:UInt8) (s:List UInt8):(⟨#[a]⟩:ByteArray)++⟨s.toArray⟩=⟨(a::s).toArray⟩:=by
 apply ByteArray.ext;simp
theorem ahR {u:Nat} (h:u<10):Go.Lib.decDigits u=[UInt8.ofNat (48+u)]:=by rw[Go.Lib.decDigits,dif_pos h]
theorem ajd {u:Nat} (h:¬u<10):Go.Lib.decDigits u=Go.Lib.decDigits (u / 10)++[UInt8.ofNat (48+u % 10)]:=by rw[Go.Lib.decDigits,dif_neg h]
theorem ahU (n:Int) (h:0≤n∧n≤999999999):aF Tryz.prog 239 [.int .i64 n,.int .i64 1] (.str (dgB n.toNat)):=by
 refine av (md:=1) (rf:=[]) mixed ak aD Tryz.func239 (by rfl) (by rfl) (by rfl) ?_
 repeat'((conv=>whnf);first|(intro hq;(try simp only[vw]at hq);try first|exact absurd hq (by decide)|exfalso;omega)|apply aI|with_reducible exact vM rfl|exact⟨⟩|apply nM|apply fM)
 all_goals((try apply vM);(try simp only[vq]at*);try omega)
 conv=>whnf
 refine aM (X:=Nat × List UInt8) (fun x=>x.1≤999999999∧x.2.length+x.1≤1000000000∧((x.1=n.toNat∧x.2=[])∨(x.2≠[]∧Go.Lib.decDigits n.toNat=(if x.1=0 then []else Go.Lib.decDigits x.1)++x.2))) (fun x=>[(0,.int .i64 (x.1:Int)),(5,.str ⟨x.2.toArray⟩)]) (fun x=>[]) (fun x=>if x.2=[]then 1000000001 else x.1) (n.toNat,[]) ⟨aK,mixed,ak,aD,aQ⟩ (by rfl) ⟨by omega,by simp;omega,.inl ⟨rfl,rfl⟩⟩ ?_ ?_
 ·repeat'((conv=>whnf);first|intro _|apply aI|with_reducible exact vM rfl|exact⟨⟩|apply nM|apply fM)
  all_goals((try apply vM);(try simp only[vq]at*);try omega)
  all_goals first|omega|skip
 rintro⟨u,s⟩ ⟨hu,hl,hs⟩
 simp only at hu hl hs⊢;have ht:(u:Int).tmod 10=((u % 10:Nat):Int):=(Int.ofNat_tmod u 10).symm;have hd:(u:Int).tdiv 10=((u / 10:Nat):Int):=(Int.ofNat_tdiv u 10).symm;have hm:=afa u (show 0<10 by decide)
 have hdg:=ajc (u % 10) hm;have hsz:(⟨s.toArray⟩:ByteArray).size=s.length:=rfl;have hx:aiQ.extract ((u:Int).tmod 10).toNat ((u:Int).tmod 10+1).toNat=⟨#[UInt8.ofNat (48+u % 10)]⟩:=by
  rw[ht,show(((u % 10:Nat):Int)+1).toNat=u % 10+1 by omega,Int.toNat_natCast];exact hdg
 have h1:(⟨#[UInt8.ofNat (48+u % 10)]⟩:ByteArray).size=1:=rfl;have h10:aiQ.size=10:=rfl;have nxt:(u≠0∨s=[])→((u / 10≤999999999∧(UInt8.ofNat (48+u % 10)::s).length+u / 10≤1000000000∧((u / 10=n.toNat∧(UInt8.ofNat (48+u % 10)::s)=[])∨((UInt8.ofNat (48+u % 10)::s)≠[]∧Go.Lib.decDigits n.toNat=(if u / 10=0 then []else Go.Lib.decDigits (u / 10))++(UInt8.ofNat (48+u % 10)::s))))∧(if(UInt8.ofNat (48+u % 10)::s)=[]then 1000000001 else u / 10)<if s=[]then 1000000001 else u):=fun hor=>by
  have key:Go.Lib.decDigits n.toNat=Go.Lib.decDigits u++s:=by
   rcases hs with⟨a,b⟩|⟨a,b⟩
   ·rw[a,b];simp
   ·rcases hor with q|q
    ·rw[b,if_neg q]
    ·exact absurd q a
  refine⟨⟨by omega,by simp only[ad4];rcases hor with q|q;omega;(subst q;simp;omega),.inr ⟨by simp,?_⟩⟩,?_⟩
  ·rw[key]
   by_cases q:u<10
   ·rw[ahR q,if_pos (by omega),Nat.mod_eq_of_lt q];rfl
   ·rw[ajd q,if_neg (by omega),List.append_assoc];rfl
  ·rw[if_neg (by simp)]
   by_cases q:s=[]
   ·rw[if_pos q];omega
   ·rw[if_neg q]
    rcases hor with r|r
    ·omega
    ·exact absurd r q
 repeat'((conv=>whnf);first|(intro hq;(try simp only[vw]at hq);try first|exact absurd hq (by decide)|exfalso;omega)|apply aI|with_reducible exact vM rfl|exact⟨⟩|apply nM|apply fM)
 all_goals((try apply vM);(try simp only[vq]at*);try omega)
 all_goals(try omega)
 all_goals(try(rw[ht];omega))
 all_goals(try(rw[hd];omega))
 all_goals(try(rw[hx,hsz,h1];omega))
 all_goals(try(rw[ht];show _≤((10:Nat):Int);omega))
 ·have hs0:s=[]:=by rw[hsz]at hq;exact ajF (by omega)
  refine⟨(u / 10,UInt8.ofNat (48+u % 10)::s),[],nxt (.inr hs0),?_⟩;simp only
  repeat'((conv=>whnf);first|intro _|apply aI|with_reducible exact vM rfl|exact⟨⟩|apply nM|apply fM)
  all_goals((try apply vM);(try simp only[vq]at*);try omega)
  all_goals first|exact hd|exact hd.symm|(rw[hx];exact ahD _ _)|skip
 ·have hs1:s≠[]:=fun q=>by rw[hsz,q]at hq;simp at hq
  have hu0:u=0:=by omega
  rcases hs with⟨_,b⟩|⟨_,b⟩
  ·exact absurd b hs1
  ·rw[if_pos hu0,ajG]at b
   unfold dgB;rw[b];exact Sup.of rfl
 ·skip
  refine⟨(u / 10,UInt8.ofNat (48+u % 10)::s),[],nxt (.inl (by omega)),?_⟩
  simp only
  repeat'((conv=>whnf);first|intro _|apply aI|with_reducible exact vM rfl|exact⟨⟩|apply nM|apply fM)
  all_goals((try apply vM);(try simp only[vq]at*);try omega)
  all_goals first|exact hd|exact hd.symm|(rw[hx];exact ahD _ _)|skip
def aht:PSp:=fun xs K=>match xs with
 | [.int .i64 n,.int .i64 1]=>VC (0≤n∧n≤999999999)∧K (.str (dgB n.toNat))
 |_=>False
theorem aij:POK Tryz.prog 239 aht:=by
 intro xs K h;unfold aht at h;split at h
 ·exact⟨_,h.2,ahU _ h.1.get⟩
 ·exact h.elim
def whL (n:Int):List Int:=if n=0 then []else [(n.natAbs:Int)]
theorem aik (n:Int) (h: -999999999≤n∧n≤999999999):aF Tryz.prog 214 [.int .i64 n] (.agg [.bp (decide (n<0)&&decide (0<((whL n).length:Int))),.isl (.ints .i64 (whL n)) .none]):=by
 have hC:aW Tryz.prog (aA 240 (aB ahC) noC):=aj (au aiI) aD;have hw:whL n=[]∨(whL n).getD ((whL n).length-1) 0≠0:=by
  unfold whL;split
  ·exact .inl rfl
  ·right;simp;omega
 have hwl:(whL n).length≤1:=by unfold whL;split<;>simp
 have hq0:n.tdiv 1000000000=0:=by
  by_cases e:0≤n
  ·exact ajH e (by omega)
  ·have:=Int.neg_tdiv (-n) 1000000000
   rw[Int.neg_neg]at this;rw[this,ajH (by omega) (by omega)];rfl
 have hr:n.tmod 1000000000=n:=by
  have:=Int.tmod_def n 1000000000;rw[hq0]at this;omega
 by_cases hn0:n=0
 ·have hwe:whL n=[]:=if_pos hn0
  rw[hwe]at hw hwl⊢;subst hn0;refine av (md:=1) (rf:=[]) mixed ak hC Tryz.func214 (by rfl) (by rfl) (by rfl) ?_
  repeat'((conv=>whnf);first|(intro hq;(try simp only[vw]at hq);try first|exact absurd hq (by decide)|exfalso;omega)|apply aI|with_reducible exact vM rfl|exact⟨⟩|apply nM|apply fM)
  all_goals((try apply vM);(try simp only[vq]at*);try omega)
  conv=>whnf
  refine aM (X:=Unit) (fun i=>True) (fun i=>[(0,.int .i64 0),(3,.nils)]) (fun i=>[]) (fun i=>1) () ⟨aK,mixed,ak,hC,aQ⟩ (by rfl) trivial ?_ ?_
  ·repeat'((conv=>whnf);first|intro _|apply aI|with_reducible exact vM rfl|exact⟨⟩|apply nM|apply fM)
   all_goals((try apply vM);(try simp only[vq]at*);try omega)
  intro i _
  repeat'((conv=>whnf);first|(intro hq;(try simp only[vw]at hq);try first|exact absurd hq (by decide)|exfalso;omega)|apply aI|with_reducible exact vM rfl|exact⟨⟩|apply nM|apply fM)
  all_goals((try apply vM);(try simp only[vq]at*);try omega)
  all_goals first|omega|exact⟨by decide,.inl trivial⟩|exact⟨by decide,.inl rfl⟩|exact Sup.of rfl|skip
 have hwe:whL n=[(n.natAbs:Int)]:=if_neg hn0;rw[hwe];obtain⟨a,ha⟩:∃a:Int,(n.natAbs:Int)=a:=⟨_,rfl⟩;rw[ha];refine av (md:=1) (rf:=[]) mixed ak hC Tryz.func214 (by rfl) (by rfl) (by rfl) ?_
 repeat'((conv=>whnf);first|(intro hq;(try simp only[vw]at hq);try first|exact absurd hq (by decide)|exfalso;omega)|apply aI|with_reducible exact vM rfl|exact⟨⟩|apply nM|apply fM)
 all_goals((try apply vM);(try simp only[vq]at*);try omega)
 conv=>whnf
 refine aM (X:=Nat) (fun i=>i≤1) (fun i=>[(0,.int .i64 (if i=1 then 0 else n)),(3,.isl (.ints .i64 (([a]:List Int).take i)) (.own 20))]) (fun i=>[(20,.tok 1 i)]) (fun i=>1-i) 0 ⟨aK,mixed,ak,hC,aQ⟩ (by rfl) (by omega) ?_ ?_
 ·repeat'((conv=>whnf);first|intro _|apply aI|with_reducible exact vM rfl|exact⟨⟩|apply nM|apply fM)
  all_goals((try apply vM);(try simp only[vq]at*);try omega)
  all_goals rfl
 intro i hi;obtain rfl|rfl:i=0∨i=1:=by omega
 ·rw[if_neg (by decide),List.take_zero]
  repeat'((conv=>whnf);first|(intro hq;(try simp only[vw]at hq);try first|exact absurd hq (by decide)|exfalso;omega)|apply aI|with_reducible exact vM rfl|exact⟨⟩|apply nM|apply fM)
  all_goals((try apply vM);(try simp only[vq]at*);try omega)
  all_goals(try first|omega|(exfalso;exact hn0 hq)|(simp only[afu,ad4,adY];omega)|(rw[hr]at*;omega))
  ·skip
   refine⟨1,[],⟨by omega,by omega⟩,?_⟩
   rw[if_pos rfl,show([a]:List Int).take 1=[a]from rfl];have hda:(0-n.tmod 1000000000)=a:=by rw[hr]at*;omega
   repeat'((conv=>whnf);first|intro _|apply aI|with_reducible exact vM rfl|exact⟨⟩|apply nM|apply fM)
   all_goals((try apply vM);(try simp only[vq]at*);try omega)
   all_goals first|exact hq0|exact hq0.symm|(rw[hda];done)|(rw[hda];rfl)|rfl|skip
  ·skip
   refine⟨1,[],⟨by omega,by omega⟩,?_⟩
   rw[if_pos rfl,show([a]:List Int).take 1=[a]from rfl];have hda:(n.tmod 1000000000)=a:=by rw[hr]at*;omega
   repeat'((conv=>whnf);first|intro _|apply aI|with_reducible exact vM rfl|exact⟨⟩|apply nM|apply fM)
   all_goals((try apply vM);(try simp only[vq]at*);try omega)
   all_goals first|exact hq0|exact hq0.symm|(rw[hda];done)|(rw[hda];rfl)|rfl|skip
 ·rw[if_pos rfl,show([a]:List Int).take 1=[a]from rfl]
  repeat'((conv=>whnf);first|(intro hq;(try simp only[vw]at hq);try first|exact absurd hq (by decide)|exfalso;omega)|apply aI|with_reducible exact vM rfl|exact⟨⟩|apply nM|apply fM)
  all_goals((try apply vM);(try simp only[vq]at*);try omega)
  all_goals first|omega|exact⟨by decide,.inr (by simp;omega)⟩|exact Sup.of rfl|skip
def ahx:PSp:=fun xs K=>match xs with
 | [.int .i64 n]=>VC (-999999999≤n∧n≤999999999)∧K (.agg [.bp (decide (n<0)&&decide (0<((whL n).length:Int))),.isl (.ints .i64 (whL n)) .none])
 |_=>False
theorem ahV:POK Tryz.prog 214 ahx:=by
 intro xs K h;unfold ahx at h;split at h
 ·exact⟨_,h.2,aik _ h.1.get⟩
 ·exact h.elim
abbrev ai9:ByteArray:=⟨#[48]⟩
abbrev ail:ByteArray:=⟨#[45]⟩
noncomputable def ajy:CPT:=aA 239 (aB aht) noC
theorem ahE:aW Tryz.prog ajy:=aj (au aij) aD
theorem ain (b:Bool):aF Tryz.prog 213 [.agg [.bp b,.isl (.ints .i64 []) .none]] (.str ai9):=by
 refine av (md:=1) (rf:=[]) mixed ak ahE Tryz.func213 (by rfl) (by rfl) (by rfl) ?_
 repeat'((conv=>whnf);first|(intro hq;(try simp only[vw]at hq);try first|exact absurd hq (by decide)|exfalso;omega)|apply aI|with_reducible exact vM rfl|exact⟨⟩|apply nM|apply fM)
 all_goals((try apply vM);(try simp only[vq]at*);try omega)
 all_goals first|omega|exact Sup.of rfl|skip
theorem aje (u:Nat) (h:u≤999999999):(dgB u).size≤100:=by
 have h1:(dgB u).size=Go.Lib.nDigits u:=by
  rw[←Go.Lib.decDigits_length];rfl
 have key:∀k u:Nat,u<10 ^ k→1≤k→Go.Lib.nDigits u≤k:=by
  intro k;induction k with
  |zero=>intro u _ h;omega
  |succ k ih=>
   intro u hu _;by_cases q:u<10
   ·rw[Go.Lib.nDigits_small q];omega
   ·rw[Go.Lib.nDigits_big q]
    have hk:1≤k:=by
     cases k with
     |zero=>simp at hu;omega
     |succ k=>omega
    have:=ih (u / 10) (by rw[Nat.pow_succ]at hu;omega) hk
    omega
 have:=key 9 u (by omega) (by omega)
 omega
theorem aio (b:Bool) (a:Int) (h:1≤a∧a≤999999999):aF Tryz.prog 213 [.agg [.bp b,.isl (.ints .i64 [a]) .none]] (.str (if b then ail++dgB a.toNat else dgB a.toNat)):=by
 have hs:=aje a.toNat (by omega)
 have hm:ail.size=1:=rfl;refine av (md:=1) (rf:=[]) mixed ak ahE Tryz.func213 (by rfl) (by rfl) (by rfl) ?_
 repeat'((conv=>whnf);first|(intro hq;(try simp only[vw]at hq);try first|exact absurd hq (by decide)|exfalso;omega)|apply aI|with_reducible exact vM rfl|exact⟨⟩|apply nM|apply fM)
 all_goals((try apply vM);(try simp only[vq]at*);try omega)
 all_goals(try first|omega|exact⟨(show 0≤a by omega),h.2⟩)
 conv=>whnf
 refine aM (X:=Unit) (fun i=>True) (fun i=>[(4,.int .i64 (-1)),(3,.str (dgB a.toNat))]) (fun i=>[]) (fun i=>1) () ⟨aK,mixed,ak,ahE,aQ⟩ (by rfl) trivial ?_ ?_
 ·repeat'((conv=>whnf);first|intro _|apply aI|with_reducible exact vM rfl|exact⟨⟩|apply nM|apply fM)
  all_goals((try apply vM);(try simp only[vq]at*);try omega)
  all_goals first|rfl|omega|skip
 intro i _
 repeat'((conv=>whnf);first|(intro hq;(try simp only[vw]at hq);try first|exact absurd hq (by decide)|exfalso;omega)|apply aI|with_reducible exact vM rfl|exact⟨⟩|apply nM|apply fM)
 all_goals((try apply vM);(try simp only[vq]at*);try omega)
 all_goals(try first|omega|(rw[hm];omega))
 ·rw[hq,if_pos rfl];exact Sup.of rfl
 ·rw[hq,if_neg (by simp)];exact Sup.of rfl
theorem aip (n:Int) (h: -999999999≤n∧n≤999999999):aF Tryz.prog 177 [.int .i64 n] (.str (itB n)):=by
 by_cases hn0:n=0
 ·subst hn0
  have hC:aW Tryz.prog (aA 213 (aB fun xs K=>match xs with| [.agg [.bp b,.isl (.ints .i64 l) .none]]=>VC (l=[])∧K (.str ai9)|_=>False) (aA 214 (aB ahx) noC)):=aj (au (fun xs K hk=>by
   split at hk
   ·obtain⟨⟨rfl⟩,hk⟩:=hk;exact⟨_,hk,ain _⟩
   ·exact hk.elim)) (aj (au ahV) aD)
  refine av (md:=1) (rf:=[]) mixed ak hC Tryz.func177 (by rfl) (by rfl) (by rfl) ?_
  repeat'((conv=>whnf);first|(intro hq;(try simp only[vw]at hq);try first|exact absurd hq (by decide)|exfalso;omega)|apply aI|with_reducible exact vM rfl|exact⟨⟩|apply nM|apply fM)
  all_goals((try apply vM);(try simp only[vq]at*);try omega)
  all_goals first|omega|exact if_pos rfl|(refine Sup.of (congrArg PV.str ?_);unfold itB Go.Lib.itoa;rw[if_neg (by decide),ahk,ahR (by decide)];rfl)|skip
 obtain⟨a,ha⟩:∃a:Int,(n.natAbs:Int)=a:=⟨_,rfl⟩;have hwe:whL n=[a]:=by rw[←ha];exact if_neg hn0
 have hit:itB n=if decide (n<0)then ail++dgB a.toNat else dgB a.toNat:=by
  unfold itB Go.Lib.itoa dgB;by_cases e:n<0
  ·rw[if_pos e,decide_eq_true e,if_pos rfl,show a.toNat=n.natAbs by omega]
   exact(ahD 45 _).symm
  ·rw[if_neg e,decide_eq_false e,if_neg (by simp),show a.toNat=n.toNat by omega]
 have hC:aW Tryz.prog (aA 213 (aB fun xs K=>match xs with| [.agg [.bp b,.isl (.ints .i64 l) .none]]=>VC (l=[a]∧1≤a∧a≤999999999∧b=decide (n<0))∧K (.str (if decide (n<0)then ail++dgB a.toNat else dgB a.toNat))|_=>False) (aA 214 (aB ahx) noC)):=aj (au (fun xs K hk=>by
  split at hk
  ·obtain⟨⟨rfl,h1,h2,rfl⟩,hk⟩:=hk;exact⟨_,hk,aio _ _ ⟨h1,h2⟩⟩
  ·exact hk.elim)) (aj (au ahV) aD)
 rw[hit];refine av (md:=1) (rf:=[]) mixed ak hC Tryz.func177 (by rfl) (by rfl) (by rfl) ?_
 repeat'((conv=>whnf);first|(intro hq;(try simp only[vw]at hq);try first|exact absurd hq (by decide)|exfalso;omega)|apply aI|with_reducible exact vM rfl|exact⟨⟩|apply nM|apply fM)
 all_goals((try apply vM);(try simp only[vq]at*);try omega)
 all_goals first|omega|exact⟨hwe,by omega,by omega,by rw[hwe];simp⟩|exact Sup.of rfl|skip
def ahW:PSp:=fun xs K=>match xs with
 | [.int .i64 n]=>VC (-999999999≤n∧n≤999999999)∧K (.str (itB n))
 |_=>False
theorem aiR:POK Tryz.prog 177 ahW:=by
 intro xs K h;unfold ahW at h;split at h
 ·exact⟨_,h.2,aip _ h.1.get⟩
 ·exact h.elim
theorem aiJ (n:Int) (h: -999999999≤n∧n≤999999999):aF Tryz.prog 131 [.int .i64 n] (.str (itB n)):=by
 have hC:aW Tryz.prog (aA 177 (aB ahW) noC):=aj (au aiR) aD;refine av (md:=1) (rf:=[]) mixed ak hC Tryz.func131 (by rfl) (by rfl) (by rfl) ?_
 repeat'((conv=>whnf);first|(intro hq;(try simp only[vw]at hq);try first|exact absurd hq (by decide)|exfalso;omega)|apply aI|with_reducible exact vM rfl|exact⟨⟩|apply nM|apply fM)
 all_goals((try apply vM);(try simp only[vq]at*);try omega)
 all_goals first|omega|exact h|exact Sup.of rfl|skip
def aiq:PSp:=fun xs K=>match xs with
 | [.int .i64 n]=>VC (-999999999≤n∧n≤999999999)∧K (.str (itB n))
 |_=>False
theorem ajf:POK Tryz.prog 131 aiq:=by
 intro xs K h;unfold aiq at h;split at h
 ·exact⟨_,h.2,aiJ _ h.1.get⟩
 ·exact h.elim
theorem air (c:Int) (ls:List (List Int)) (sum:Int) (gv:List Int) (s:St) (h:bO c ls sum s) (k b:Int) (hk:0≤k∧k<ls.length):
 aF Tryz.prog 96 [pzV c ls sum gv,stV s,.int .i64 k,.int .i64 b] (.isl (.ints .i64 (opn s (ls.getD k.toNat []) b)) .none):=by
 have hln:=h.ln k.toNat (by omega)
 have hll:=hln.len;have hcl:=h.cl;have hdl:=h.dl;refine av (md:=1) (rf:=[]) mixed ak aD Tryz.func96 (by rfl) (by rfl) (by rfl) ?_
 repeat'((conv=>whnf);first|intro _|apply aI|with_reducible exact vM rfl|exact⟨⟩|apply nM|apply fM)
 all_goals((try apply vM);(try simp only[vq]at*);try omega)
 conv=>whnf
 refine aM (X:=Nat) (fun i=>i≤(ls.getD k.toNat []).length) (fun i=>[(11,.int .i64 i),(9,.isl (.ints .i64 (opn s ((ls.getD k.toNat []).take i) b)) (.own 5))]) (fun i=>[(5,.tok 1 (opn s ((ls.getD k.toNat []).take i) b).length)]) (fun i=>(ls.getD k.toNat []).length-i) 0 ⟨aK,mixed,ak,aD,aQ⟩ (by rfl) (by omega) ?_ ?_
 ·repeat'((conv=>whnf);first|intro _|apply aI|with_reducible exact vM rfl|exact⟨⟩|apply nM|apply fM)
  all_goals((try apply vM);(try simp only[vq]at*);try omega)
  all_goals rfl
 intro i hi;by_cases hlt:i<(ls.getD k.toNat []).length
 ·have hx:=hln.rng ((ls.getD k.toNat []).getD i 0) (bL hlt)
  have hxs:=h.at hx;have ho:(opn s ((ls.getD k.toNat []).take i) b).length≤16:=afW (agM _ _) (by rw[ae0];omega)
  have e1:=XF s ((ls.getD k.toNat []).take i) ((ls.getD k.toNat []).getD i 0) b;rw[←dF hlt]at e1
  repeat'((conv=>whnf);first|(intro hq;(try simp only[vw]at hq);try first|exact absurd hq (by decide)|exfalso;omega)|apply aI|with_reducible exact vM rfl|exact⟨⟩|apply nM|apply fM)
  all_goals((try apply vM);(try simp only[vq]at*);try omega)
  all_goals(try(first|omega|(rw[afu,ad4,adY];omega)))
  ·rename_i hd
   have hd:s.dc ((ls.getD k.toNat []).getD i 0).toNat=false:=hd;rw[hd,if_pos (by simpa using hq)]at e1
   refine⟨i+1,[],⟨by omega,by omega⟩,?_⟩
   rw[e1,afu]
   repeat'((conv=>whnf);first|intro _|apply aI|with_reducible exact vM rfl|exact⟨⟩|apply nM|apply fM)
   all_goals((try apply vM);(try simp only[vq]at*);try omega)
  ·rename_i hd
   have hd:s.dc ((ls.getD k.toNat []).getD i 0).toNat=false:=hd;rw[hd,if_neg (by simpa using hq),agN]at e1
   refine⟨i+1,[],⟨by omega,by omega⟩,?_⟩
   rw[e1]
   repeat'((conv=>whnf);first|intro _|apply aI|with_reducible exact vM rfl|exact⟨⟩|apply nM|apply fM)
   all_goals((try apply vM);(try simp only[vq]at*);try omega)
  ·have hd:s.dc ((ls.getD k.toNat []).getD i 0).toNat=true:=hq
   rw[hd,if_neg (by simp),agN]at e1
   refine⟨i+1,[],⟨by omega,by omega⟩,?_⟩
   rw[e1]
   repeat'((conv=>whnf);first|intro _|apply aI|with_reducible exact vM rfl|exact⟨⟩|apply nM|apply fM)
   all_goals((try apply vM);(try simp only[vq]at*);try omega)
 ·have:i=(ls.getD k.toNat []).length:=by omega
  subst this;rw[af5]
  repeat'((conv=>whnf);first|intro _|apply aI|with_reducible exact vM rfl|exact⟨⟩|apply nM|apply fM)
  all_goals((try apply vM);(try simp only[vq]at*);try omega)
  exact Sup.of rfl
theorem ais (c:Int) (ls:List (List Int)) (sum:Int) (gv:List Int) (s:St) (h:bO c ls sum s) (k:Int) (hk:0≤k∧k<ls.length):
 aF Tryz.prog 97 [pzV c ls sum gv,stV s,.int .i64 k] (.int .i64 (rst s sum (ls.getD k.toNat []))):=by
 have hln:=h.ln k.toNat (by omega)
 have hsm:=h.sm;have hll:=hln.len;have hcl:=h.cl;have hdl:=h.dl;have hb:=Fh h hln.rng;refine av (md:=1) (rf:=[]) mixed ak aD Tryz.func97 (by rfl) (by rfl) (by rfl) ?_
 repeat'((conv=>whnf);first|intro _|apply aI|with_reducible exact vM rfl|exact⟨⟩|apply nM|apply fM)
 all_goals((try apply vM);(try simp only[vq]at*);try omega)
 conv=>whnf
 refine aM (X:=Nat) (fun i=>i≤(ls.getD k.toNat []).length) (fun i=>[(9,.int .i64 i),(7,.int .i64 (rst s sum ((ls.getD k.toNat []).take i)))]) (fun i=>[]) (fun i=>(ls.getD k.toNat []).length-i) 0 ⟨aK,mixed,ak,aD,aQ⟩ (by rfl) (by omega) ?_ ?_
 ·repeat'((conv=>whnf);first|intro _|apply aI|with_reducible exact vM rfl|exact⟨⟩|apply nM|apply fM)
  all_goals((try apply vM);(try simp only[vq]at*);try omega)
  all_goals rfl
 intro i hi;by_cases hlt:i<(ls.getD k.toNat []).length
 ·have hx:=hln.rng ((ls.getD k.toNat []).getD i 0) (bL hlt)
  have hxs:=h.at hx;have hbi:=hb i (by omega)
  have e2:=Je s sum ((ls.getD k.toNat []).take i) ((ls.getD k.toNat []).getD i 0);rw[←dF hlt]at e2;have h8:s.dc ((ls.getD k.toNat []).getD i 0).toNat=true→(s.cs.getD ((ls.getD k.toNat []).getD i 0).toNat []).length=1:=h.dec _ hxs.1;have h9:s.dc ((ls.getD k.toNat []).getD i 0).toNat=true→1≤(s.cs.getD ((ls.getD k.toNat []).getD i 0).toNat []).getD 0 0∧(s.cs.getD ((ls.getD k.toNat []).getD i 0).toNat []).getD 0 0≤16:=fun hd=>by have:=h.num hx hd;exact⟨this.1,this.2.1⟩
  repeat'((conv=>whnf);first|(intro hq;(try simp only[vw]at hq);try first|exact absurd hq (by decide)|exfalso;omega)|apply aI|with_reducible exact vM rfl|exact⟨⟩|apply nM|apply fM)
  all_goals((try apply vM);(try simp only[vq]at*);try omega)
  all_goals(try simp only[ahk])
  all_goals(try(have k8:=h8 (by assumption);have k9:=h9 (by assumption);omega))
  ·have hd:s.dc ((ls.getD k.toNat []).getD i 0).toNat=true:=hq
   rw[hd,if_pos rfl]at e2;refine⟨i+1,[],⟨by omega,by omega⟩,?_⟩
   rw[e2]
   repeat'((conv=>whnf);first|intro _|apply aI|with_reducible exact vM rfl|exact⟨⟩|apply nM|apply fM)
   all_goals((try apply vM);(try simp only[vq]at*);try omega)
  ·have hd:s.dc ((ls.getD k.toNat []).getD i 0).toNat=false:=hq
   rw[hd,if_neg (by simp)]at e2
   refine⟨i+1,[],⟨by omega,by omega⟩,?_⟩
   rw[e2]
   repeat'((conv=>whnf);first|intro _|apply aI|with_reducible exact vM rfl|exact⟨⟩|apply nM|apply fM)
   all_goals((try apply vM);(try simp only[vq]at*);try omega)
 ·have:i=(ls.getD k.toNat []).length:=by omega
  subst this;rw[af5]
  repeat'((conv=>whnf);first|intro _|apply aI|with_reducible exact vM rfl|exact⟨⟩|apply nM|apply fM)
  all_goals((try apply vM);(try simp only[vq]at*);try omega)
  exact Sup.of rfl
def ahq (s:St) (o:List Int) (x:Int):Bool:=!(o.any fun y=>decide (s.cd y.toNat=[]))&&(decide (xQ s o≤x)&&decide (x≤xR s o))
theorem ajg (s:St) (sum:Int) (l:List Int) (c x:Int):xS s sum l c x=!ahq s (opn s l c) (rst s sum l-x):=by
 unfold xS ahq;cases(opn s l c).any fun y=>decide (s.cd y.toNat=[])
 ·simp only[Bool.false_or,aeV,agO,Bool.not_and]
  congr 1
  ·rw[←decide_not];congr 1;simp
  ·rw[←decide_not];congr 1;simp
 ·simp
theorem ahX (s:St) (o:List Int) (y:Int):xQ s (o++[y])=xQ s o+hd0 (s.cd y.toNat):=by unfold xQ;rw[agq];rfl
theorem ahY (s:St) (o:List Int) (y:Int):xR s (o++[y])=xR s o+ls0 (s.cd y.toNat):=by unfold xR;rw[agq];rfl
structure ahZ (c:Int) (ls:List (List Int)) (sum:Int) (s:St) (o:List Int) (x:Int):Prop where
 bd:bO c ls sum s
 rng:∀y∈o,0≤y∧y<c
 len:o.length≤16
 x: -2000000000≤x∧x≤2000000000
theorem aia {c:Int} {ls:List (List Int)} {sum:Int} {s:St} (h:bO c ls sum s) (o:List Int) (ho:∀y∈o,0≤y∧y<c):∀i,i≤o.length→0≤xQ s (o.take i)∧xQ s (o.take i)≤16*i∧0≤xR s (o.take i)∧xR s (o.take i)≤16*i:=by
 intro i;induction i with
 |zero=>intro _;simp[xQ,xR]
 |succ i ih=>
  intro hi;have h1:=ih (by omega)
  have hy:=ho (o.getD i 0) (bL (by omega))
  have hA:=(h.asc _ (h.at hy).1).1;have h2:0≤hd0 (s.cd (o.getD i 0).toNat)∧hd0 (s.cd (o.getD i 0).toNat)≤16:=by
   rcases aee (s.cd (o.getD i 0).toNat).length with e|e
   ·rw[ajF e];simp[hd0]
   ·have:=hA.rng _ (vZ e);omega
  have h3:0≤ls0 (s.cd (o.getD i 0).toNat)∧ls0 (s.cd (o.getD i 0).toNat)≤16:=by
   rcases aee (s.cd (o.getD i 0).toNat).length with e|e
   ·rw[ajF e];simp[ls0]
   ·have:=hA.rng _ (Ag e);omega
  rw[dF (by omega),ahX,ahY]
  omega
theorem aiK (c:Int) (ls:List (List Int)) (sum:Int) (s:St) (o:List Int) (x:Int) (h:ahZ c ls sum s o x):aF Tryz.prog 135 [stV s,.isl (.ints .i64 o) .none,.int .i64 x] (.bp (ahq s o x)):=by
 have hb:=h.bd;have hcl:=hb.cl;have hdl:=hb.dl;have hlen:=h.len;have hx:=h.x;refine av (md:=1) (rf:=[]) mixed ak aD Tryz.func135 (by rfl) (by rfl) (by rfl) ?_
 repeat'((conv=>whnf);first|intro _|apply aI|with_reducible exact vM rfl|exact⟨⟩|apply nM|apply fM)
 all_goals((try apply vM);(try simp only[vq]at*);try omega)
 conv=>whnf
 refine aM (X:=Nat) (fun i=>i≤o.length∧(o.take i).any (fun y=>decide (s.cd y.toNat=[]))=false) (fun i=>[(9,.int .i64 i),(7,.int .i64 (xQ s (o.take i))),(8,.int .i64 (xR s (o.take i)))]) (fun i=>[]) (fun i=>o.length-i) 0 ⟨aK,mixed,ak,aD,aQ⟩ (by rfl) ⟨by omega,by simp⟩ ?_ ?_
 ·repeat'((conv=>whnf);first|intro _|apply aI|with_reducible exact vM rfl|exact⟨⟩|apply nM|apply fM)
  all_goals((try apply vM);(try simp only[vq]at*);try omega)
  all_goals rfl
 intro i ⟨hi,hok⟩;by_cases hlt:i<o.length
 ·have hy:=h.rng (o.getD i 0) (bL hlt)
  have hys:=hb.at hy;have hA:=(hb.asc _ hys.1).1;have h16:=Ap hA;have s1:=aia hb o h.rng i (by omega)
  have s2:=aia hb o h.rng (i+1) (by omega)
  have e1:xQ s (o.take (i+1))=xQ s (o.take i)+hd0 (s.cd (o.getD i 0).toNat):=by rw[dF hlt,ahX]
  have e2:xR s (o.take (i+1))=xR s (o.take i)+ls0 (s.cd (o.getD i 0).toNat):=by rw[dF hlt,ahY]
  have k16:(s.cs.getD (o.getD i 0).toNat []).length≤16:=h16;have f1:(s.cs.getD (o.getD i 0).toNat []).getD 0 0=hd0 (s.cd (o.getD i 0).toNat):=rfl;have f2:(s.cs.getD (o.getD i 0).toNat []).getD (((s.cs.getD (o.getD i 0).toNat []).length:Int)-1).toNat 0=ls0 (s.cd (o.getD i 0).toNat):=by
   rw[show(((s.cs.getD (o.getD i 0).toNat []).length:Int)-1).toNat=(s.cs.getD (o.getD i 0).toNat []).length-1 by omega];rfl
  repeat'((conv=>whnf);first|(intro hq;(try simp only[vw]at hq);try first|exact absurd hq (by decide)|exfalso;omega)|apply aI|with_reducible exact vM rfl|exact⟨⟩|apply nM|apply fM)
  all_goals((try apply vM);(try simp only[vq]at*);try omega)
  all_goals(try simp only[ahk])
  all_goals(try rw[f1])
  all_goals(try rw[f2])
  all_goals(try omega)
  ·have hn:s.cd (o.getD i 0).toNat=[]:=ajF (show(s.cs.getD (o.getD i 0).toNat []).length=0 by omega)
   have:ahq s o x=false:=by
    unfold ahq;rw[agC.2 ⟨o.getD i 0,bL hlt,decide_eq_true hn⟩];rfl
   rw[this];exact dK false
  ·have hn:s.cd (o.getD i 0).toNat≠[]:=fun e=>by
    have:(s.cs.getD (o.getD i 0).toNat []).length=0:=by rw[show s.cs.getD (o.getD i 0).toNat []=[]from e];rfl
    omega
   refine⟨i+1,[],⟨⟨by omega,?_⟩,by omega⟩,?_⟩
   ·rw[dF hlt,List.any_append,hok,List.any_cons,decide_eq_false hn];rfl
   rw[e1,e2]
   repeat'((conv=>whnf);first|intro _|apply aI|with_reducible exact vM rfl|exact⟨⟩|apply nM|apply fM)
   all_goals((try apply vM);(try simp only[vq]at*);try omega)
   all_goals(try rw[f2])
 ·have:i=o.length:=by omega
  subst this;rw[af5]at*;have hB:ahq s o x=(decide (xQ s o≤x)&&decide (x≤xR s o)):=by unfold ahq;rw[hok];rfl
  repeat'((conv=>whnf);first|intro _|apply aI|with_reducible exact vM rfl|exact⟨⟩|apply nM|apply fM)
  all_goals((try apply vM);(try simp only[vq]at*);try omega)
  ·rename_i h1
   rw[hB,decide_eq_true h1];exact Sup.of rfl
  ·rename_i h1
   rw[hB,decide_eq_false h1];exact dK false
def ait:PSp:=fun xs K=>match xs with
 | [.agg [.isl (.rows .i64 CS) .none,.isl (.bools DS) .none],.isl (.ints .i64 o) .none,.int .i64 x]=>VC (∃c ls sum,ahZ c ls sum ⟨CS,DS⟩ o x)∧K (.bp (ahq ⟨CS,DS⟩ o x))
 |_=>False
theorem ajh:POK Tryz.prog 135 ait:=by
 intro xs K h;unfold ait at h;split at h
 ·exact⟨_,h.2,(by obtain⟨c,ls,sum,h'⟩:=h.1.get;exact aiK c ls sum ⟨_,_⟩ _ _ h')⟩
 ·exact h.elim
theorem ahs (r:ByteArray):aF Tryz.prog 70 [.str r] (.int .i64 (aP r)):=by
 have hn:=pV;refine av (md:=1) (rf:=[]) mixed ak aD Tryz.func70 (by rfl) (by rfl) (by rfl) ?_
 repeat'((conv=>whnf);first|intro _|apply aI|with_reducible exact vM rfl|exact⟨⟩|apply nM|apply fM)
 all_goals((try apply vM);(try simp only[vq]at*);try omega)
 conv=>whnf
 refine aM (X:=Nat) (fun i=>i≤5∧∀j,0<j→j<i+1→nmG j≠r) (fun i=>[(4,.int .i64 i)]) (fun i=>[]) (fun i=>5-i) 0 ⟨aK,mixed,ak,aD,aQ⟩ (by rfl) ⟨by omega,fun j h0 hj=>by omega⟩ ?_ ?_
 ·repeat'((conv=>whnf);first|intro _|apply aI|with_reducible exact vM rfl|exact⟨⟩|apply nM|apply fM)
  all_goals((try apply vM);(try simp only[vq]at*);try omega)
 intro i ⟨hi,hok⟩;obtain rfl|rfl|rfl|rfl|rfl|rfl:i=0∨i=1∨i=2∨i=3∨i=4∨i=5:=by omega
 ·repeat'((conv=>whnf);first|(intro hq;(try simp only[vw]at hq);try first|exact absurd hq (by decide)|exfalso;omega)|apply aI|with_reducible exact vM rfl|exact⟨⟩|apply nM|apply fM)
  all_goals((try apply vM);(try simp only[vq]at*);try omega)
  all_goals(try omega)
  ·subst hq
   refine Sup.of (congrArg (PV.int .i64) ?_);exact(hn.1:aP (nmG 1)=1).symm
  refine⟨1,[],⟨⟨by omega,fun j h0 hj=>?_⟩,by omega⟩,?_⟩
  ·by_cases e:j=1
   ·subst e;exact hq
   ·exact hok j h0 (by omega)
  repeat'((conv=>whnf);first|intro _|apply aI|with_reducible exact vM rfl|exact⟨⟩|apply nM|apply fM)
  all_goals((try apply vM);(try simp only[vq]at*);try omega)
 ·repeat'((conv=>whnf);first|(intro hq;(try simp only[vw]at hq);try first|exact absurd hq (by decide)|exfalso;omega)|apply aI|with_reducible exact vM rfl|exact⟨⟩|apply nM|apply fM)
  all_goals((try apply vM);(try simp only[vq]at*);try omega)
  all_goals(try omega)
  ·subst hq
   refine Sup.of (congrArg (PV.int .i64) ?_);exact(hn.2.1:aP (nmG 2)=2).symm
  refine⟨2,[],⟨⟨by omega,fun j h0 hj=>?_⟩,by omega⟩,?_⟩
  ·by_cases e:j=2
   ·subst e;exact hq
   ·exact hok j h0 (by omega)
  repeat'((conv=>whnf);first|intro _|apply aI|with_reducible exact vM rfl|exact⟨⟩|apply nM|apply fM)
  all_goals((try apply vM);(try simp only[vq]at*);try omega)
 ·repeat'((conv=>whnf);first|(intro hq;(try simp only[vw]at hq);try first|exact absurd hq (by decide)|exfalso;omega)|apply aI|with_reducible exact vM rfl|exact⟨⟩|apply nM|apply fM)
  all_goals((try apply vM);(try simp only[vq]at*);try omega)
  all_goals(try omega)
  ·subst hq
   refine Sup.of (congrArg (PV.int .i64) ?_);exact(hn.2.2.1:aP (nmG 3)=3).symm
  refine⟨3,[],⟨⟨by omega,fun j h0 hj=>?_⟩,by omega⟩,?_⟩
  ·by_cases e:j=3
   ·subst e;exact hq
   ·exact hok j h0 (by omega)
  repeat'((conv=>whnf);first|intro _|apply aI|with_reducible exact vM rfl|exact⟨⟩|apply nM|apply fM)
  all_goals((try apply vM);(try simp only[vq]at*);try omega)
 ·repeat'((conv=>whnf);first|(intro hq;(try simp only[vw]at hq);try first|exact absurd hq (by decide)|exfalso;omega)|apply aI|with_reducible exact vM rfl|exact⟨⟩|apply nM|apply fM)
  all_goals((try apply vM);(try simp only[vq]at*);try omega)
  all_goals(try omega)
  ·subst hq
   refine Sup.of (congrArg (PV.int .i64) ?_);exact(hn.2.2.2.1:aP (nmG 4)=4).symm
  refine⟨4,[],⟨⟨by omega,fun j h0 hj=>?_⟩,by omega⟩,?_⟩
  ·by_cases e:j=4
   ·subst e;exact hq
   ·exact hok j h0 (by omega)
  repeat'((conv=>whnf);first|intro _|apply aI|with_reducible exact vM rfl|exact⟨⟩|apply nM|apply fM)
  all_goals((try apply vM);(try simp only[vq]at*);try omega)
 ·repeat'((conv=>whnf);first|(intro hq;(try simp only[vw]at hq);try first|exact absurd hq (by decide)|exfalso;omega)|apply aI|with_reducible exact vM rfl|exact⟨⟩|apply nM|apply fM)
  all_goals((try apply vM);(try simp only[vq]at*);try omega)
  all_goals(try omega)
  ·subst hq
   refine Sup.of (congrArg (PV.int .i64) ?_);exact(hn.2.2.2.2:aP (nmG 5)=5).symm
  refine⟨5,[],⟨⟨by omega,fun j h0 hj=>?_⟩,by omega⟩,?_⟩
  ·by_cases e:j=5
   ·subst e;exact hq
   ·exact hok j h0 (by omega)
  repeat'((conv=>whnf);first|intro _|apply aI|with_reducible exact vM rfl|exact⟨⟩|apply nM|apply fM)
  all_goals((try apply vM);(try simp only[vq]at*);try omega)
 ·rw[Yh fun j h0 hj=>hok j h0 (by omega)]
  repeat'((conv=>whnf);first|(intro hq;(try simp only[vw]at hq);try first|exact absurd hq (by decide)|exfalso;omega)|apply aI|with_reducible exact vM rfl|exact⟨⟩|apply nM|apply fM)
  all_goals((try apply vM);(try simp only[vq]at*);try omega)
  exact Sup.of rfl
def ahF:PSp:=fun xs K=>match xs with
 | [.str r]=>VC (True)∧K (.int .i64 (aP r))
 |_=>False
theorem aiL:POK Tryz.prog 70 ahF:=by
 intro xs K h;unfold ahF at h;split at h
 ·exact⟨_,h.2,ahs _⟩
 ·exact h.elim
def ahu:PSp:=fun xs K=>match xs with
 | [.str r]=>∃g:Int,VC (aP r=g)∧K (.int .i64 g)
 |_=>False
theorem aiu:POK Tryz.prog 70 ahu:=by
 intro xs K hk;unfold ahu at hk;split at hk
 ·obtain⟨g,⟨rfl⟩,hk⟩:=hk
  exact⟨_,hk,ahs _⟩
 ·exact hk.elim
noncomputable def ajz:CPT:=aA 70 (aB ahF) noC
theorem aji:aW Tryz.prog ajz:=aj (au aiL) aD
theorem aho (r:ByteArray):aF Tryz.prog 78 [.str r] (.bp (decide (aP r≤3))):=by
 refine av (md:=1) (rf:=[]) mixed ak aji Tryz.func78 (by rfl) (by rfl) (by rfl) ?_
 repeat'((conv=>whnf);first|intro _|apply aI|with_reducible exact vM rfl|exact⟨⟩|apply nM|apply fM)
 all_goals((try apply vM);(try simp only[vq]at*);try omega)
 all_goals exact Sup.of rfl
noncomputable def ajA:CPT:=aA 70 (aB ahu) (aA 95 (aB Vv) noC)
theorem eG:aW Tryz.prog ajA:=aj (au aiu) (aj (au adP) aD)
theorem aiM (c:Int) (ls:List (List Int)) (sum:Int) (gv:List Int) (h:bH ls) (r:ByteArray) (y x k:Int):
 aF Tryz.prog 64 [pzV c ls sum gv,ddV r y x k] (.int .i64 (dL c ls r y x k)):=by
 have h4:=fun i=>h.at' i;have h2:=h.len;by_cases hg:aP r=0
 ·rw[show dL c ls r y x k=13 by unfold dL;rw[if_pos hg]]
  refine av (md:=1) (rf:=[]) mixed ak eG Tryz.func64 (by rfl) (by rfl) (by rfl) ?_
  repeat'((conv=>whnf);first|apply Exists.intro (0)|(intro hq;(try simp only[vw]at hq);try first|exact absurd hq (by decide)|exfalso;omega)|apply aI|with_reducible exact vM rfl|exact⟨⟩|apply nM|apply fM)
  all_goals((try apply vM);(try simp only[vq]at*);try omega)
  all_goals first|exact hg|exact Sup.of rfl|skip
 by_cases hy:y<0∨c≤y
 ·rw[show dL c ls r y x k=10 by unfold dL;rw[if_neg hg,if_pos hy]]
  refine av (md:=1) (rf:=[]) mixed ak eG Tryz.func64 (by rfl) (by rfl) (by rfl) ?_
  repeat'((conv=>whnf);first|apply Exists.intro (aP r)|(intro hq;(try simp only[vw]at hq);try first|exact absurd hq (by decide)|exfalso;omega)|apply aI|with_reducible exact vM rfl|exact⟨⟩|apply nM|apply fM)
  all_goals((try apply vM);(try simp only[vq]at*);try omega)
  all_goals first|(exfalso;contradiction)|exact Sup.of rfl|(exfalso;rcases hy with hy|hy<;>contradiction)|(exfalso;rcases hy with hy|hy<;>simp_all)|skip
 have hy1:¬y<0:=fun e=>hy (.inl e);have hy2:¬c≤y:=fun e=>hy (.inr e);by_cases hx:x<1∨c<x
 ·rw[show dL c ls r y x k=3 by unfold dL;rw[if_neg hg,if_neg hy,if_pos hx]]
  clear hy;refine av (md:=1) (rf:=[]) mixed ak eG Tryz.func64 (by rfl) (by rfl) (by rfl) ?_
  repeat'((conv=>whnf);first|apply Exists.intro (aP r)|(intro hq;(try simp only[vw]at hq);try first|exact absurd hq (by decide)|exfalso;omega)|apply aI|with_reducible exact vM rfl|exact⟨⟩|apply nM|apply fM)
  all_goals((try apply vM);(try simp only[vq]at*);try omega)
  all_goals first|(exfalso;contradiction)|exact Sup.of rfl|(exfalso;rcases hx with hx|hx<;>contradiction)|(exfalso;rcases hx with hx|hx<;>simp_all)|skip
 have hx1:¬x<1:=fun e=>hx (.inl e);have hx2:¬c<x:=fun e=>hx (.inr e);obtain⟨rfl,hgr⟩|⟨rfl,hgr⟩|⟨rfl,hgr⟩|⟨rfl,hgr⟩|⟨rfl,hgr⟩|hgr:=l8 r
 ·rw[show dL c ls bJ y x k=if k<0∨ls.length≤k∨y∉ls.getD k.toNat []then 10 else 0 by unfold dL;rw[if_neg (by rw[hgr];decide),if_neg hy,if_neg hx,if_neg (by rw[hgr];decide)]]
  clear hy hx hg;refine av (md:=1) (rf:=[]) mixed ak eG Tryz.func64 (by rfl) (by rfl) (by rfl) ?_
  repeat'((conv=>whnf);first|apply Exists.intro (1)|(intro hq;(try simp only[vw]at hq);try first|exact absurd hq (by decide)|exfalso;omega)|apply aI|with_reducible exact vM rfl|exact⟨⟩|apply nM|apply fM)
  all_goals((try apply vM);(try simp only[vq]at*);try omega)
  all_goals first|exact hgr|(exfalso;contradiction)|(have:=h4 k.toNat;omega)|(exact Sup.of (by simp_all[bF]))|skip
 ·rw[show dL c ls bU y x k=if k≠ -1 then 10 else 0 by unfold dL;rw[if_neg (by rw[hgr];decide),if_neg hy,if_neg hx,if_pos (by rw[hgr];decide)]]
  clear hy hx hg;refine av (md:=1) (rf:=[]) mixed ak eG Tryz.func64 (by rfl) (by rfl) (by rfl) ?_
  repeat'((conv=>whnf);first|apply Exists.intro (2)|(intro hq;(try simp only[vw]at hq);try first|exact absurd hq (by decide)|exfalso;omega)|apply aI|with_reducible exact vM rfl|exact⟨⟩|apply nM|apply fM)
  all_goals((try apply vM);(try simp only[vq]at*);try omega)
  all_goals first|exact hgr|(exfalso;contradiction)|(exact Sup.of (by simp_all[bF]))|skip
 ·rw[show dL c ls bV y x k=if k≠ -1 then 10 else 0 by unfold dL;rw[if_neg (by rw[hgr];decide),if_neg hy,if_neg hx,if_pos (by rw[hgr];decide)]]
  clear hy hx hg;refine av (md:=1) (rf:=[]) mixed ak eG Tryz.func64 (by rfl) (by rfl) (by rfl) ?_
  repeat'((conv=>whnf);first|apply Exists.intro (3)|(intro hq;(try simp only[vw]at hq);try first|exact absurd hq (by decide)|exfalso;omega)|apply aI|with_reducible exact vM rfl|exact⟨⟩|apply nM|apply fM)
  all_goals((try apply vM);(try simp only[vq]at*);try omega)
  all_goals first|exact hgr|(exfalso;contradiction)|(exact Sup.of (by simp_all[bF]))|skip
 ·rw[show dL c ls bR y x k=if k<0∨ls.length≤k∨y∉ls.getD k.toNat []then 10 else 0 by unfold dL;rw[if_neg (by rw[hgr];decide),if_neg hy,if_neg hx,if_neg (by rw[hgr];decide)]]
  clear hy hx hg;refine av (md:=1) (rf:=[]) mixed ak eG Tryz.func64 (by rfl) (by rfl) (by rfl) ?_
  repeat'((conv=>whnf);first|apply Exists.intro (4)|(intro hq;(try simp only[vw]at hq);try first|exact absurd hq (by decide)|exfalso;omega)|apply aI|with_reducible exact vM rfl|exact⟨⟩|apply nM|apply fM)
  all_goals((try apply vM);(try simp only[vq]at*);try omega)
  all_goals first|exact hgr|(exfalso;contradiction)|(have:=h4 k.toNat;omega)|(exact Sup.of (by simp_all[bF]))|skip
 ·rw[show dL c ls bS y x k=if k<0∨ls.length≤k∨y∉ls.getD k.toNat []then 10 else 0 by unfold dL;rw[if_neg (by rw[hgr];decide),if_neg hy,if_neg hx,if_neg (by rw[hgr];decide)]]
  clear hy hx hg;refine av (md:=1) (rf:=[]) mixed ak eG Tryz.func64 (by rfl) (by rfl) (by rfl) ?_
  repeat'((conv=>whnf);first|apply Exists.intro (5)|(intro hq;(try simp only[vw]at hq);try first|exact absurd hq (by decide)|exfalso;omega)|apply aI|with_reducible exact vM rfl|exact⟨⟩|apply nM|apply fM)
  all_goals((try apply vM);(try simp only[vq]at*);try omega)
  all_goals first|exact hgr|(exfalso;contradiction)|(have:=h4 k.toNat;omega)|(exact Sup.of (by simp_all[bF]))|skip
 exact absurd hgr hg
def ahS:PSp:=fun xs K=>match xs with
 | [.agg [.int .i64 c,.isl (.rows .i64 ls) .none,.int .i64 sum,.isl (.ints .i64 gv) .none],.agg [.str r,.int .i64 y,.int .i64 x,.int .i64 k]]=>VC (bH ls)∧K (.int .i64 (dL c ls r y x k))
 |_=>False
theorem aib:POK Tryz.prog 64 ahS:=by
 intro xs K h;unfold ahS at h;split at h
 ·exact⟨_,h.2,aiM _ _ _ _ h.1.get _ _ _ _⟩
 ·exact h.elim
theorem aiS {s:St} {y z x:Int} {r used:List Int} (hz:z∈s.cd y.toNat) (hu:z∉used) (hc:chs s r (used++[z]) (x-z)=true):chs s (y::r) used x=true:=by
 unfold chs;rw[agC];exact⟨z,agh.2 ⟨hz,by simp[hu]⟩,hc⟩
theorem aiN {s:St} {y x:Int} {r used:List Int} (h:∀z∈s.cd y.toNat,z∈used∨chs s r (used++[z]) (x-z)=false):chs s (y::r) used x=false:=by
 unfold chs;rw[List.any_eq_false];intro z hz;obtain⟨h1,h2⟩:=agh.1 hz;rcases h z h1 with h3|h3
 ·simp[h3]at h2
 ·rw[h3];simp
structure ahG (c:Int) (ls:List (List Int)) (sum:Int) (s:St) (o used:List Int) (x:Int):Prop where
 bd:bO c ls sum s
 rng:∀y∈o,0≤y∧y<c
 len:o.length+used.length≤30
 x: -2000000000+16*(o.length:Int)≤x∧x≤2000000000
def ahT (c:Int) (ls:List (List Int)) (sum:Int) (s:St) (n:Nat):PSp:=fun xs K=>match xs with
 | [.agg [.isl (.rows .i64 CS) .none,.isl (.bools DS) .none],.isl (.ints .i64 o) .none,.isl (.ints .i64 used) .none,.int .i64 x]=>VC (CS=s.cs∧DS=s.ds∧o.length<n∧ahG c ls sum s o used x)∧K (.bp (chs s o used x))
 |_=>False
theorem aiT (c:Int) (ls:List (List Int)) (sum:Int) (s:St):∀n,POK Tryz.prog 136 (ahT c ls sum s n):=by
 intro n;induction n with
 |zero=>
  intro xs K hk;unfold ahT at hk;split at hk
  ·obtain⟨⟨_,_,h,_⟩,_⟩:=hk;omega
  ·exact hk.elim
 |succ n ih=>
  intro xs K hk;unfold ahT at hk;split at hk
  ·rename_i CS DS o used x
   obtain⟨⟨rfl,rfl,hn,h⟩,hk⟩:=hk;refine⟨_,hk,?_⟩;have hC:aW Tryz.prog (aA 95 (aB Vv) (aA 136 (aB (ahT c ls sum s n)) noC)):=aj (au adP) (aj (au ih) aD);have hb:=h.bd;have hcl:=hb.cl;have hlen:=h.len;have hx:=h.x;cases o with
   |nil=>
    refine av (md:=1) (rf:=[]) mixed ak hC Tryz.func136 (by rfl) (by rfl) (by rfl) ?_
    repeat'((conv=>whnf);first|(intro hq;(try simp only[vw]at hq);try first|exact absurd hq (by decide)|exfalso;omega)|apply aI|with_reducible exact vM rfl|exact⟨⟩|apply nM|apply fM)
    all_goals((try apply vM);(try simp only[vq]at*);try omega)
    all_goals first|exact Sup.of rfl|skip
   |cons y r=>
    have hy:=h.rng y (List.mem_cons_self ..);have hys:=hb.at hy;have hA:=(hb.asc _ hys.1).1;have k16:(s.cs.getD y.toNat []).length≤16:=Ap hA;have hr:=hA.rng;refine av (md:=1) (rf:=[]) mixed ak hC Tryz.func136 (by rfl) (by rfl) (by rfl) ?_
    repeat'((conv=>whnf);first|(intro hq;(try simp only[vw]at hq);try first|exact absurd hq (by decide)|exfalso;omega)|apply aI|with_reducible exact vM rfl|exact⟨⟩|apply nM|apply fM)
    all_goals((try apply vM);(try simp only[vq]at*);try omega)
    all_goals(try first|exact hy.1|(show y<(s.cs.length:Int);omega)|(show y.toNat+1≤s.cs.length;omega))
    obtain⟨L,hL⟩:∃L,s.cs.getD y.toNat []=L:=⟨_,rfl⟩;have hLd:s.cd y.toNat=L:=hL;show bI (.isl (.ints .i64 (s.cs.getD y.toNat [])) .none) _;rw[hL];conv=>whnf
    have hlr:((y::r).length:Int)=r.length+1:=by simp
    have hln:(y::r).length=r.length+1:=rfl;have hch:∀z∈L,ahG c ls sum s r (used++[z]) (x-z):=fun z hz=>by
     have:=hr z (by rw[hLd];exact hz)
     refine⟨hb,fun w hw=>h.rng w (List.mem_cons_of_mem _ hw),?_,?_⟩
     ·rw[afu,ajI];omega
     ·omega
    refine aM (X:=Nat) (fun i=>i≤L.length∧∀z∈L.take i,z∈used∨chs s r (used++[z]) (x-z)=false) (fun i=>[(10,.int .i64 i)]) (fun i=>[]) (fun i=>L.length-i) 0 ⟨aK,mixed,ak,hC,aQ⟩ (by rfl) ⟨by omega,by simp⟩ ?_ ?_
    ·repeat'((conv=>whnf);first|intro _|apply aI|with_reducible exact vM rfl|exact⟨⟩|apply nM|apply fM)
     all_goals((try apply vM);(try simp only[vq]at*);try omega)
    intro i ⟨hi,hok⟩;rw[hL]at k16;by_cases hlt:i<L.length
    ·have hz:=bL hlt
     have hzr:=hr (L.getD i 0) (by rw[hLd];exact hz)
     have tk:agH (r.length+1-agt 1) (agI (agt 1) (y::r))=r:=by
      show agH (r.length+1-1) (agI 1 (y::r))=r;simp
     have hnx:∀(hx':L.getD i 0∈used∨chs s r (used++[L.getD i 0]) (x-L.getD i 0)=false),∀z∈L.take (i+1),z∈used∨chs s r (used++[z]) (x-z)=false:=fun hx' z hz=>by
      rw[dF hlt]at hz;rcases List.mem_append.1 hz with hz|hz
      ·exact hok z hz
      ·rw[List.mem_singleton]at hz;subst hz;exact hx'
     repeat'((conv=>whnf);first|(intro hq;(try simp only[vw]at hq);try first|exact absurd hq (by decide)|exfalso;omega)|apply aI|with_reducible exact vM rfl|exact⟨⟩|apply nM|apply fM)
     all_goals((try apply vM);(try simp only[vq]at*);try omega)
     all_goals(try rw[tk]at*)
     all_goals(try rw[ajG]at*)
     all_goals(try simp only[afu,ajI])
     all_goals(try first|omega|exact⟨by omega,hch _ hz⟩)
     ·exact .inl trivial
     ·rw[aiS (by rw[hLd];exact hz) ‹_› hq];exact dK true
     ·refine⟨i+1,[],⟨⟨by omega,hnx (.inr hq)⟩,by omega⟩,?_⟩
      repeat'((conv=>whnf);first|intro _|apply aI|with_reducible exact vM rfl|exact⟨⟩|apply nM|apply fM)
      all_goals((try apply vM);(try simp only[vq]at*);try omega)
     ·refine⟨i+1,[],⟨⟨by omega,hnx (.inl hq)⟩,by omega⟩,?_⟩
      repeat'((conv=>whnf);first|intro _|apply aI|with_reducible exact vM rfl|exact⟨⟩|apply nM|apply fM)
      all_goals((try apply vM);(try simp only[vq]at*);try omega)
    have e:i=L.length:=by omega
    subst e;rw[af5]at hok;rw[aiN (by rw[hLd];exact hok)]
    repeat'((conv=>whnf);first|(intro hq;(try simp only[vw]at hq);try first|exact absurd hq (by decide)|exfalso;omega)|apply aI|with_reducible exact vM rfl|exact⟨⟩|apply nM|apply fM)
    all_goals((try apply vM);(try simp only[vq]at*);try omega)
    all_goals first|exact dK false|skip
  ·exact hk.elim
def aiv:PSp:=fun xs K=>match xs with
 | [.agg [.isl (.rows .i64 CS) .none,.isl (.bools DS) .none],.isl (.ints .i64 o) .none,.isl (.ints .i64 used) .none,.int .i64 x]=>VC (∃c ls sum,ahG c ls sum ⟨CS,DS⟩ o used x)∧K (.bp (chs ⟨CS,DS⟩ o used x))
 |_=>False
theorem aiU:POK Tryz.prog 136 aiv:=by
 intro xs K hk;unfold aiv at hk;split at hk
 ·rename_i CS DS o used x
  obtain⟨⟨c,ls,sum,h⟩,hk⟩:=hk;exact aiT c ls sum ⟨CS,DS⟩ (o.length+1) _ _ ⟨⟨rfl,rfl,by omega,h⟩,hk⟩
 ·exact hk.elim
structure ah0 (c:Int) (ls:List (List Int)) (sum:Int) (s:St) (k:Int):Prop where
 bd:bO c ls sum s
 k:0≤k∧k<ls.length
def ah1:PSp:=fun xs K=>match xs with
 | [.agg [.int .i64 c,.isl (.rows .i64 ls) .none,.int .i64 sum,.isl (.ints .i64 gv) .none],.agg [.isl (.rows .i64 CS) .none,.isl (.bools DS) .none],.int .i64 k,.int .i64 b]=>VC (ah0 c ls sum ⟨CS,DS⟩ k)∧K (.isl (.ints .i64 (opn ⟨CS,DS⟩ (ls.getD k.toNat []) b)) .none)
 |_=>False
theorem aiV:POK Tryz.prog 96 ah1:=by
 intro xs K hk;unfold ah1 at hk;split at hk
 ·exact⟨_,hk.2,air _ _ _ _ ⟨_,_⟩ hk.1.get.bd _ _ hk.1.get.k⟩
 ·exact hk.elim
def ah2:PSp:=fun xs K=>match xs with
 | [.agg [.int .i64 c,.isl (.rows .i64 ls) .none,.int .i64 sum,.isl (.ints .i64 gv) .none],.agg [.isl (.rows .i64 CS) .none,.isl (.bools DS) .none],.int .i64 k]=>VC (ah0 c ls sum ⟨CS,DS⟩ k)∧K (.int .i64 (rst ⟨CS,DS⟩ sum (ls.getD k.toNat [])))
 |_=>False
theorem aiW:POK Tryz.prog 97 ah2:=by
 intro xs K hk;unfold ah2 at hk;split at hk
 ·exact⟨_,hk.2,ais _ _ _ _ ⟨_,_⟩ hk.1.get.bd _ hk.1.get.k⟩
 ·exact hk.elim
noncomputable def ajB:CPT:=aA 95 (aB Vv) (aA 96 (aB ah1) (aA 97 (aB ah2) (aA 135 (aB ait) (aA 136 (aB aiv) noC))))
theorem dw:aW Tryz.prog ajB:=aj (au adP) (aj (au aiV) (aj (au aiW) (aj (au ajh) (aj (au aiU) aD))))
theorem aiw (c:Int) (ls:List (List Int)) (sum:Int) (gv:List Int) (s:St) (h:bO c ls sum s) (r:ByteArray) (y x k:Int) (hd:l9 c ls r y x k):
 aF Tryz.prog 75 [pzV c ls sum gv,stV s,ddV r y x k] (.bp (okJ (aP r).toNat s sum (ls.getD k.toNat []) y x)):=by
 have hc:=h.c1;have hy:=hd.y;have hx:=hd.x;have hxs:=h.at hy;have hA:=(h.asc _ hxs.1).1;have k16:(s.cs.getD y.toNat []).length≤16:=Ap hA;have hcl:=h.cl;have hdl:=h.dl;have hsm:=h.sm;obtain⟨rfl,hg⟩|⟨rfl,hg⟩|⟨rfl,hg⟩|⟨rfl,hg⟩|⟨rfl,hg⟩|hg:=l8 r
 ·have hk:0≤k∧k<ls.length:=by
   have:=hd.k;rw[hg]at this;omega
  have hln:=h.ln k.toNat (by omega)
  have hll:=hln.len;have hb:=Fh h hln.rng (ls.getD k.toNat []).length (aea _);rw[af5]at hb;have hR:ah0 c ls sum s k:=⟨h,hk⟩;have hol:(opn s (ls.getD k.toNat []) y).length≤16:=afW (agM _ _) hll;have hor:∀z∈opn s (ls.getD k.toNat []) y,0≤z∧z<c:=fun z hz=>hln.rng z (Jv hz);have hB:∃c ls sum,ahZ c ls sum ⟨s.cs,s.ds⟩ (opn s (ls.getD k.toNat []) y) (rst s sum (ls.getD k.toNat [])-x):=⟨c,ls,sum,h,hor,hol,by omega,by omega⟩
  have hC:∃c ls sum,ahG c ls sum ⟨s.cs,s.ds⟩ (opn s (ls.getD k.toNat []) y) [x] (rst s sum (ls.getD k.toNat [])-x):=⟨c,ls,sum,h,hor,by rw[ajI];omega,by omega,by omega⟩
  rw[hg];have hs:(⟨s.cs,s.ds⟩:St)=s:=rfl;have hok:okJ (agt 1) s sum (ls.getD k.toNat []) y x=(!s.dc y.toNat&&(decide (x∈s.cd y.toNat)&&xO s sum (ls.getD k.toNat []) y x)):=rfl;rw[hok];by_cases hdc:s.ds.getD y.toNat false=true
  ·rw[show s.dc y.toNat=true from hdc,aeW,agn]
   refine av (md:=1) (rf:=[]) mixed ak dw Tryz.func75 (by rfl) (by rfl) (by rfl) ?_
   repeat'((conv=>whnf);first|(intro hq;(try simp only[vw]at hq);try first|exact absurd hq (by decide)|exfalso;omega)|apply aI|with_reducible exact vM rfl|exact⟨⟩|apply nM|apply fM)
   all_goals((try apply vM);(try simp only[vq]at*);try omega)
   all_goals first|omega|exact dK false|(exfalso;simp_all;done)|(rw[show(⟨s.cs,s.ds⟩:St)=s from rfl];first|omega|exact hB|exact hC)|skip
  have hdc:s.ds.getD y.toNat false=false:=by simpa using hdc
  by_cases hm:x∈s.cs.getD y.toNat []
  case neg=>
   rw[show decide (x∈s.cd y.toNat)=false from decide_eq_false hm,agn,agR];refine av (md:=1) (rf:=[]) mixed ak dw Tryz.func75 (by rfl) (by rfl) (by rfl) ?_
   repeat'((conv=>whnf);first|(intro hq;(try simp only[vw]at hq);try first|exact absurd hq (by decide)|exfalso;omega)|apply aI|with_reducible exact vM rfl|exact⟨⟩|apply nM|apply fM)
   all_goals((try apply vM);(try simp only[vq]at*);try omega)
   all_goals first|omega|exact dK false|(exfalso;simp_all;done)|(rw[show(⟨s.cs,s.ds⟩:St)=s from rfl];first|omega|exact hB|exact hC)|skip
  rw[show s.dc y.toNat=false from hdc,show decide (x∈s.cd y.toNat)=true from decide_eq_true hm,aeV,agO,agO];refine av (md:=1) (rf:=[]) mixed ak dw Tryz.func75 (by rfl) (by rfl) (by rfl) ?_
  repeat'((conv=>whnf);first|(intro hq;(try simp only[vw]at hq);try first|exact absurd hq (by decide)|exfalso;omega)|apply aI|with_reducible exact vM rfl|exact⟨⟩|apply nM|apply fM)
  all_goals((try apply vM);(try simp only[vq]at*);try omega)
  all_goals(try rw[show(⟨s.cs,s.ds⟩:St)=s from rfl])
  all_goals(try rw[show(⟨s.cs,s.ds⟩:St)=s from rfl]at hq)
  all_goals(try first|omega|exact hB|exact hC|(exfalso;exact(‹¬x∈s.cs.getD y.toNat []›) hm)|(exfalso;simp_all;done))
  ·rw[show xO s sum (ls.getD k.toNat []) y x=decide (rst s sum (ls.getD k.toNat [])-x=0) by unfold xO;rw[decide_eq_true (by omega),agO];exact decide_eq_decide.2 (by omega)]
   exact Sup.of rfl
  ·rw[show xO s sum (ls.getD k.toNat []) y x=false by unfold xO;rw[decide_eq_false (by omega),agn]]
   exact dK false
 ·rw[hg]
  have hB:True:=trivial;have hC:True:=trivial;have hs:(⟨s.cs,s.ds⟩:St)=s:=rfl;have hok:okJ (agt 2) s sum (ls.getD k.toNat []) y x=(!s.dc y.toNat&&(decide (x∈s.cd y.toNat)&&xP s y)):=rfl;rw[hok];by_cases hdc:s.ds.getD y.toNat false=true
  ·rw[show s.dc y.toNat=true from hdc,aeW,agn]
   refine av (md:=1) (rf:=[]) mixed ak dw Tryz.func75 (by rfl) (by rfl) (by rfl) ?_
   repeat'((conv=>whnf);first|(intro hq;(try simp only[vw]at hq);try first|exact absurd hq (by decide)|exfalso;omega)|apply aI|with_reducible exact vM rfl|exact⟨⟩|apply nM|apply fM)
   all_goals((try apply vM);(try simp only[vq]at*);try omega)
   all_goals first|omega|exact dK false|(exfalso;simp_all;done)|(rw[show(⟨s.cs,s.ds⟩:St)=s from rfl];first|omega|exact hB|exact hC)|skip
  have hdc:s.ds.getD y.toNat false=false:=by simpa using hdc
  by_cases hm:x∈s.cs.getD y.toNat []
  case neg=>
   rw[show decide (x∈s.cd y.toNat)=false from decide_eq_false hm,agn,agR];refine av (md:=1) (rf:=[]) mixed ak dw Tryz.func75 (by rfl) (by rfl) (by rfl) ?_
   repeat'((conv=>whnf);first|(intro hq;(try simp only[vw]at hq);try first|exact absurd hq (by decide)|exfalso;omega)|apply aI|with_reducible exact vM rfl|exact⟨⟩|apply nM|apply fM)
   all_goals((try apply vM);(try simp only[vq]at*);try omega)
   all_goals first|omega|exact dK false|(exfalso;simp_all;done)|(rw[show(⟨s.cs,s.ds⟩:St)=s from rfl];first|omega|exact hB|exact hC)|skip
  rw[show s.dc y.toNat=false from hdc,show decide (x∈s.cd y.toNat)=true from decide_eq_true hm,aeV,agO,agO];refine av (md:=1) (rf:=[]) mixed ak dw Tryz.func75 (by rfl) (by rfl) (by rfl) ?_
  repeat'((conv=>whnf);first|(intro hq;(try simp only[vw]at hq);try first|exact absurd hq (by decide)|exfalso;omega)|apply aI|with_reducible exact vM rfl|exact⟨⟩|apply nM|apply fM)
  all_goals((try apply vM);(try simp only[vq]at*);try omega)
  all_goals(try rw[show(⟨s.cs,s.ds⟩:St)=s from rfl])
  all_goals(try rw[show(⟨s.cs,s.ds⟩:St)=s from rfl]at hq)
  all_goals(try first|omega|exact hB|exact hC|(exfalso;exact(‹¬x∈s.cs.getD y.toNat []›) hm)|(exfalso;simp_all;done))
  ·rw[show xP s y=decide (((s.cs.getD y.toNat []).length:Int)=1) by unfold xP St.cd;exact decide_eq_decide.2 (by omega)]
   exact Sup.of rfl
 ·rw[hg]
  have hs:(⟨s.cs,s.ds⟩:St)=s:=rfl;have hB:True:=trivial;have hC:True:=trivial;have hok:okJ (agt 3) s sum (ls.getD k.toNat []) y x=(!s.dc y.toNat&&(decide (x∈s.cd y.toNat)&&qd s y x)):=rfl;rw[hok];by_cases hdc:s.ds.getD y.toNat false=true
  ·rw[show s.dc y.toNat=true from hdc,aeW,agn]
   refine av (md:=1) (rf:=[]) mixed ak dw Tryz.func75 (by rfl) (by rfl) (by rfl) ?_
   repeat'((conv=>whnf);first|(intro hq;(try simp only[vw]at hq);try first|exact absurd hq (by decide)|exfalso;omega)|apply aI|with_reducible exact vM rfl|exact⟨⟩|apply nM|apply fM)
   all_goals((try apply vM);(try simp only[vq]at*);try omega)
   all_goals first|omega|exact dK false|(exfalso;simp_all;done)|(rw[show(⟨s.cs,s.ds⟩:St)=s from rfl];first|omega|exact hB|exact hC)|skip
  have hdc:s.ds.getD y.toNat false=false:=by simpa using hdc
  by_cases hm:x∈s.cs.getD y.toNat []
  case neg=>
   rw[show decide (x∈s.cd y.toNat)=false from decide_eq_false hm,agn,agR];refine av (md:=1) (rf:=[]) mixed ak dw Tryz.func75 (by rfl) (by rfl) (by rfl) ?_
   repeat'((conv=>whnf);first|(intro hq;(try simp only[vw]at hq);try first|exact absurd hq (by decide)|exfalso;omega)|apply aI|with_reducible exact vM rfl|exact⟨⟩|apply nM|apply fM)
   all_goals((try apply vM);(try simp only[vq]at*);try omega)
   all_goals first|omega|exact dK false|(exfalso;simp_all;done)|(rw[show(⟨s.cs,s.ds⟩:St)=s from rfl];first|omega|exact hB|exact hC)|skip
  rw[show s.dc y.toNat=false from hdc,show decide (x∈s.cd y.toNat)=true from decide_eq_true hm,aeV,agO,agO];refine av (md:=1) (rf:=[]) mixed ak dw Tryz.func75 (by rfl) (by rfl) (by rfl) ?_
  repeat'((conv=>whnf);first|(intro hq;(try simp only[vw]at hq);try first|exact absurd hq (by decide)|exfalso;omega)|apply aI|with_reducible exact vM rfl|exact⟨⟩|apply nM|apply fM)
  all_goals((try apply vM);(try simp only[vq]at*);try omega)
  all_goals(try rw[show(⟨s.cs,s.ds⟩:St)=s from rfl])
  all_goals(try rw[show(⟨s.cs,s.ds⟩:St)=s from rfl]at hq)
  all_goals(try first|omega|exact hB|exact hC|(exfalso;exact(‹¬x∈s.cs.getD y.toNat []›) hm)|(exfalso;simp_all;done))
  conv=>whnf
  refine aM (X:=Nat) (fun i=>i≤s.cs.length∧∀j,j<i→(decide ((j:Int)=y)||!decide (x∈s.cd j))=true) (fun i=>[(7,.int .i64 i)]) (fun i=>[]) (fun i=>s.cs.length-i) 0 ⟨aK,mixed,ak,dw,aQ⟩ (by rfl) ⟨by omega,fun j hj=>by omega⟩ ?_ ?_
  ·repeat'((conv=>whnf);first|intro _|apply aI|with_reducible exact vM rfl|exact⟨⟩|apply nM|apply fM)
   all_goals((try apply vM);(try simp only[vq]at*);try omega)
  intro i ⟨hi,hall⟩;by_cases hlt:i<s.cs.length
  ·have k17:(s.cs.getD i []).length≤16:=Ap (h.asc i hlt).1
   have hno:x∈s.cs.getD i []→(i:Int)≠y→qd s y x=false:=fun h1 h2=>by
    unfold qd;rw[List.all_eq_false];exact⟨i,afY.2 hlt,by rw[decide_eq_false h2,show decide (x∈s.cd i)=true from decide_eq_true h1];decide⟩
   have hnx:((i:Int)=y∨x∉s.cs.getD i [])→∀j,j<i+1→(decide ((j:Int)=y)||!decide (x∈s.cd j))=true:=fun h1 j hj=>by
    by_cases e:j=i
    ·subst e
     rcases h1 with h1|h1
     ·rw[decide_eq_true h1];rfl
     ·rw[show decide (x∈s.cd j)=false from decide_eq_false h1];simp
    ·exact hall j (by omega)
   repeat'((conv=>whnf);first|(intro hq;(try simp only[vw]at hq);try first|exact absurd hq (by decide)|exfalso;omega)|apply aI|with_reducible exact vM rfl|exact⟨⟩|apply nM|apply fM)
   all_goals((try apply vM);(try simp only[vq]at*);try omega)
   all_goals(try omega)
   ·rw[hno (by assumption) (by assumption)];exact dK false
   ·refine⟨i+1,[],⟨⟨by omega,hnx (.inr (by assumption))⟩,by omega⟩,?_⟩
    repeat'((conv=>whnf);first|intro _|apply aI|with_reducible exact vM rfl|exact⟨⟩|apply nM|apply fM)
    all_goals((try apply vM);(try simp only[vq]at*);try omega)
   ·refine⟨i+1,[],⟨⟨by omega,hnx (.inl (by omega))⟩,by omega⟩,?_⟩
    repeat'((conv=>whnf);first|intro _|apply aI|with_reducible exact vM rfl|exact⟨⟩|apply nM|apply fM)
    all_goals((try apply vM);(try simp only[vq]at*);try omega)
  have e:i=s.cs.length:=by omega
  subst e;have ht:qd s y x=true:=by
   unfold qd;rw[List.all_eq_true];exact fun j hj=>hall j (afY.1 hj)
  rw[ht]
  repeat'((conv=>whnf);first|(intro hq;(try simp only[vw]at hq);try first|exact absurd hq (by decide)|exfalso;omega)|apply aI|with_reducible exact vM rfl|exact⟨⟩|apply nM|apply fM)
  all_goals((try apply vM);(try simp only[vq]at*);try omega)
  all_goals first|omega|exact dK true|skip
 ·have hk:0≤k∧k<ls.length:=by
   have:=hd.k;rw[hg]at this;omega
  have hln:=h.ln k.toNat (by omega)
  have hll:=hln.len;have hb:=Fh h hln.rng (ls.getD k.toNat []).length (aea _);rw[af5]at hb;have hR:ah0 c ls sum s k:=⟨h,hk⟩;have hol:(opn s (ls.getD k.toNat []) y).length≤16:=afW (agM _ _) hll;have hor:∀z∈opn s (ls.getD k.toNat []) y,0≤z∧z<c:=fun z hz=>hln.rng z (Jv hz);have hB:∃c ls sum,ahZ c ls sum ⟨s.cs,s.ds⟩ (opn s (ls.getD k.toNat []) y) (rst s sum (ls.getD k.toNat [])-x):=⟨c,ls,sum,h,hor,hol,by omega,by omega⟩
  have hC:∃c ls sum,ahG c ls sum ⟨s.cs,s.ds⟩ (opn s (ls.getD k.toNat []) y) [x] (rst s sum (ls.getD k.toNat [])-x):=⟨c,ls,sum,h,hor,by rw[ajI];omega,by omega,by omega⟩
  rw[hg];have hs:(⟨s.cs,s.ds⟩:St)=s:=rfl;have hok:okJ (agt 4) s sum (ls.getD k.toNat []) y x=(!s.dc y.toNat&&(decide (x∈s.cd y.toNat)&&xS s sum (ls.getD k.toNat []) y x)):=rfl;rw[hok];by_cases hdc:s.ds.getD y.toNat false=true
  ·rw[show s.dc y.toNat=true from hdc,aeW,agn]
   refine av (md:=1) (rf:=[]) mixed ak dw Tryz.func75 (by rfl) (by rfl) (by rfl) ?_
   repeat'((conv=>whnf);first|(intro hq;(try simp only[vw]at hq);try first|exact absurd hq (by decide)|exfalso;omega)|apply aI|with_reducible exact vM rfl|exact⟨⟩|apply nM|apply fM)
   all_goals((try apply vM);(try simp only[vq]at*);try omega)
   all_goals first|omega|exact dK false|(exfalso;simp_all;done)|(rw[show(⟨s.cs,s.ds⟩:St)=s from rfl];first|omega|exact hB|exact hC)|skip
  have hdc:s.ds.getD y.toNat false=false:=by simpa using hdc
  by_cases hm:x∈s.cs.getD y.toNat []
  case neg=>
   rw[show decide (x∈s.cd y.toNat)=false from decide_eq_false hm,agn,agR];refine av (md:=1) (rf:=[]) mixed ak dw Tryz.func75 (by rfl) (by rfl) (by rfl) ?_
   repeat'((conv=>whnf);first|(intro hq;(try simp only[vw]at hq);try first|exact absurd hq (by decide)|exfalso;omega)|apply aI|with_reducible exact vM rfl|exact⟨⟩|apply nM|apply fM)
   all_goals((try apply vM);(try simp only[vq]at*);try omega)
   all_goals first|omega|exact dK false|(exfalso;simp_all;done)|(rw[show(⟨s.cs,s.ds⟩:St)=s from rfl];first|omega|exact hB|exact hC)|skip
  rw[show s.dc y.toNat=false from hdc,show decide (x∈s.cd y.toNat)=true from decide_eq_true hm,aeV,agO,agO];refine av (md:=1) (rf:=[]) mixed ak dw Tryz.func75 (by rfl) (by rfl) (by rfl) ?_
  repeat'((conv=>whnf);first|(intro hq;(try simp only[vw]at hq);try first|exact absurd hq (by decide)|exfalso;omega)|apply aI|with_reducible exact vM rfl|exact⟨⟩|apply nM|apply fM)
  all_goals((try apply vM);(try simp only[vq]at*);try omega)
  all_goals(try rw[show(⟨s.cs,s.ds⟩:St)=s from rfl])
  all_goals(try rw[show(⟨s.cs,s.ds⟩:St)=s from rfl]at hq)
  all_goals(try first|omega|exact hB|exact hC|(exfalso;exact(‹¬x∈s.cs.getD y.toNat []›) hm)|(exfalso;simp_all;done))
  ·exact⟨c,ls,sum,h,hor,hol,by omega,by omega⟩
  ·rw[ajg];exact Sup.of rfl
 ·have hk:0≤k∧k<ls.length:=by
   have:=hd.k;rw[hg]at this;omega
  have hln:=h.ln k.toNat (by omega)
  have hll:=hln.len;have hb:=Fh h hln.rng (ls.getD k.toNat []).length (aea _);rw[af5]at hb;have hR:ah0 c ls sum s k:=⟨h,hk⟩;have hol:(opn s (ls.getD k.toNat []) y).length≤16:=afW (agM _ _) hll;have hor:∀z∈opn s (ls.getD k.toNat []) y,0≤z∧z<c:=fun z hz=>hln.rng z (Jv hz);have hB:∃c ls sum,ahZ c ls sum ⟨s.cs,s.ds⟩ (opn s (ls.getD k.toNat []) y) (rst s sum (ls.getD k.toNat [])-x):=⟨c,ls,sum,h,hor,hol,by omega,by omega⟩
  have hC:∃c ls sum,ahG c ls sum ⟨s.cs,s.ds⟩ (opn s (ls.getD k.toNat []) y) [x] (rst s sum (ls.getD k.toNat [])-x):=⟨c,ls,sum,h,hor,by rw[ajI];omega,by omega,by omega⟩
  rw[hg];have hs:(⟨s.cs,s.ds⟩:St)=s:=rfl;have hok:okJ (agt 5) s sum (ls.getD k.toNat []) y x=(!s.dc y.toNat&&(decide (x∈s.cd y.toNat)&&xU s sum (ls.getD k.toNat []) y x)):=rfl;rw[hok];by_cases hdc:s.ds.getD y.toNat false=true
  ·rw[show s.dc y.toNat=true from hdc,aeW,agn]
   refine av (md:=1) (rf:=[]) mixed ak dw Tryz.func75 (by rfl) (by rfl) (by rfl) ?_
   repeat'((conv=>whnf);first|(intro hq;(try simp only[vw]at hq);try first|exact absurd hq (by decide)|exfalso;omega)|apply aI|with_reducible exact vM rfl|exact⟨⟩|apply nM|apply fM)
   all_goals((try apply vM);(try simp only[vq]at*);try omega)
   all_goals first|omega|exact dK false|(exfalso;simp_all;done)|(rw[show(⟨s.cs,s.ds⟩:St)=s from rfl];first|omega|exact hB|exact hC)|skip
  have hdc:s.ds.getD y.toNat false=false:=by simpa using hdc
  by_cases hm:x∈s.cs.getD y.toNat []
  case neg=>
   rw[show decide (x∈s.cd y.toNat)=false from decide_eq_false hm,agn,agR];refine av (md:=1) (rf:=[]) mixed ak dw Tryz.func75 (by rfl) (by rfl) (by rfl) ?_
   repeat'((conv=>whnf);first|(intro hq;(try simp only[vw]at hq);try first|exact absurd hq (by decide)|exfalso;omega)|apply aI|with_reducible exact vM rfl|exact⟨⟩|apply nM|apply fM)
   all_goals((try apply vM);(try simp only[vq]at*);try omega)
   all_goals first|omega|exact dK false|(exfalso;simp_all;done)|(rw[show(⟨s.cs,s.ds⟩:St)=s from rfl];first|omega|exact hB|exact hC)|skip
  rw[show s.dc y.toNat=false from hdc,show decide (x∈s.cd y.toNat)=true from decide_eq_true hm,aeV,agO,agO];refine av (md:=1) (rf:=[]) mixed ak dw Tryz.func75 (by rfl) (by rfl) (by rfl) ?_
  repeat'((conv=>whnf);first|(intro hq;(try simp only[vw]at hq);try first|exact absurd hq (by decide)|exfalso;omega)|apply aI|with_reducible exact vM rfl|exact⟨⟩|apply nM|apply fM)
  all_goals((try apply vM);(try simp only[vq]at*);try omega)
  all_goals(try rw[show(⟨s.cs,s.ds⟩:St)=s from rfl])
  all_goals(try rw[show(⟨s.cs,s.ds⟩:St)=s from rfl]at hq)
  all_goals(try first|omega|exact hB|exact hC|(exfalso;exact(‹¬x∈s.cs.getD y.toNat []›) hm)|(exfalso;simp_all;done))
  ·exact⟨c,ls,sum,h,hor,by rw[ajI];omega,by omega,by omega⟩
  ·rw[show xU s sum (ls.getD k.toNat []) y x=!chs s (opn s (ls.getD k.toNat []) y) [x] (rst s sum (ls.getD k.toNat [])-x) by unfold xU;rw[decide_eq_true (by omega),agO]]
   exact Sup.of rfl
  ·rw[show xU s sum (ls.getD k.toNat []) y x=false by unfold xU;rw[decide_eq_false (by omega),agn]]
   exact dK false
 have:=hd.g;omega
def ah3:PSp:=fun xs K=>match xs with
 | [.agg [.int .i64 c,.isl (.rows .i64 ls) .none,.int .i64 sum,.isl (.ints .i64 gv) .none],.agg [.isl (.rows .i64 CS) .none,.isl (.bools DS) .none],.agg [.str r,.int .i64 y,.int .i64 x,.int .i64 k]]=>
  VC (bO c ls sum ⟨CS,DS⟩∧l9 c ls r y x k)∧K (.bp (okJ (aP r).toNat ⟨CS,DS⟩ sum (ls.getD k.toNat []) y x))
 |_=>False
theorem aiX:POK Tryz.prog 75 ah3:=by
 intro xs K hk;unfold ah3 at hk;split at hk
 ·exact⟨_,hk.2,aiw _ _ _ _ ⟨_,_⟩ hk.1.get.1 _ _ _ _ hk.1.get.2⟩
 ·exact hk.elim
theorem ah4 (l:List Int) (x:Int) (hl:l.length≤1000000):aF Tryz.prog 138 [.isl (.ints .i64 l) .none,.int .i64 x] (.isl (.ints .i64 (dQ l x)) .none):=by
 have ha:∀i,i<l.length→dQ (l.take (i+1)) x=dQ (l.take i) x++if l.getD i 0≠x then [l.getD i 0]else []:=fun i hi=>by
  rw[dF hi];unfold dQ;rw[ag2];congr 1;by_cases e:l.getD i 0=x
  ·rw[if_neg (fun h=>h e)];simp only[ag3,decide_eq_true e,aeW,ag4];rfl
  ·rw[if_pos e];simp only[ag3,decide_eq_false e,aeV,ag4];rfl
 have hb:∀i,i≤l.length→(dQ (l.take i) x).length≤i:=fun i hi=>afW (agM _ _) (by rw[ae0];omega)
 refine av (md:=1) (rf:=[]) mixed ak aD Tryz.func138 (by rfl) (by rfl) (by rfl) ?_
 repeat'((conv=>whnf);first|intro _|apply aI|with_reducible exact vM rfl|exact⟨⟩|apply nM|apply fM)
 all_goals((try apply vM);(try simp only[vq]at*);try omega)
 conv=>whnf
 refine aM (X:=Nat) (fun i=>i≤l.length) (fun i=>[(6,.int .i64 i),(5,.isl (.ints .i64 (dQ (l.take i) x)) (.own 3))]) (fun i=>[(3,.tok 1 (dQ (l.take i) x).length)]) (fun i=>l.length-i) 0 ⟨aK,mixed,ak,aD,aQ⟩ (by rfl) (by omega) ?_ ?_
 ·repeat'((conv=>whnf);first|intro _|apply aI|with_reducible exact vM rfl|exact⟨⟩|apply nM|apply fM)
  all_goals((try apply vM);(try simp only[vq]at*);try omega)
  all_goals rfl
 intro i hi;by_cases hlt:i<l.length
 ·have hx:=ha i hlt
  have hbi:=hb i (by omega)
  repeat'((conv=>whnf);first|(intro hq;(try simp only[vw]at hq);try first|exact absurd hq (by decide)|exfalso;omega)|apply aI|with_reducible exact vM rfl|exact⟨⟩|apply nM|apply fM)
  all_goals((try apply vM);(try simp only[vq]at*);try omega)
  all_goals(try first|omega|(rw[afu,ajI];omega))
  ·rw[if_pos hq]at hx
   refine⟨i+1,[],⟨by omega,by omega⟩,?_⟩
   rw[hx,afu]
   repeat'((conv=>whnf);first|intro _|apply aI|with_reducible exact vM rfl|exact⟨⟩|apply nM|apply fM)
   all_goals((try apply vM);(try simp only[vq]at*);try omega)
  ·rw[if_neg hq,agN]at hx
   refine⟨i+1,[],⟨by omega,by omega⟩,?_⟩
   rw[hx]
   repeat'((conv=>whnf);first|intro _|apply aI|with_reducible exact vM rfl|exact⟨⟩|apply nM|apply fM)
   all_goals((try apply vM);(try simp only[vq]at*);try omega)
 ·have:i=l.length:=by omega
  subst this;rw[af5]
  repeat'((conv=>whnf);first|(intro hq;(try simp only[vw]at hq);try first|exact absurd hq (by decide)|exfalso;omega)|apply aI|with_reducible exact vM rfl|exact⟨⟩|apply nM|apply fM)
  all_goals((try apply vM);(try simp only[vq]at*);try omega)
  all_goals first|omega|exact Sup.of rfl
def ahv:PSp:=fun xs K=>match xs with
 | [.isl (.ints .i64 l) .none,.int .i64 x]=>VC (l.length≤1000000)∧K (.isl (.ints .i64 (dQ l x)) .none)
 |_=>False
theorem aix:POK Tryz.prog 138 ahv:=by
 intro xs K h;unfold ahv at h;split at h
 ·exact⟨_,h.2,ah4 _ _ h.1.get⟩
 ·exact h.elim
def frK (gv:List Int) (k:Nat):List Int:=((ael k).map fun i:Nat=>(i:Int)+1).filter fun y=>!decide (y∈gv)
theorem aiY (gv:List Int) (k:Nat):frK gv (k+1)=frK gv k++if(k:Int)+1∈gv then []else [(k:Int)+1]:=by
 unfold frK;rw[List.range_succ,af4,ag2];congr 1;by_cases e:(k:Int)+1∈gv
 ·rw[if_pos e];simp only[aen,ajJ,ag3,decide_eq_true e];rfl
 ·rw[if_neg e];simp only[aen,ajJ,ag3,decide_eq_false e];rfl
theorem aic (gv:List Int) (k:Nat):(frK gv k).length≤k:=afW (agM _ _) (by simp)
noncomputable def ajC:CPT:=aA 95 (aB Vv) noC
theorem ahH:aW Tryz.prog ajC:=aj (au adP) aD
theorem ah8 (c:Int) (ls:List (List Int)) (sum:Int) (gv:List Int) (h:dR c ls sum gv):aF Tryz.prog 25 [pzV c ls sum gv] (stV (bgn c gv)):=by
 have hc:=h.c1;have hg:=h.gl;refine av (md:=1) (rf:=[]) mixed ak ahH Tryz.func25 (by rfl) (by rfl) (by rfl) ?_
 repeat'((conv=>whnf);first|intro _|apply aI|with_reducible exact vM rfl|exact⟨⟩|apply nM|apply fM)
 all_goals((try apply vM);(try simp only[vq]at*);try omega)
 conv=>whnf
 refine aM (X:=Nat) (fun k=>k≤c.toNat) (fun k=>[(4,.int .i64 ((k:Int)+1)),(3,.isl (.ints .i64 (frK gv k)) (.own 5))]) (fun k=>[(5,.tok 1 (frK gv k).length)]) (fun k=>c.toNat-k) 0 ⟨aK,mixed,ak,ahH,aQ⟩ (by rfl) (by omega) ?_ ?_
 ·repeat'((conv=>whnf);first|intro _|apply aI|with_reducible exact vM rfl|exact⟨⟩|apply nM|apply fM)
  all_goals((try apply vM);(try simp only[vq]at*);try omega)
  all_goals rfl
 intro k hk;by_cases hlt:k<c.toNat
 ·have hx:=aiY gv k
  have hl:=aic gv k
  repeat'((conv=>whnf);first|(intro hq;(try simp only[vw]at hq);try first|exact absurd hq (by decide)|exfalso;omega)|apply aI|with_reducible exact vM rfl|exact⟨⟩|apply nM|apply fM)
  all_goals((try apply vM);(try simp only[vq]at*);try omega)
  all_goals(try first|omega|(rw[afu,ajI];omega))
  ·rw[if_neg hq]at hx
   refine⟨k+1,[],⟨by omega,by omega⟩,?_⟩
   rw[hx,afu]
   repeat'((conv=>whnf);first|intro _|apply aI|with_reducible exact vM rfl|exact⟨⟩|apply nM|apply fM)
   all_goals((try apply vM);(try simp only[vq]at*);try omega)
  ·rw[if_pos hq,agN]at hx
   refine⟨k+1,[],⟨by omega,by omega⟩,?_⟩
   rw[hx]
   repeat'((conv=>whnf);first|intro _|apply aI|with_reducible exact vM rfl|exact⟨⟩|apply nM|apply fM)
   all_goals((try apply vM);(try simp only[vq]at*);try omega)
 have e:k=c.toNat:=by omega
 subst e;have hfr:frK gv c.toNat=frL c gv:=rfl;have hfl:(frL c gv).length≤c.toNat:=aic gv c.toNat;rw[hfr]
 repeat'((conv=>whnf);first|(intro hq;(try simp only[vw]at hq);try first|exact absurd hq (by decide)|exfalso;omega)|apply aI|with_reducible exact vM rfl|exact⟨⟩|apply nM|apply fM)
 all_goals((try apply vM);(try simp only[vq]at*);try omega)
 all_goals(try omega)
 conv=>whnf
 refine aM (X:=Nat) (fun i=>i≤gv.length) (fun i=>[(6,.int .i64 i),(3,.isl (.ints .i64 (frL c gv)) .none)]) (fun i=>[(8,.cells (.pv [.isl (.rows .i64 (nK c gv (gv.take i))) (.own 20),.isl (.bools (nL (gv.take i))) (.own 21)]) false),(20,.tok 1 i),(21,.tok 1 i)]) (fun i=>gv.length-i) 0 ⟨aK,mixed,ak,ahH,aQ⟩ (by rfl) (by omega) ?_ ?_
 ·repeat'((conv=>whnf);first|intro _|apply aI|with_reducible exact vM rfl|exact⟨⟩|apply nM|apply fM)
  all_goals((try apply vM);(try simp only[vq]at*);try omega)
  all_goals(try rfl)
 intro i hi;have hbl:(nK c gv (gv.take i)).length=i∧(nL (gv.take i)).length=i:=by
  constructor
  ·unfold nK;rw[af0,ae0];omega
  ·unfold nL;rw[af0,ae0];omega
 by_cases hlt:i<gv.length
 ·have e0:=dF hlt
  have ec:∀q:List Int,(if 0<gv.getD i 0 then [gv.getD i 0]else frL c gv)=q→nK c gv (gv.take (i+1))=nK c gv (gv.take i)++[q]:=fun q hq=>by
   rw[e0,←hq];unfold nK;rw[af4];rfl
  have ed:nL (gv.take (i+1))=nL (gv.take i)++[decide (0<gv.getD i 0)]:=by rw[e0];unfold nL;rw[af4];rfl
  repeat'((conv=>whnf);first|(intro hq;(try simp only[vw]at hq);try first|exact absurd hq (by decide)|exfalso;omega)|apply aI|with_reducible exact vM rfl|exact⟨⟩|apply nM|apply fM)
  all_goals((try apply vM);(try simp only[vq]at*);try omega)
  all_goals(try first|omega|(simp only[afu,ad4,adY];omega))
  ·refine⟨i+1,[],⟨by omega,by omega⟩,?_⟩
   rw[ec _ (if_pos hq),ed]
   repeat'((conv=>whnf);first|intro _|apply aI|with_reducible exact vM rfl|exact⟨⟩|apply nM|apply fM)
   all_goals((try apply vM);(try simp only[vq]at*);try omega)
  ·exact .inl trivial
  ·refine⟨i+1,[],⟨by omega,by omega⟩,?_⟩
   rw[ec _ (if_neg hq),ed]
   repeat'((conv=>whnf);first|intro _|apply aI|with_reducible exact vM rfl|exact⟨⟩|apply nM|apply fM)
   all_goals((try apply vM);(try simp only[vq]at*);try omega)
 have e:i=gv.length:=by omega
 subst e;rw[af5]
 repeat'((conv=>whnf);first|(intro hq;(try simp only[vw]at hq);try first|exact absurd hq (by decide)|exfalso;omega)|apply aI|with_reducible exact vM rfl|exact⟨⟩|apply nM|apply fM)
 all_goals((try apply vM);(try simp only[vq]at*);try omega)
 all_goals first|omega|exact Sup.of rfl|skip
theorem aiy (s:St) (h1:1≤s.cs.length∧s.cs.length≤1000) (h2:1≤s.ds.length∧s.ds.length≤1000) (h3:∀i,i<s.cs.length→(s.cs.getD i []).length≤1000):
 gL Tryz.prog 137 [stV s] [] [.agg [.rsl 0 0 s.cs.length,.rsl 1 0 s.ds.length]] [.cells (.rows .i64 s.cs) false,.cells (.bools s.ds) false]:=by
 refine bG (md:=1) (rf:=[22,27]) mixed ak aD 0 [(20,0),(8,1)] Tryz.func137 (by rfl) (by rfl) (by rfl) ?_
 repeat'((conv=>whnf);first|(intro hq;(try simp only[vw]at hq);try first|exact absurd hq (by decide)|exfalso;omega)|apply aI|with_reducible exact vM rfl|exact⟨⟩|apply nM|apply fM)
 all_goals((try apply vM);(try simp only[vq]at*);try omega)
 all_goals(try omega)
 conv=>whnf
 refine xw (X:=Nat) (fun i=>1≤i∧i≤s.cs.length) (fun i=>[(4,.int .i64 i)]) (fun i=>[(2,.cells (.pv [.rsl 20 0 i,.nils]) false),(20,.cells (.rows .i64 (s.cs.take i)) false)]) (fun i=>s.cs.length-i) s.cs.length ⟨aK,mixed,ak,aD,aQ⟩ (by rfl) ?_ ?_
 ·have:=h3 (agt 0) (show 0<s.cs.length by omega)
  have e1:s.cs.take 1=[s.cs.getD (agt 0) []]:=by
   rw[show agt 0=0 from rfl];cases h:s.cs with
   |nil=>rw[h]at h1;simp at h1
   |cons a r=>rfl
  repeat'((conv=>whnf);first|(intro hq;(try simp only[vw]at hq);try first|exact absurd hq (by decide)|exfalso;omega)|apply aI|with_reducible exact vM rfl|exact⟨⟩|apply nM|apply fM)
  all_goals((try apply vM);(try simp only[vq]at*);try omega)
  all_goals(try first|omega|exact .inl trivial|(rw[ajG];omega))
  refine⟨1,[(6,20)],⟨⟨by omega,by omega⟩,by omega⟩,?_⟩
  rw[e1]
  repeat'((conv=>whnf);first|intro _|apply aI|with_reducible exact vM rfl|exact⟨⟩|apply nM|apply fM)
  all_goals((try apply vM);(try simp only[vq]at*);try omega)
 ·intro i ⟨hi1,hi2⟩
  by_cases hlt:i<s.cs.length
  ·have:=h3 i hlt
   have e1:(s.cs.take i).length=i:=by rw[ae0];omega
   have e2:s.cs.take i++[s.cs.getD i []]=s.cs.take (i+1):=by rw[List.take_add_one,aeo,aev hlt];rfl
   repeat'((conv=>whnf);first|(intro hq;(try simp only[vw]at hq);try first|exact absurd hq (by decide)|exfalso;omega)|apply aI|with_reducible exact vM rfl|exact⟨⟩|apply nM|apply fM)
   all_goals((try apply vM);(try simp only[vq]at*);try omega)
   all_goals(try first|omega|exact .inl trivial|(rw[ajG];omega))
   refine⟨i+1,[(6,20)],⟨⟨by omega,by omega⟩,by omega⟩,?_⟩
   repeat'((conv=>whnf);first|intro _|apply aI|with_reducible exact vM rfl|exact⟨⟩|apply nM|apply fM)
   all_goals((try apply vM);(try simp only[vq]at*);try omega)
   all_goals(try(rw[bP e1,ajG,e2]))
  ·have:i=s.cs.length:=by omega
   subst this;rw[af5]
   repeat'((conv=>whnf);first|(intro hq;(try simp only[vw]at hq);try first|exact absurd hq (by decide)|exfalso;omega)|apply aI|with_reducible exact vM rfl|exact⟨⟩|apply nM|apply fM)
   all_goals((try apply vM);(try simp only[vq]at*);try omega)
   all_goals(try rfl)
def ah5:LSp:=fun xs objs K=>match xs,objs with
 | [.agg [.isl (.rows .i64 CS) .none,.isl (.bools DS) .none]],[]=>VC ((1≤CS.length∧CS.length≤1000)∧(1≤DS.length∧DS.length≤1000)∧∀i,i<CS.length→(CS.getD i []).length≤1000)∧K [.agg [.rsl 0 0 CS.length,.rsl 1 0 DS.length]] [.cells (.rows .i64 CS) false,.cells (.bools DS) false]
 |_,_=>False
theorem aiZ:LOK Tryz.prog 137 ah5:=by
 intro xs objs K hk;unfold ah5 at hk;split at hk
 ·exact⟨_,_,hk.2,aiy ⟨_,_⟩ hk.1.get.1 hk.1.get.2.1 hk.1.get.2.2⟩
 ·exact hk.elim
def aiz (b:Bool):PSp:=fun xs K=>match xs with
 | [.str r]=>VC (decide (aP r≤3)=b)∧K (.bp b)
 |_=>False
theorem ajj (b:Bool):POK Tryz.prog 78 (aiz b):=by
 intro xs K hk;unfold aiz at hk;split at hk
 ·obtain⟨⟨rfl⟩,hk⟩:=hk
  exact⟨_,hk,aho _⟩
 ·exact hk.elim
noncomputable def ajD (b:Bool):CPT:=aA 78 (aB (aiz b)) (aA 137 (dP [] ah5) (aA 138 (aB ahv) noC))
theorem aie (b:Bool):aW Tryz.prog (ajD b):=aj (au (ajj b)) (aj (cu [] aiZ) (aj (au aix) aD))
def apW (cs:List (List Int)) (y x:Int) (i:Nat):List (List Int):=(ael cs.length).map fun j=>if j<i∧(j:Int)≠y then dQ (cs.getD j []) x else cs.getD j []
theorem dz {cs:List (List Int)} {y x:Int} {i:Nat}:(apW cs y x i).length=cs.length:=by simp[apW]
theorem sF {cs:List (List Int)} {y x:Int} {i j:Nat} (hj:j<cs.length):(apW cs y x i).getD j []=if j<i∧(j:Int)≠y then dQ (cs.getD j []) x else cs.getD j []:=by
 simp[apW,aeo,hj]
theorem ai0 {cs:List (List Int)} {y x:Int}:apW cs y x 0=cs:=TJ dz fun j hj=>by
 rw[dz]at hj;rw[sF hj,if_neg (by omega)]
theorem ai1 {cs:List (List Int)} {y x:Int} {i:Nat} (h:(i:Int)=y):apW cs y x (i+1)=apW cs y x i:=TJ (by rw[dz,dz]) fun j hj=>by
 rw[dz]at hj;rw[sF hj,sF hj];by_cases e:j=i
 ·subst e;rw[if_neg (fun q=>q.2 h),if_neg (fun q=>q.2 h)]
 ·by_cases q:j<i∧(j:Int)≠y
  ·rw[if_pos q,if_pos ⟨by omega,q.2⟩]
  ·rw[if_neg q,if_neg (fun q'=>q ⟨by omega,q'.2⟩)]
theorem ai2 {cs:List (List Int)} {y x:Int} {i:Nat} (h:(i:Int)≠y) (hi:i<cs.length):(apW cs y x i).set i (dQ ((apW cs y x i).getD i []) x)=apW cs y x (i+1):=TJ (by rw[aeP,dz,dz]) fun j hj=>by
 rw[aeP,dz]at hj;rw[sF hj];by_cases e:j=i
 ·subst e
  rw[if_pos ⟨by omega,h⟩,sF hj,if_neg (by omega),aeo,List.getElem?_set_self (by rw[dz];exact hj)];rfl
 ·rw[aeo,List.getElem?_set_ne (fun q=>e q.symm),←aeo,sF hj]
  by_cases q:j<i∧(j:Int)≠y
  ·rw[if_pos q,if_pos ⟨by omega,q.2⟩]
  ·rw[if_neg q,if_neg (fun q'=>q ⟨by omega,q'.2⟩)]
theorem aiO (c:Int) (ls:List (List Int)) (sum:Int) (s:St) (h:bO c ls sum s) (r:ByteArray) (y x k:Int) (hd:l9 c ls r y x k):aF Tryz.prog 76 [stV s,ddV r y x k] (stV (apl (aP r).toNat s y x)):=by
 have hc:=h.c1;have hcl:=h.cl;have hdl:=h.dl;have hy:=hd.y;have hg:=hd.g;have h16:∀i,i<s.cs.length→(s.cs.getD i []).length≤1000:=fun i hi=>by have:=Ap (h.asc i hi).1;unfold St.cd at this;omega
 have hyl:y.toNat<s.cs.length:=by omega
 have h17:=h16 _ hyl;have e1:agH (s.cs.length-0) (agI 0 s.cs)=s.cs:=bP rfl;have e2:agH (s.ds.length-0) (agI 0 s.ds)=s.ds:=bP rfl;have t25:Zt.size=1:=by rfl
 have e4:s.cd y.toNat=s.cs.getD y.toNat []:=rfl;by_cases hb:aP r≤3
 case neg=>
  have hb2:decide (aP r≤3)=false:=decide_eq_false hb;have ea:apl (aP r).toNat s y x=⟨s.cs.set y.toNat (dQ (s.cd y.toNat) x),s.ds⟩:=by unfold apl;rw[if_neg (by omega)]
  rw[ea];have hC:=aie false;refine av (md:=1) (rf:=[]) mixed ak hC Tryz.func76 (by rfl) (by rfl) (by rfl) ?_
  repeat'((conv=>whnf);first|(intro hq;(try simp only[vw]at hq);try first|exact absurd hq (by decide)|exfalso;omega)|apply aI|with_reducible exact vM rfl|exact⟨⟩|apply nM|apply fM)
  all_goals((try apply vM);(try simp only[vq]at*);try omega)
  all_goals(try rw[t25,aeL]at*)
  all_goals(try first|omega|exact⟨⟨by omega,by omega⟩,⟨by omega,by omega⟩,h16⟩|(rw[aeP];omega))
  rw[e4];exact Sup.of (by rw[show(CL.rows .i64 (s.cs.set y.toNat (dQ (s.cs.getD y.toNat []) x))).sub 0 s.cs.length=.rows .i64 (s.cs.set y.toNat (dQ (s.cs.getD y.toNat []) x))from congrArg (CL.rows .i64) (bP (aeP ..)),show(CL.bools s.ds).sub 0 s.ds.length=.bools s.ds from congrArg CL.bools e2];rfl)
 have hb2:decide (aP r≤3)=true:=decide_eq_true hb;have ea:apl (aP r).toNat s y x=⟨(apW s.cs y x s.cs.length).set y.toNat [x],s.ds.set y.toNat true⟩:=by
  unfold apl;rw[if_pos (by omega)]
  congr 1
  refine List.ext_getElem (by simp[apW]) fun j h1 h2=>?_
  have hj:j<s.cs.length:=by simpa using h1
  by_cases e:j=y.toNat
  ·subst e;simp
  ·rw[ahb (fun q=>e q.symm),ahb (fun q=>e q.symm)]
   simp only[apW,List.getElem_map,List.getElem_range];rw[if_pos ⟨hj,by omega⟩,aeo,aev hj];rfl
 rw[ea];have hC:=aie true;refine av (md:=1) (rf:=[]) mixed ak hC Tryz.func76 (by rfl) (by rfl) (by rfl) ?_
 repeat'((conv=>whnf);first|(intro hq;(try simp only[vw]at hq);try first|exact absurd hq (by decide)|exfalso;omega)|apply aI|with_reducible exact vM rfl|exact⟨⟩|apply nM|apply fM)
 all_goals((try apply vM);(try simp only[vq]at*);try omega)
 all_goals(try first|omega|exact⟨⟨by omega,by omega⟩,⟨by omega,by omega⟩,h16⟩)
 conv=>whnf
 refine aM (X:=Nat) (fun i=>i≤s.cs.length) (fun i=>[(6,.int .i64 i)]) (fun i=>[(3,.cells (.rows .i64 (apW s.cs y x i)) false)]) (fun i=>s.cs.length-i) 0 ⟨aK,mixed,ak,hC,aQ⟩ (by rfl) (by omega) ?_ ?_
 ·rw[ai0]
  repeat'((conv=>whnf);first|intro _|apply aI|with_reducible exact vM rfl|exact⟨⟩|apply nM|apply fM)
  all_goals((try apply vM);(try simp only[vq]at*);try omega)
 intro i hi;have hwl:=dz (cs:=s.cs) (y:=y) (x:=x) (i:=i);by_cases hlt:i<s.cs.length
 ·have hw:((apW s.cs y x i).getD i []).length≤1000000:=by rw[sF hlt,if_neg (by omega)];have:=h16 i hlt;omega
  repeat'((conv=>whnf);first|(intro hq;(try simp only[vw]at hq);try first|exact absurd hq (by decide)|exfalso;omega)|apply aI|with_reducible exact vM rfl|exact⟨⟩|apply nM|apply fM)
  all_goals((try apply vM);(try simp only[vq]at*);try omega)
  all_goals(try rw[t25,aeL]at*)
  all_goals(try omega)
  ·refine⟨i+1,[],⟨by omega,by omega⟩,?_⟩
   rw[←ai2 hq hlt]
   repeat'((conv=>whnf);first|intro _|apply aI|with_reducible exact vM rfl|exact⟨⟩|apply nM|apply fM)
   all_goals((try apply vM);(try simp only[vq]at*);try omega)
  ·refine⟨i+1,[],⟨by omega,by omega⟩,?_⟩
   rw[ai1 (by omega)]
   repeat'((conv=>whnf);first|intro _|apply aI|with_reducible exact vM rfl|exact⟨⟩|apply nM|apply fM)
   all_goals((try apply vM);(try simp only[vq]at*);try omega)
 ·have:i=s.cs.length:=by omega
  subst this
  repeat'((conv=>whnf);first|(intro hq;(try simp only[vw]at hq);try first|exact absurd hq (by decide)|exfalso;omega)|apply aI|with_reducible exact vM rfl|exact⟨⟩|apply nM|apply fM)
  all_goals((try apply vM);(try simp only[vq]at*);try omega)
  all_goals(try rw[t25,aeL]at*)
  all_goals(try first|omega|(rw[aeP];omega))
  obtain⟨A,hA⟩:∃A,apW s.cs y x s.cs.length=A:=⟨_,rfl⟩;rw[hA]at hwl⊢;exact Sup.of (by rw[show(CL.rows .i64 (A.set y.toNat [x])).sub 0 s.cs.length=.rows .i64 (A.set y.toNat [x])from congrArg (CL.rows .i64) (bP ((aeP ..).trans hwl)),show(CL.bools (s.ds.set y.toNat true)).sub 0 s.ds.length=.bools (s.ds.set y.toNat true)from congrArg CL.bools (bP (aeP ..))];rfl)
def ah6:PSp:=fun xs K=>match xs with
 | [.agg [.int .i64 c,.isl (.rows .i64 ls) .none,.int .i64 sum,.isl (.ints .i64 gv) .none]]=>VC (dR c ls sum gv)∧K (stV (bgn c gv))
 |_=>False
theorem ai3:POK Tryz.prog 25 ah6:=by
 intro xs K hk;unfold ah6 at hk;split at hk
 ·exact⟨_,hk.2,ah8 _ _ _ _ hk.1.get⟩
 ·exact hk.elim
def aiA (c:Int) (ls:List (List Int)) (sum:Int):PSp:=fun xs K=>match xs with
 | [.agg [.isl (.rows .i64 CS) .none,.isl (.bools DS) .none],.agg [.str r,.int .i64 y,.int .i64 x,.int .i64 k]]=>∃g:Nat,VC (bO c ls sum ⟨CS,DS⟩∧l9 c ls r y x k∧(aP r).toNat=g)∧K (stV (apl g ⟨CS,DS⟩ y x))
 |_=>False
theorem ajk (c:Int) (ls:List (List Int)) (sum:Int):POK Tryz.prog 76 (aiA c ls sum):=by
 intro xs K hk;unfold aiA at hk;split at hk
 ·obtain⟨g,⟨h1,h2,rfl⟩,hk⟩:=hk;exact⟨_,hk,aiO _ _ _ ⟨_,_⟩ h1 _ _ _ _ h2⟩
 ·exact hk.elim
noncomputable def ajw (c:Int) (ls:List (List Int)) (sum:Int):CPT:=aA 25 (aB ah6) (aA 64 (aB ahS) (aA 75 (aB ah3) (aA 76 (aB (aiA c ls sum)) noC)))
theorem ai4 (c:Int) (ls:List (List Int)) (sum:Int):aW Tryz.prog (ajw c ls sum):=aj (au ai3) (aj (au aib) (aj (au aiX) (aj (au (ajk c ls sum)) aD)))
theorem ah9 (c:Int) (ls:List (List Int)) (sum:Int) (gv:List Int) (h:bH ls) (hp:dR c ls sum gv) (l:List Du) (hl:l.length≤1000000):aF Tryz.prog 62 [pzV c ls sum gv,.isl (duL l) .none] (.tup [stV (Gc c ls sum (bgn c gv) 0 l).1,.int .i64 (Gc c ls sum (bgn c gv) 0 l).2.1,.int .i64 (Gc c ls sum (bgn c gv) 0 l).2.2]):=by
 have hgl:=hp.gl;have hC:=ai4 c ls sum;obtain⟨R,hR⟩:∃R,Gc c ls sum (bgn c gv) 0 l=R:=⟨_,rfl⟩;rw[hR];refine av (md:=1) (rf:=[]) mixed ak hC Tryz.func62 (by rfl) (by rfl) (by rfl) ?_
 repeat'((conv=>whnf);first|(intro hq;(try simp only[vw]at hq);try first|exact absurd hq (by decide)|exfalso;omega)|apply aI|with_reducible exact vM rfl|exact⟨⟩|apply nM|apply fM)
 all_goals((try apply vM);(try simp only[vq]at*);try omega)
 all_goals(try exact hp)
 conv=>whnf
 refine aM (X:=Nat × St) (fun x=>x.1≤l.length∧bO c ls sum x.2∧StI x.2∧x.2.cs.length=gv.length∧Gc c ls sum x.2 x.1 (l.drop x.1)=R)
  (fun x=>[(8,.int .i64 x.1)]) (fun x=>[(6,.cells (.pv [.isl (.rows .i64 x.2.cs) .none,.isl (.bools x.2.ds) .none]) false)]) (fun x=>l.length-x.1) (0,bgn c gv) ⟨aK,mixed,ak,hC,aQ⟩ (by rfl) ?_ ?_ ?_
 ·exact⟨aeY _,uY hp,AY hp,jU.1,hR⟩
 ·repeat'((conv=>whnf);first|intro _|apply aI|with_reducible exact vM rfl|exact⟨⟩|apply nM|apply fM)
  all_goals((try apply vM);(try simp only[vq]at*);try omega)
  all_goals skip
 rintro⟨i,s⟩ ⟨hi,hB,hI,hlen,hsol⟩
 simp only at hi hB hI hlen hsol⊢;by_cases hlt:i<l.length
 ·rw[Yu (d:=du0) hlt]at hsol
  unfold Gc at hsol;obtain⟨d,hd⟩:∃d,l.getD i du0=d:=⟨_,rfl⟩;rw[hd]at hsol;have hno:∀e,vk c ls sum s d=e→e≠0→Sup (bF [PV.agg [PV.nils,PV.nils],.int .i64 ((i:Int)+1),.int .i64 e]) (.tup [stV R.1,.int .i64 R.2.1,.int .i64 R.2.2]):=fun e h1 h2=>by
   rw[if_pos (by rw[h1];exact h2),h1]at hsol
   rw[←hsol];exact P6 _ _
  by_cases hd0:dL c ls d.r d.y d.x d.k=0
  case neg=>
   have he1:vk c ls sum s d=dL c ls d.r d.y d.x d.k:=if_pos hd0;rw[←hd]at he1 hd0 hno
   repeat'((conv=>whnf);first|(intro hq;(try simp only[vw]at hq);try first|exact absurd hq (by decide)|exfalso;omega)|apply aI|with_reducible exact vM rfl|exact⟨⟩|apply nM|apply fM)
   all_goals((try apply vM);(try simp only[vq]at*);try omega)
   all_goals(try first|omega|rfl|exact h|exact hno _ he1 hd0|(exfalso;exact hq hd0)|(exfalso;exact hd0 hq))
   all_goals skip
  have hD:=l9.of hd0;cases hj:okJ (aP d.r).toNat s sum (ls.getD d.k.toNat []) d.y d.x with
  |false=>
   have he1:vk c ls sum s d=19:=by unfold vk;rw[if_neg (by rw[hd0];simp),hj];rfl
   rw[←hd]at he1 hd0 hno hD hj
   repeat'((conv=>whnf);first|(intro hq;(try simp only[vw]at hq);try first|exact absurd hq (by decide)|exfalso;omega)|apply aI|with_reducible exact vM rfl|exact⟨⟩|apply nM|apply fM)
   all_goals((try apply vM);(try simp only[vq]at*);try omega)
   all_goals(try first|omega|rfl|exact h|exact⟨hB,hD⟩|exact hno _ he1 (by decide)|(exfalso;exact hq hd0)|exact absurd (hq.symm.trans hj) (by decide))
  |true=>
   have he1:vk c ls sum s d=0:=by unfold vk;rw[if_neg (by rw[hd0];simp),hj];rfl
   rw[if_neg (by rw[he1];simp)]at hsol
   have hj2:=hj;unfold okJ at hj2;simp only[aeA,ag8,decide_eq_true_eq]at hj2;obtain⟨b1,b2⟩:=FZ hB hI (g:=(aP d.r).toNat) hD.y hD.x hj2.1 hj2.2.1;have b4:=AX (g:=(aP d.r).toNat) (s:=s) (y:=d.y) (x:=d.x);obtain⟨g,hg⟩:∃g,(aP d.r).toNat=g:=⟨_,rfl⟩;rw[hg]at hsol b1 b2 b4;rw[←hd]at hd0 hD hj hg hsol b1 b2 b4
   repeat'((conv=>whnf);first|refine Exists.intro (g) ?_|(intro hq;(try simp only[vw]at hq);try first|exact absurd hq (by decide)|exfalso;omega)|apply aI|with_reducible exact vM rfl|exact⟨⟩|apply nM|apply fM)
   all_goals((try apply vM);(try simp only[vq]at*);try omega)
   all_goals(try first|omega|rfl|exact h|exact⟨hB,hD⟩|exact⟨hB,hD,hg⟩|(exfalso;exact hq hd0)|exact absurd (hq.symm.trans hj) (by decide))
   refine⟨(i+1,apl g s (l.getD i du0).y (l.getD i du0).x),[],⟨⟨by simp only;omega,b1,b2,by simp only;omega,hsol⟩,by simp only;omega⟩,?_⟩
   simp only
   repeat'((conv=>whnf);first|intro _|apply aI|with_reducible exact vM rfl|exact⟨⟩|apply nM|apply fM)
   all_goals((try apply vM);(try simp only[vq]at*);try omega)
   all_goals skip
 ·have e:i=l.length:=by omega
  subst e;rw[List.drop_length]at hsol;unfold Gc at hsol;rw[←hsol]
  repeat'((conv=>whnf);first|(intro hq;(try simp only[vw]at hq);try first|exact absurd hq (by decide)|exfalso;omega)|apply aI|with_reducible exact vM rfl|exact⟨⟩|apply nM|apply fM)
  all_goals((try apply vM);(try simp only[vq]at*);try omega)
  all_goals first|omega|exact Sup.of rfl|skip
abbrev aiB:ByteArray:=⟨#[99,101,108,108,32]⟩
abbrev xIs:ByteArray:=⟨#[32,105,115,32]⟩
abbrev ajq:ByteArray:=⟨#[110,111,116,32]⟩
abbrev xBy:ByteArray:=⟨#[32,98,121,32]⟩
abbrev ajr:ByteArray:=⟨#[32,111,110,32,108,105,110,101,32]⟩
def exT (g:Int) (r:ByteArray) (y x k:Int):ByteArray:=
 (((if g≤3 then(aiB++itB y)++xIs else((aiB++itB y)++xIs)++ajq)++itB x)++xBy)++r++(if 0≤k then ajr++itB k else .empty)
theorem ajs {a b:ByteArray} (h:a.data.toList=b.data.toList):a=b:=by
 apply ByteArray.ext;exact Array.toList_inj.1 h
theorem ajt (g:Int) (r:ByteArray) (y x k:Int):exT g r y x k=joB (exW g r y x k) kBl:=by
 apply ajs;have hk:kBl.data.toList=[32]:=rfl;unfold exT joB exW Go.Lib.join;by_cases h1:g≤3<;>by_cases h2:0≤k<;>simp[h1,h2,hk,List.intercalate,ByteArray.toList_data_append]
def aiC:PSp:=fun xs K=>match xs with
 | [.str r]=>∃b:Bool,VC (decide (aP r≤3)=b)∧K (.bool b)
 |_=>False
theorem ajl:POK Tryz.prog 78 aiC:=by
 intro xs K hk;unfold aiC at hk;split at hk
 ·obtain⟨b,⟨rfl⟩,hk⟩:=hk
  exact⟨_,hk,tZ (aho _) ⟨fun hr=>by cases hr;exact .bool _ _⟩⟩
 ·exact hk.elim
noncomputable def ajE:CPT:=aA 78 (aB aiC) (aA 131 (aB aiq) noC)
theorem aif:aW Tryz.prog ajE:=aj (au ajl) (aj (au ajf) aD)
theorem aiD (r:ByteArray) (y x k:Int) (hr:r.size≤1000) (hy: -999999999≤y∧y≤999999999) (hx: -999999999≤x∧x≤999999999) (hk: -999999999≤k∧k≤999999999):aF Tryz.prog 65 [ddV r y x k] (.str (joB (exW (aP r) r y x k) kBl)):=by
 have s1:=oU (n:=y) ⟨by omega,by omega⟩
 have s2:=oU (n:=x) ⟨by omega,by omega⟩
 have s3:=oU (n:=k) ⟨by omega,by omega⟩
 have z1:aiB.size=5:=rfl;have z2:xIs.size=4:=rfl;have z3:ajq.size=4:=rfl;have z4:xBy.size=4:=rfl;have z5:ajr.size=9:=rfl;rw[←ajt];by_cases hg:aP r≤3
 ·have hgb:decide (aP r≤3)=true:=decide_eq_true hg
  unfold exT;rw[if_pos hg];refine av (md:=1) (rf:=[]) mixed ak aif Tryz.func65 (by rfl) (by rfl) (by rfl) ?_
  repeat'((conv=>whnf);first|refine Exists.intro (true) ?_|(intro hq;(try simp only[vw]at hq);try first|exact absurd hq (by decide)|exfalso;omega)|apply aI|with_reducible exact vM rfl|exact⟨⟩|apply nM|apply fM)
  all_goals((try apply vM);(try simp only[vq]at*);try omega)
  all_goals(try first|omega|exact hgb|exact hg|(simp only[ByteArray.size_append,z1,z2,z3,z4,z5];omega)|(rw[if_pos hq,←ByteArray.append_assoc];exact Sup.of rfl)|(rw[if_neg hq,ByteArray.append_empty];exact Sup.of rfl))
 ·have hgb:decide (aP r≤3)=false:=decide_eq_false hg
  unfold exT;rw[if_neg hg];refine av (md:=1) (rf:=[]) mixed ak aif Tryz.func65 (by rfl) (by rfl) (by rfl) ?_
  repeat'((conv=>whnf);first|refine Exists.intro (false) ?_|(intro hq;(try simp only[vw]at hq);try first|exact absurd hq (by decide)|exfalso;omega)|apply aI|with_reducible exact vM rfl|exact⟨⟩|apply nM|apply fM)
  all_goals((try apply vM);(try simp only[vq]at*);try omega)
  all_goals(try first|omega|exact hgb|exact hg|(simp only[ByteArray.size_append,z1,z2,z3,z4,z5];omega)|(rw[if_pos hq,←ByteArray.append_assoc];exact Sup.of rfl)|(rw[if_neg hq,ByteArray.append_empty];exact Sup.of rfl))
end Go.Eng.YtcechbdgokjmgaaGreatDoor
namespace Go.Eng.YtcechbdgokjmgaaGreatDoor
open Go.Proofs Go.RowKit
set_option linter.unusedSimpArgs false
set_option linter.unusedVariables false
set_option maxHeartbeats 0
set_option maxRecDepth 100000
def aiE (l:List Du):PSp:=fun xs K=>match xs with
 | [.agg [.int .i64 c,.isl (.rows .i64 ls) .none,.int .i64 sum,.isl (.ints .i64 gv) .none],.isl (.genr 4 n f) .none]=>VC (CL.genr 4 n f=duL l∧bH ls∧gv.length≤5000∧l.length≤1000000)∧K (.tup [stV (sI c ls sum gv l).1,.int .i64 (sI c ls sum gv l).2.1,.int .i64 (sI c ls sum gv l).2.2])
 |_=>False
theorem ajm (l:List Du):POK Tryz.prog 61 (aiE l):=by
 intro xs K hk;unfold aiE at hk;split at hk
 ·obtain⟨⟨h1,h2,h3,h4⟩,hk⟩:=hk
  rw[h1];exact⟨_,hk,ab0 _ _ _ _ h2 h3 l h4⟩
 ·exact hk.elim
def aiF (l:List Du):PSp:=fun xs K=>match xs with
 | [.agg [.int .i64 c,.isl (.rows .i64 ls) .none,.int .i64 sum,.isl (.ints .i64 gv) .none],.isl (.genr 4 n f) .none]=>VC (CL.genr 4 n f=duL l∧bH ls∧dR c ls sum gv∧l.length≤1000000)∧K (.tup [stV (Gc c ls sum (bgn c gv) 0 l).1,.int .i64 (Gc c ls sum (bgn c gv) 0 l).2.1,.int .i64 (Gc c ls sum (bgn c gv) 0 l).2.2])
 |_=>False
theorem ajn (l:List Du):POK Tryz.prog 62 (aiF l):=by
 intro xs K hk;unfold aiF at hk;split at hk
 ·obtain⟨⟨h1,h2,h3,h4⟩,hk⟩:=hk
  rw[h1];exact⟨_,hk,ah9 _ _ _ _ h2 h3 l h4⟩
 ·exact hk.elim
def ai5:PSp:=fun xs K=>match xs with
 | [.agg [.int .i64 c,.isl (.rows .i64 ls) .none,.int .i64 sum,.isl (.ints .i64 gv) .none],.agg [.str r,.int .i64 y,.int .i64 x,.int .i64 k]]=>VC (bH ls∧gv.length≤5000)∧K (.tup [.str (M8 c ls sum gv r y x k).1,.int .i64 (M8 c ls sum gv r y x k).2])
 |_=>False
theorem aju:POK Tryz.prog 63 ai5:=by
 intro xs K h;unfold ai5 at h;split at h
 ·exact⟨_,h.2,Gs _ _ _ _ h.1.get.1 h.1.get.2 _ _ _ _⟩
 ·exact h.elim
def ai6:PSp:=fun xs K=>match xs with
 | [.agg [.str r,.int .i64 y,.int .i64 x,.int .i64 k]]=>VC (r.size≤1000∧(-999999999≤y∧y≤999999999)∧(-999999999≤x∧x≤999999999)∧(-999999999≤k∧k≤999999999))∧K (.str (joB (exW (aP r) r y x k) kBl))
 |_=>False
theorem ajv:POK Tryz.prog 65 ai6:=by
 intro xs K h;unfold ai6 at h;split at h
 ·exact⟨_,h.2,aiD _ _ _ _ h.1.get.1 h.1.get.2.1 h.1.get.2.2.1 h.1.get.2.2.2⟩
 ·exact h.elim
theorem ajo {c:Int} {ls:List (List Int)} {sum:Int}:∀(l:List Du) (s:St) (i:Nat),bO c ls sum s→StI s→(Gc c ls sum s i l).1=noS∨bO c ls sum (Gc c ls sum s i l).1:=by
 intro l;induction l with
 |nil=>intro s i h _;exact .inr h
 |cons d r ih=>
  intro s i hB hI;unfold Gc;split
  ·exact .inl rfl
  ·rename_i h0
   have h0:=ae2.1 h0;have hd0:dL c ls d.r d.y d.x d.k=0:=by
    by_cases e:dL c ls d.r d.y d.x d.k=0
    ·exact e
    ·unfold vk at h0;rw[if_pos e]at h0;exact h0
   have hj:okJ (aP d.r).toNat s sum (ls.getD d.k.toNat []) d.y d.x=true:=by
    unfold vk at h0;rw[if_neg (by rw[hd0];simp)]at h0
    cases e:okJ (aP d.r).toNat s sum (ls.getD d.k.toNat []) d.y d.x with
    |true=>rfl
    |false=>rw[e]at h0;simp at h0
   unfold okJ at hj;simp only[aeA,ag8,decide_eq_true_eq]at hj;have hD:=l9.of hd0;obtain⟨b1,b2⟩:=FZ hB hI (g:=(aP d.r).toNat) hD.y hD.x hj.1 hj.2.1;exact ih _ _ b1 b2
noncomputable def ahr (l0:List Du) (b1:Bool) (w:Int) (R:St × Int × Int) (t:ByteArray) (e de:Int):CPT:=aA 16 (aB (aco Qw (.bool b1))) (aA 17 (aB Qs) (aA 18 (aB (aco ME (.int .i64 w))) (aA 19 (aB Tz) (aA 23 (aB (aco abF (.bool true))) (aA 24 (aB abD) (aA 61 (aB (aco (aiE l0) (.tup [stV R.1,.int .i64 R.2.1,.int .i64 R.2.2]))) (aA 62 (aB (aco (aiF l0) (.tup [stV R.1,.int .i64 R.2.1,.int .i64 R.2.2]))) (aA 63 (aB (aco ai5 (.tup [.str t,.int .i64 e]))) (aA 64 (aB (aco ahS (.int .i64 de))) (aA 65 (aB (aco ai6 (.str t))) noC))))))))))
theorem Jd (l0:List Du) (b1:Bool) (w:Int) (R:St × Int × Int) (t:ByteArray) (e de:Int):aW Tryz.prog (ahr l0 b1 w R t e de):=aj (au (adQ adJ (.bool b1))) (aj (au adE) (aj (au (adQ Px (.int .i64 w))) (aj (au abC) (aj (au (adQ adW (.bool true))) (aj (au adT) (aj (au (adQ (ajm l0) (.tup [stV R.1,.int .i64 R.2.1,.int .i64 R.2.2]))) (aj (au (adQ (ajn l0) (.tup [stV R.1,.int .i64 R.2.1,.int .i64 R.2.2]))) (aj (au (adQ aju (.tup [.str t,.int .i64 e]))) (aj (au (adQ aib (.int .i64 de))) (aj (au (adQ ajv (.str t))) aD))))))))))
theorem ahI {a b:St} (h:a=b):Sup (.bp (smB a b)) (.bool true):=adU (by subst h;exact decide_eq_true ⟨rfl,rfl⟩)
theorem aiG (c:Int) (ls:List (List Int)) (sum:Int) (gv:List Int) (l:List Du) (hl:l.length≤9223372036854775807):aF Tryz.prog 10 [pzV c ls sum gv,.isl (duL l) .none] (.bp true):=by
 by_cases hg:TI c ls sum gv=true
 ·have hC:=Jd l true 0 (noS,0,0) rY 0 0
  refine eD (md:=1) (rf:=[]) mixed ak hC Tryz.func10 (by rfl) (by rfl) (by rfl) ?_
  unfold ahr
  repeat'((conv=>whnf);first|(intro hq;(try simp only[vw]at hq);try first|exact absurd hq (by decide)|exfalso;omega)|apply aI|with_reducible exact vM rfl|exact⟨⟩|apply nM|apply fM)
  all_goals((try apply vM);(try simp only[vq]at*);try omega)
  all_goals first|exact adU hg|exact mg _|omega
 have hg:TI c ls sum gv=false:=by simpa using hg
 by_cases h20:20<(l.length:Int)
 ·have hC:=Jd l false 0 (noS,0,0) rY 0 0
  refine eD (md:=1) (rf:=[]) mixed ak hC Tryz.func10 (by rfl) (by rfl) (by rfl) ?_
  unfold ahr
  repeat'((conv=>whnf);first|(intro hq;(try simp only[vw]at hq);try first|exact absurd hq (by decide)|exfalso;omega)|apply aI|with_reducible exact vM rfl|exact⟨⟩|apply nM|apply fM)
  all_goals((try apply vM);(try simp only[vq]at*);try omega)
  all_goals first|exact adU hg|exact mg _|omega
 have hsh:vF ls gv=true:=by unfold TI at hg;cases h:vF ls gv<;>simp[h]at hg⊢
 obtain⟨hL,hgl⟩:=YO hsh;obtain⟨w,he⟩:∃w,pzE c ls sum gv=w:=⟨_,rfl⟩;by_cases hw:w=0
 case neg=>
  have h1:sI c ls sum gv l=(noS,0,w):=by unfold sI;rw[if_pos (by rw[he];exact hw),he]
  have h2:∀r y x k,M8 c ls sum gv r y x k=(rY,w):=fun r y x k=>by unfold M8;rw[if_pos (by rw[he];exact hw),he]
  have hC:=Jd l false w (noS,0,w) rY w 0;refine eD (md:=1) (rf:=[]) mixed ak hC Tryz.func10 (by rfl) (by rfl) (by rfl) ?_
  unfold ahr
  repeat'((conv=>whnf);first|(intro hq;(try simp only[vw]at hq);try first|exact absurd hq (by decide)|exfalso;omega)|apply aI|with_reducible exact vM rfl|exact⟨⟩|apply nM|apply fM)
  all_goals((try apply vM);(try simp only[vq]at*);try omega)
  all_goals(try first|exact adU hg|exact mg _|omega)
  conv=>whnf
  refine aM (X:=Nat) (fun i=>i≤l.length) (fun i=>[(5,.int .i64 i)]) (fun i=>[]) (fun i=>l.length-i) 0 ⟨aK,mixed,ak,hC,aQ⟩ (by rfl) (by omega) ?_ ?_
  ·repeat'((conv=>whnf);first|intro _|apply aI|with_reducible exact vM rfl|exact⟨⟩|apply nM|apply fM)
   all_goals((try apply vM);(try simp only[vq]at*);try omega)
  intro i hi;by_cases hlt:i<l.length
  ·repeat'((conv=>whnf);first|(intro hq;(try simp only[vw]at hq);try first|exact absurd hq (by decide)|exfalso;omega)|apply aI|with_reducible exact vM rfl|exact⟨⟩|apply nM|apply fM)
   all_goals((try apply vM);(try simp only[vq]at*);try omega)
   all_goals(try first|exact mg _|omega)
   refine⟨i+1,[],⟨by omega,by omega⟩,?_⟩
   repeat'((conv=>whnf);first|intro _|apply aI|with_reducible exact vM rfl|exact⟨⟩|apply nM|apply fM)
   all_goals((try apply vM);(try simp only[vq]at*);try omega)
  have hil:i=l.length:=by omega
  subst hil
  repeat'((conv=>whnf);first|(intro hq;(try simp only[vw]at hq);try first|exact absurd hq (by decide)|exfalso;omega)|apply aI|with_reducible exact vM rfl|exact⟨⟩|apply nM|apply fM)
  all_goals((try apply vM);(try simp only[vq]at*);try omega)
  all_goals(try first|omega|exact⟨rfl,hL,by omega,by omega⟩|exact⟨hL,by omega,by omega⟩|exact⟨hL,by omega⟩|exact⟨hL,hp,by omega⟩|exact hL|(rw[h2];exact mg _)|exact adV hde|exact hbx|exact adU (by simp)|rfl|(rw[h1];exact mg _)|exact adV he|exact hR|exact ahI rfl|exact⟨rfl,rfl⟩|exact adU rfl|exact mg _|exact⟨rfl,hL,hp,by omega⟩)
 subst hw;have hp:=dR.of he;obtain⟨R,h1⟩:∃R,sI c ls sum gv l=R:=⟨_,rfl⟩;have hRF:Gc c ls sum (bgn c gv) 0 l=R:=by
  rw[←h1];unfold sI;rw[if_neg (by rw[he];simp)]
 have hR:Sup (.tup [stV (Gc c ls sum (bgn c gv) 0 l).1,.int .i64 (Gc c ls sum (bgn c gv) 0 l).2.1,.int .i64 (Gc c ls sum (bgn c gv) 0 l).2.2]) (.tup [stV R.1,.int .i64 R.2.1,.int .i64 R.2.2]):=by rw[hRF];exact mg _
 have hbx:R.1.cs.length≤1000000∧R.1.ds.length≤1000000∧∀i,(R.1.cs.getD i []).length≤2000000:=by
  rcases ajo l (bgn c gv) 0 (uY hp) (AY hp)with e|hB
  ·rw[hRF]at e;rw[e];exact⟨by simp[noS],by simp[noS],fun i=>by simp[noS]⟩
  ·rw[hRF]at hB
   have hc:=hp.c1;have q1:=hB.cl;have q2:=hB.dl;refine⟨by omega,by omega,fun i=>?_⟩
   by_cases hi:i<R.1.cs.length
   ·have h16:(R.1.cs.getD i []).length≤16:=Ap (hB.asc i hi).1;omega
   ·rw[aeo,List.getElem?_eq_none (by omega)];simp
 obtain⟨d,hd⟩:∃d,l.getD (agt 0) du0=d:=⟨_,rfl⟩;by_cases hd0:dL c ls d.r d.y d.x d.k=0
 ·have h2:M8 c ls sum gv d.r d.y d.x d.k=(joB (exW (aP d.r) d.r d.y d.x d.k) kBl,0):=by
   unfold M8;rw[if_neg (by rw[he];simp),if_neg (by rw[hd0];simp)]
  have hD:=l9.of hd0;have hc:=hp.c1;have hll:=hp.ll;have hD1:=hD.y;have hD2:=hD.x;have hkb: -999999999≤d.k∧d.k≤999999999:=by
   have hd1:=hd0;unfold dL at hd1;rw[if_neg (by have:=hD.g;omega),if_neg (by omega),if_neg (by omega)]at hd1
   by_cases e:aP d.r=2∨aP d.r=3
   ·rw[if_pos e]at hd1
    by_cases q:d.k≠ -1
    ·rw[if_pos q]at hd1;cases hd1
    ·omega
   ·rw[if_neg e]at hd1
    by_cases q:d.k<0∨(ls.length:Int)≤d.k∨d.y∉ls.getD d.k.toNat []
    ·rw[if_pos q]at hd1;cases hd1
    ·omega
  have hrs:d.r.size≤1000:=by
   have:=hD.g;rcases l8 d.r with⟨a,_⟩|⟨a,_⟩|⟨a,_⟩|⟨a,_⟩|⟨a,_⟩|a
   ·rw[a];decide
   ·rw[a];decide
   ·rw[a];decide
   ·rw[a];decide
   ·rw[a];decide
   ·omega
  have hb1:d.r.size≤1000∧(-999999999≤d.y∧d.y≤999999999)∧(-999999999≤d.x∧d.x≤999999999)∧(-999999999≤d.k∧d.k≤999999999):=⟨hrs,⟨by omega,by omega⟩,⟨by omega,by omega⟩,hkb⟩
  have hde:=hd0;obtain⟨t,ht⟩:∃t,joB (exW (aP d.r) d.r d.y d.x d.k) kBl=t:=⟨_,rfl⟩;have ht2:Sup (.str (joB (exW (aP d.r) d.r d.y d.x d.k) kBl)) (.str t):=by rw[ht];exact mg _
  rw[ht]at h2;rw[←hd]at h2 hde hb1 ht2;have hC:=Jd l false 0 R t 0 0;refine eD (md:=1) (rf:=[]) mixed ak hC Tryz.func10 (by rfl) (by rfl) (by rfl) ?_
  unfold ahr
  repeat'((conv=>whnf);first|(intro hq;(try simp only[vw]at hq);try first|exact absurd hq (by decide)|exfalso;omega)|apply aI|with_reducible exact vM rfl|exact⟨⟩|apply nM|apply fM)
  all_goals((try apply vM);(try simp only[vq]at*);try omega)
  all_goals(try first|exact adU hg|exact mg _|omega)
  conv=>whnf
  refine aM (X:=Nat) (fun i=>i≤l.length) (fun i=>[(5,.int .i64 i)]) (fun i=>[]) (fun i=>l.length-i) 0 ⟨aK,mixed,ak,hC,aQ⟩ (by rfl) (by omega) ?_ ?_
  ·repeat'((conv=>whnf);first|intro _|apply aI|with_reducible exact vM rfl|exact⟨⟩|apply nM|apply fM)
   all_goals((try apply vM);(try simp only[vq]at*);try omega)
  intro i hi;by_cases hlt:i<l.length
  ·repeat'((conv=>whnf);first|(intro hq;(try simp only[vw]at hq);try first|exact absurd hq (by decide)|exfalso;omega)|apply aI|with_reducible exact vM rfl|exact⟨⟩|apply nM|apply fM)
   all_goals((try apply vM);(try simp only[vq]at*);try omega)
   all_goals(try first|exact mg _|omega)
   refine⟨i+1,[],⟨by omega,by omega⟩,?_⟩
   repeat'((conv=>whnf);first|intro _|apply aI|with_reducible exact vM rfl|exact⟨⟩|apply nM|apply fM)
   all_goals((try apply vM);(try simp only[vq]at*);try omega)
  have hil:i=l.length:=by omega
  subst hil
  repeat'((conv=>whnf);first|(intro hq;(try simp only[vw]at hq);try first|exact absurd hq (by decide)|exfalso;omega)|apply aI|with_reducible exact vM rfl|exact⟨⟩|apply nM|apply fM)
  all_goals((try apply vM);(try simp only[vq]at*);try omega)
  all_goals(try first|omega|exact⟨rfl,hL,by omega,by omega⟩|exact⟨hL,by omega,by omega⟩|exact⟨hL,by omega⟩|exact⟨hL,hp,by omega⟩|exact hL|(rw[h2];exact mg _)|exact adV hde|exact hbx|exact adU (by simp)|rfl|(rw[h1];exact mg _)|exact adV he|exact hR|exact ahI rfl|exact⟨rfl,rfl⟩|exact adU rfl|exact mg _|exact⟨rfl,hL,hp,by omega⟩)
  all_goals first|exact hb1|exact ht2|skip
 ·obtain⟨de,hde⟩:∃de,dL c ls d.r d.y d.x d.k=de:=⟨_,rfl⟩
  have h2:M8 c ls sum gv d.r d.y d.x d.k=(rY,de):=by
   unfold M8;rw[if_neg (by rw[he];simp),if_pos hd0,hde]
  rw[hde]at hd0;rw[←hd]at h2 hde;have hC:=Jd l false 0 R rY de de;refine eD (md:=1) (rf:=[]) mixed ak hC Tryz.func10 (by rfl) (by rfl) (by rfl) ?_
  unfold ahr
  repeat'((conv=>whnf);first|(intro hq;(try simp only[vw]at hq);try first|exact absurd hq (by decide)|exfalso;omega)|apply aI|with_reducible exact vM rfl|exact⟨⟩|apply nM|apply fM)
  all_goals((try apply vM);(try simp only[vq]at*);try omega)
  all_goals(try first|exact adU hg|exact mg _|omega)
  conv=>whnf
  refine aM (X:=Nat) (fun i=>i≤l.length) (fun i=>[(5,.int .i64 i)]) (fun i=>[]) (fun i=>l.length-i) 0 ⟨aK,mixed,ak,hC,aQ⟩ (by rfl) (by omega) ?_ ?_
  ·repeat'((conv=>whnf);first|intro _|apply aI|with_reducible exact vM rfl|exact⟨⟩|apply nM|apply fM)
   all_goals((try apply vM);(try simp only[vq]at*);try omega)
  intro i hi;by_cases hlt:i<l.length
  ·repeat'((conv=>whnf);first|(intro hq;(try simp only[vw]at hq);try first|exact absurd hq (by decide)|exfalso;omega)|apply aI|with_reducible exact vM rfl|exact⟨⟩|apply nM|apply fM)
   all_goals((try apply vM);(try simp only[vq]at*);try omega)
   all_goals(try first|exact mg _|omega)
   refine⟨i+1,[],⟨by omega,by omega⟩,?_⟩
   repeat'((conv=>whnf);first|intro _|apply aI|with_reducible exact vM rfl|exact⟨⟩|apply nM|apply fM)
   all_goals((try apply vM);(try simp only[vq]at*);try omega)
  have hil:i=l.length:=by omega
  subst hil
  repeat'((conv=>whnf);first|(intro hq;(try simp only[vw]at hq);try first|exact absurd hq (by decide)|exfalso;omega)|apply aI|with_reducible exact vM rfl|exact⟨⟩|apply nM|apply fM)
  all_goals((try apply vM);(try simp only[vq]at*);try omega)
  all_goals(try first|omega|exact⟨rfl,hL,by omega,by omega⟩|exact⟨hL,by omega,by omega⟩|exact⟨hL,by omega⟩|exact⟨hL,hp,by omega⟩|exact hL|(rw[h2];exact mg _)|exact adV hde|exact hbx|exact adU (by simp)|rfl|(rw[h1];exact mg _)|exact adV he|exact hR|exact ahI rfl|exact⟨rfl,rfl⟩|exact adU rfl|exact mg _|exact⟨rfl,hL,hp,by omega⟩)
  all_goals skip
end Go.Eng.YtcechbdgokjmgaaGreatDoor
namespace Go.Eng.YtcechbdgokjmgaaGreatDoor
open Go.Proofs Go.RowKit Go.ChangeShapes Go.WideShapes Go.ChangeAt
set_option linter.unusedSimpArgs false
set_option linter.unusedVariables false
set_option maxRecDepth 100000
section
variable {H:Type} {enc:TypeId × Value→H} {W:World}
theorem ai7:∀{n:Nat} {a:Addr} {cs:List Value},W.cells? 0 a n=some cs→cs.length=n∧∀i,i<n→W.cell? (a.add i)=some (cs.getD i undef):=by
 intro n a cs h;unfold World.cells? at h;rw[if_pos (aeY _)]at h;have key:∀(l:List Nat) (cs:List Value),l.mapM (fun i=>W.cell? (a.add i))=some cs→cs.length=l.length∧∀j,j<l.length→W.cell? (a.add (l.getD j 0))=some (cs.getD j undef):=by
  intro l;induction l with
  |nil=>intro cs h;simp at h;subst h;exact⟨rfl,fun j hj=>by simp at hj⟩
  |cons x r ih=>
   intro cs h;rw[List.mapM_cons]at h;simp only[Option.bind_eq_bind,ajK,Option.pure_def,Option.some.injEq]at h;obtain⟨v,h1,vs,h2,rfl⟩:=h;obtain⟨i1,i2⟩:=ih vs h2;refine⟨by simp[i1],fun j hj=>?_⟩
   cases j with
   |zero=>simpa using h1
   |succ j=>simpa using i2 j (by simpa using hj)
 obtain⟨k1,k2⟩:=key _ _ h;rw[List.length_range]at k1 k2;refine⟨k1,fun i hi=>?_⟩;have:=k2 i hi;rw[aeo,List.getElem?_range hi]at this;exact this
theorem ajp {fuel:Nat} {cs:List Value} {x:DataW H × List MemPlace} (h:DataW.trod enc Tryz.prog W 0 (fun _=>true) true fuel 40 cs=some x):∃d:Du,cs.getD 0 undef=.string d.r∧cs.getD 1 undef=.int .i64 d.y∧cs.getD 2 undef=.int .i64 d.x∧cs.getD 3 undef=.int .i64 d.k:=by
 obtain⟨xs,n,_,_,hl,hlen,hf⟩:=DataW.trod_struct Tryz.underlying40 h;have c9:Tryz.prog.cellsOf 9=1:=by kernel_rfl
 have c3:Tryz.prog.cellsOf 3=1:=by kernel_rfl
 have hx:∀i,i<4→∃y,xs[i]? =some y:=fun i hi=>⟨_,aev (by rw[hlen];exact hi)⟩
 have h0:DataW.trod enc Tryz.prog W 0 (fun _=>true) true n 9 (agH (Tryz.prog.cellsOf 9) (agI 0 cs))=xs[0]? :=hf 0 _ rfl;have h1:DataW.trod enc Tryz.prog W 0 (fun _=>true) true n 3 (agH (Tryz.prog.cellsOf 3) (agI 1 cs))=xs[1]? :=hf 1 _ rfl;have h2:DataW.trod enc Tryz.prog W 0 (fun _=>true) true n 3 (agH (Tryz.prog.cellsOf 3) (agI 2 cs))=xs[2]? :=hf 2 _ rfl;have h3:DataW.trod enc Tryz.prog W 0 (fun _=>true) true n 3 (agH (Tryz.prog.cellsOf 3) (agI 3 cs))=xs[3]? :=hf 3 _ rfl;obtain⟨y0,e0⟩:=hx 0 (by omega)
 obtain⟨y1,e1⟩:=hx 1 (by omega)
 obtain⟨y2,e2⟩:=hx 2 (by omega)
 obtain⟨y3,e3⟩:=hx 3 (by omega)
 rw[c9,e0]at h0;rw[c3,e1]at h1;rw[c3,e2]at h2;rw[c3,e3]at h3;obtain⟨r,q0,_⟩:=DataW.trod_string Tryz.underlying9 h0;obtain⟨a,q1,_⟩:=DataW.trod_int Tryz.underlying3 h1;obtain⟨b,q2,_⟩:=DataW.trod_int Tryz.underlying3 h2;obtain⟨k,q3,_⟩:=DataW.trod_int Tryz.underlying3 h3;have g:=fun(o:Nat) (v:Value) (h:agH 1 (agI o cs)=[v])=>(show cs.getD o undef=v by
  have:=Cm (cs:=cs) (o:=o) (n:=1) (j:=0) (by decide)
  rw[h]at this;simpa using this.symm)
 exact⟨⟨r,a,b,k⟩,g 0 _ q0,g 1 _ q1,g 2 _ q2,g 3 _ q3⟩
theorem ai8:∀(n:Nat) (p:Nat→Du→Prop),(∀i,i<n→∃d,p i d)→∃l:List Du,l.length=n∧∀i,i<n→p i (l.getD i du0):=by
 intro n;induction n with
 |zero=>intro p _;exact⟨[],rfl,fun i hi=>by omega⟩
 |succ n ih=>
  intro p h;obtain⟨l,h1,h2⟩:=ih p fun i hi=>h i (by omega)
  obtain⟨d,hd⟩:=h n (by omega)
  refine⟨l++[d],by simp[h1],fun i hi=>?_⟩
  by_cases e:i=n
  ·subst e;rw[show(l++[d]).getD i du0=d by simp[aeo,←h1]];exact hd
  ·rw[show(l++[d]).getD i du0=l.getD i du0 by simp only[aeo];rw[List.getElem?_append_left (by omega)]]
   exact h2 i (by omega)
theorem aiP {v:Value} {d:DataW H} {qs:List MemPlace} {base:Nat} {r:Reach} (hval:Value.okWide Tryz.prog W r base 53 v) (hd:∃fuel,DataW.trod enc Tryz.prog W 0 (fun _=>true) true fuel 53 v.cells.toList=some (d,qs)):∃l:List Du,l.length≤maxLen∧Rep (jr W) W noI (.isl (duL l) .none) v:=by
 have hc:Cell.okWide Tryz.prog W r base 53 v:=by unfold Value.okWide at hval;rw[Tryz.underlying53]at hval;exact hval
 obtain⟨a,n,c,rfl⟩:=okWide_slice Tryz.underlying53 hval;have hsp:=vH hc;obtain⟨fuel,hf⟩:=hd;have c40:Tryz.prog.cellsOf 40=4:=by kernel_rfl
 rcases DataW.trod_slice Tryz.underlying53 hf with⟨e,_⟩|⟨a,len,cap,elems,rest,m,_,e,_,_,hl,hm,hlen,hel,hsp1,_⟩
 ·have e:=(List.cons.inj e).1
  rw[e];exact⟨[],by decide,.islnil _ _ _ rfl⟩
 have e:=(List.cons.inj e).1;rw[e]at hsp⊢;have hspot:a.spot=none:=hsp a len cap rfl;obtain⟨b,off,spot⟩:=a;simp only at hspot;subst hspot;have key:∀j,j<len→∃d:Du,∀i,i<4→(rd W b (off+j*4+i))=some ((duC d).map (fun p=>match p with|.str s=>Value.string s|.int k n=>.int k n|_=>undef) |>.getD i undef):=by
  intro j hj;have hE:=hel j hj;rw[c40]at hE;obtain⟨y,hy⟩:∃y,elems[j]? =some y:=⟨_,aev (by omega)⟩
  rw[hy]at hE;simp only[ajK]at hE;obtain⟨c1,hc1,hy1⟩:=hE;obtain⟨z1,z2⟩:=ai7 hc1;obtain⟨d,d0,d1,d2,d3⟩:=ajp hy1;refine⟨d,fun i hi=>?_⟩;have:=z2 i hi;rw[dN,dN,fD]at this;rw[this];obtain rfl|rfl|rfl|rfl:i=0∨i=1∨i=2∨i=3:=by omega
  ·rw[d0];rfl
  ·rw[d1];rfl
  ·rw[d2];rfl
  ·rw[d3];rfl
 obtain⟨l,hll,hlx⟩:=ai8 len _ key;refine⟨l,by omega,?_⟩
 have hcnt:(duL l).cnt=len:=hll;have hat:∀j,j<l.length*4→rd W b (off+j)=some ((duC (l.getD (j / 4) du0)).map (fun p=>match p with|.str s=>Value.string s|.int k n=>.int k n|_=>undef) |>.getD (j % 4) undef):=fun j hj=>by
  have:=hlx (j / 4) (by omega) (j % 4) (afa _ (by decide))
  rw[show off+j / 4*4+j % 4=off+j by omega]at this
  exact this
 have hrep:=Rep.isl (S:=jr W) (w:=W) noI (duL l) .none b off cap (by rw[hcnt];exact hl)
  (fun j hj=>by show(rd W b (off+j)).isSome;rw[hat j hj];rfl)
  (fun j hj=>by
   have e1:rdv W b (off+j)=((duC (l.getD (j / 4) du0)).map (fun p=>match p with|.str s=>Value.string s|.int k n=>.int k n|_=>undef) |>.getD (j % 4) undef):=by unfold rdv;rw[hat j hj];rfl
   rw[e1];show Rep (jr W) W noI (aC (duC (l.getD (j / 4) du0)) (j % 4)) _;generalize l.getD (j / 4) du0=d
   have:=afa j (show 0<4 by decide)
   generalize j % 4=i at this
   obtain rfl|rfl|rfl|rfl:i=0∨i=1∨i=2∨i=3:=by omega
   ·exact .str _ _
   ·exact .int _ _ _
   ·exact .int _ _ _
   ·exact .int _ _ _)
  (fun e=>by cases e) (fun k e=>by cases e)
 rw[hcnt]at hrep;simpa using hrep
end
end Go.Eng.YtcechbdgokjmgaaGreatDoor
