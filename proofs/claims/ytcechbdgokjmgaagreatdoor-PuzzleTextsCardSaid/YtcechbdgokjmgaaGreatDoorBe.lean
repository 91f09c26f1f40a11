/- The base of the claims of this seat: an engine that walks through functions with symbolic values, its soundness, and contracts of the functions that every law calls. Conditions stand in the contracts. -/
import Derived.Test.YtcechbdgokjmgaaGreatDoorBd
open Array renaming length_toList→aeO
open Bool renaming false_and→agn,true_and→agO,eq_iff_iff→af7,and_false→agR,and_eq_true→aeA,not_eq_true'→ag8,or_false→ag9
open Classical renaming not_not→ae2,propDecidable→agS
open Int renaming one_mul→agb,toNat→agt,toNat_natCast→afg
open List renaming any_eq_false→agD,length_map→af0,mem_append→aep,mem_singleton→agL,any_eq_true→agC,take_length→af5,length_filter_le→agM,take_add_one→af3,getD_eq_getElem?_getD→aeo,getElem?_eq_getElem→aev,range→ael,mem_flatten→agP,getElem_of_mem→aeu,mem_map→agQ,mem_range→afY,all_eq_true→afI,length_take→ae0,length_append→afu,length_cons→ad4,length_nil→adY,mem_cons_self→afZ,mem_cons_of_mem→aek,isPrefixOf→agT,toArray→agU,size_toArray→afX,length_drop→agV,take→agH,mem_cons→afD,getElem_mem→agr,drop→agI,map_append→af4,ext_getElem→agW,getElem_set→agX,getElem_map→agY,getElem_range→agZ,range_succ→ag0,flatMap_append→ag1,filter_append→ag2,filter_cons→ag3,filter_nil→ag4,map_cons→aen,append_assoc→ag5,append_nil→agN,map_flatMap→ag6,mem_flatMap→ag7,mem_filter→agh,getElem?_map→ae7,filter_eq_self→aha,getElem?_set_ne→aeQ,getElem_set_ne→ahb,set_cons_succ→ahc
open Nat renaming le_refl→aea,le_trans→afW
namespace Go.Eng.YtcechbdgokjmgaaGreatDoor
open Go.Proofs
set_option linter.unusedSimpArgs false
set_option linter.unusedVariables false
set_option maxHeartbeats 0
set_option maxRecDepth 100000
abbrev Vw:PV:=.fn (.func 212) [] [.rp 0 0,.rp 1 0,.rp 2 0]
abbrev aaT (c:Int) (ls:List (List Int)) (sum:Int) (gv:List Int) (s:St) (o:List Int):List AO:=[.cells (.pv [.isl (.ints .i64 o) .none]) false,.cells (.pv [bdV c ls sum gv s]) false,.cells (.pv [Vw]) false]
structure Vx (c:Int) (ls:List (List Int)) (sum:Int) (s:St) (o:List Int) (a:Nat) (used:List Int) (R:Int):Prop where
 bd:bO c ls sum s
 rng:∀z∈o,0≤z∧z<c
 le:a≤o.length∧o.length≤16
 us:InM used
 bnd: -2000000000+16*((o.length:Int)-a)≤R∧R≤2000000000
def Aw (c:Int) (ls:List (List Int)) (sum:Int) (gv:List Int) (s:St) (o:List Int) (a0:Nat):LSp:=fun xs objs K=>match xs,objs with
 | [.int .i64 a,.int .u32 m,.int .i64 R,.rp 0 0,.rp 1 0,.rp 2 0],[.cells (.pv [.isl (.ints .i64 o') .none]) false,.cells (.pv [p]) false,.cells (.pv [f]) false]=>
  ∃used:List Int,VC (a=(a0:Int)∧m=(mk used:Nat)∧o'=o∧p=bdV c ls sum gv s∧f=Vw∧Vx c ls sum s o a0 used R)∧K [.bp (chs s (o.drop a0) used R)] [.cells (.pv [.isl (.ints .i64 o') .none]) false,.cells (.pv [p]) false,.cells (.pv [f]) false]
 |_,_=>False
noncomputable def abW (L:LSp):CPT:=aA 149 (aB zA) (aA 212 (dP [] L) noC)
theorem Ph (c:Int) (ls:List (List Int)) (sum:Int) (gv:List Int) (s:St) (o:List Int):∀(d a:Nat) (used:List Int) (R:Int),o.length-a=d→Vx c ls sum s o a used R→
 gL Tryz.prog 212 [.int .i64 (a:Int),.int .u32 (mk used:Nat),.int .i64 R,.rp 0 0,.rp 1 0,.rp 2 0] (aaT c ls sum gv s o) [.bp (chs s (o.drop a) used R)] (aaT c ls sum gv s o):=by
 intro d;induction d with
 |zero=>
  intro a used R hd h;have hle:=h.le;have:a=o.length:=by omega
  subst this;rw[List.drop_length];refine bG (md:=1) (rf:=[]) mixed ak aD 3 [] Tryz.func212 (by rfl) (by rfl) (by rfl) ?_
  repeat'((conv=>whnf);first|(intro hq;(try simp only[vw]at hq);try first|exact absurd hq (by decide)|exfalso;omega)|apply aI|with_reducible exact vM rfl|exact⟨⟩|apply nM|apply fM)
  all_goals((try apply vM);(try simp only[vq]at*);try omega)
 |succ d ih=>
  intro a used R hd h;have hle:=h.le;have hlt:a<o.length:=by omega
  have hL:LOK Tryz.prog 212 (Aw c ls sum gv s o (a+1)):=by
   intro xs objs K hk;unfold Aw at hk;split at hk
   ·obtain⟨u,⟨rfl,rfl,rfl,rfl,rfl,h1⟩,hk⟩:=hk
    exact⟨_,_,hk,ih (a+1) u _ (by omega) h1⟩
   ·exact hk.elim
  have hcp:aW Tryz.prog (abW (Aw c ls sum gv s o (a+1))):=aj (au Aq) (aj (cu [] hL) aD);have hbd:=h.bnd;have hy:=h.rng _ (bL hlt);have hxs:=h.bd.at hy;have hm:(ms s.cs).getD (o.getD a 0).toNat 0=(mk (s.cd (o.getD a 0).toNat):Nat):=eP hxs.1;have hA:=(h.bd.asc _ hxs.1).1;have hlen:=bQ s.cs;obtain⟨C,hC⟩:∃C,(s.cd (o.getD a 0).toNat).filter (fun x=>!decide (x∈used))=C:=⟨_,rfl⟩;have hCA:Asc C:=by rw[←hC];exact hA.filter _
  have hnot:=OD hA.inM h.us;rw[hC]at hnot;have hch:chs s (o.drop a) used R=C.any fun x=>chs s (o.drop (a+1)) (used++[x]) (R-x):=by rw[drop_cons hlt,chs,hC]
  rw[hch];refine bG (md:=1) (rf:=[]) mixed ak hcp 3 [] Tryz.func212 (by rfl) (by rfl) (by rfl) ?_
  repeat'((conv=>whnf);first|(intro hq;(try simp only[vw]at hq);try first|exact absurd hq (by decide)|exfalso;omega)|apply aI|with_reducible exact vM rfl|exact⟨⟩|apply nM|apply fM)
  all_goals((try apply vM);(try simp only[vq]at*);try omega)
  all_goals(try omega)
  rw[hm,hnot];conv=>whnf
  refine gU aK mixed ak hcp (fun r=>aQ) (fs:=[]) (cs:=[.ip (.pv [.int .u32 (mk C:Nat)]) 0]) (C.map (PV.int .i64)) (fun i=>!chs s (o.drop (a+1)) (used++[C.getD i 0]) (R-C.getD i 0)) (fun i=>[]) (by rfl) (by rfl) (by rfl) (jH C hCA) (by rfl) (by rfl) (by rfl) (by rfl) ?_ ?_ ?_
  ·repeat'((conv=>whnf);first|intro _|apply aI|with_reducible exact vM rfl|exact⟨⟩|apply nM|apply fM)
   all_goals((try apply vM);(try simp only[vq]at*);try omega)
  ·intro hall
   repeat'((conv=>whnf);first|intro _|apply aI|with_reducible exact vM rfl|exact⟨⟩|apply nM|apply fM)
   all_goals((try apply vM);(try simp only[vq]at*);try omega)
   rw[eq_comm,agD];intro x hx h1;obtain⟨i,hi,rfl⟩:=(iG C x).1 hx;have:=hall i (by rw[af0];exact hi)
   rw[h1]at this;cases this
  ·intro i x hx hall lp
   obtain⟨hi,rfl⟩:=oq hx;have hxC:=bL hi;have hxr:=hCA.rng _ hxC;have hor:=rQ h.us (show 0≤C.getD i 0∧C.getD i 0≤31 by omega)
   have hus:InM (used++[C.getD i 0]):=fun z hz=>by
    rcases aep.1 hz with h1|h1
    ·exact h.us z h1
    ·rw[agL.1 h1];omega
   have hsb:=gQ (C.getD i 0).toNat (by omega)
   repeat'((conv=>whnf);first|apply Exists.intro (used++[C.getD i 0])|(intro hq;(try simp only[vw]at hq);try first|exact absurd hq (by decide)|exfalso;omega)|apply aI|with_reducible exact vM rfl|exact⟨⟩|apply nM|apply fM)
   all_goals((try apply vM);(try simp only[vq]at*);try omega)
   all_goals(try omega)
   ·exact⟨by omega,hor,h.bd,h.rng,by omega,hus,by omega⟩
   ·rw[hq];rfl
   ·symm
    rw[agC];exact⟨_,hxC,hq⟩
   ·refine⟨[],?_⟩
    repeat'((conv=>whnf);first|intro _|apply aI|with_reducible exact vM rfl|exact⟨⟩|apply nM|apply fM)
    all_goals((try apply vM);(try simp only[vq]at*);try omega)
    all_goals(try(rw[hq];rfl))
theorem aaU (c:Int) (ls:List (List Int)) (sum:Int) (gv:List Int) (s:St) (o:List Int) (a:Nat):LOK Tryz.prog 212 (Aw c ls sum gv s o a):=by
 intro xs objs K hk;unfold Aw at hk;split at hk
 ·obtain⟨u,⟨rfl,rfl,rfl,rfl,rfl,h1⟩,hk⟩:=hk
  exact⟨_,_,hk,Ph _ _ _ _ _ _ _ _ u _ rfl h1⟩
 ·exact hk.elim
theorem zJ (c:Int) (ls:List (List Int)) (sum:Int) (gv:List Int) (s:St) (h:bO c ls sum s) (r:ByteArray) (y x k:Int) (hk:0≤k∧k<ls.length) (hx:1≤x∧x≤c):
 aF Tryz.prog 176 [bdV c ls sum gv s,ddV r y x k] (.bp (xU s sum (ls.getD k.toNat []) y x)):=by
 have hln:=h.ln k.toNat (by omega)
 have hll:=hln.len;have hsm:=h.sm;have hc:=h.c1;have hRb:=Fh h hln.rng _ (aea _);rw[af5]at hRb;have ho:∀z∈(opn s (ls.getD k.toNat []) y),0≤z∧z<c:=fun z hz=>hln.rng z (Jv hz);have hol:(opn s (ls.getD k.toNat []) y).length≤16:=afW (agM _ _) hll;have hone:(1:Int)*2 ^ x.toNat=((mk [x]:Nat):Int):=by rw[mk_one,agb];norm_cast
 have hsb:=gQ x.toNat (by omega)
 have hcp:aW Tryz.prog (aA 151 (aB zH) (aA 212 (dP [] (Aw c ls sum gv s (opn s (ls.getD k.toNat []) y) 0)) noC)):=aj (au Av) (aj (cu [] (aaU c ls sum gv s (opn s (ls.getD k.toNat []) y) 0)) aD);unfold xU;refine av (md:=1) (rf:=[20]) mixed ak hcp Tryz.func176 (by rfl) (by rfl) (by rfl) ?_
 repeat'((conv=>whnf);first|apply Exists.intro (s)|(intro hq;(try simp only[vw]at hq);try first|exact absurd hq (by decide)|exfalso;omega)|apply aI|with_reducible exact vM rfl|exact⟨⟩|apply nM|apply fM)
 all_goals((try apply vM);(try simp only[vq]at*);try omega)
 ·exact⟨h,hk⟩
 ·rw[decide_eq_false (p:=(opn s (ls.getD k.toNat []) y).length<4) (by omega),agn];all_goals(refine Sup.via ?_;repeat'((conv=>whnf);first|intro _|apply aI|with_reducible exact vM rfl|exact⟨⟩|apply nM|apply fM);all_goals((try apply vM);(try simp only[vq]at*);try omega);all_goals(try(simp[CL.sub];done)))
 all_goals(try omega)
 repeat'((conv=>whnf);first|apply Exists.intro ([x])|(intro hq;(try simp only[vw]at hq);try first|exact absurd hq (by decide)|exfalso;omega)|apply aI|with_reducible exact vM rfl|exact⟨⟩|apply nM|apply fM)
 all_goals((try apply vM);(try simp only[vq]at*);try omega)
 ·refine⟨rfl,hone,h,ho,by omega,fun z hz=>?_,by omega⟩
  rw[agL.1 hz];omega
 ·rw[decide_eq_true (p:=(opn s (ls.getD k.toNat []) y).length<4) (by omega),agO];exact Sup.of rfl
theorem sO:POK Tryz.prog 176 (jK xU):=xZ fun c ls sum gv s h r y x k hk hy hx=>zJ c ls sum gv s h r y x k hk hx
theorem dK (b:Bool):Sup (bF [PV.bool b]) (PV.bp b):=⟨fun h=>by cases h;exact .bp _ _⟩
noncomputable def acZ:CPT:=aA 150 (aB LM) (aA 151 (aB zH) noC)
theorem Ay:aW Tryz.prog acZ:=aj (au XV) (aj (au Av) aD)
theorem Pj (cs:List (List Int)) (i:Nat) (hi:i<cs.length):(cs.take (i+1)).flatten=(cs.take i).flatten++cs.getD i []:=by
 have e:cs.take (i+1)=cs.take i++[cs.getD i []]:=by rw[af3,aeo,aev hi];rfl
 rw[e,List.flatten_append];simp
theorem x9 {c:Int} (hc:1≤c∧c≤16):(1:Int)*2 ^ (c+1).toNat-2=(mk ((ael c.toNat).map fun i:Nat=>(i:Int)+1):Nat):=by
 obtain rfl|rfl|rfl|rfl|rfl|rfl|rfl|rfl|rfl|rfl|rfl|rfl|rfl|rfl|rfl|rfl:c=1∨c=2∨c=3∨c=4∨c=5∨c=6∨c=7∨c=8∨c=9∨c=10∨c=11∨c=12∨c=13∨c=14∨c=15∨c=16:=by omega
 all_goals decide
theorem Yd {c:Int} {ls:List (List Int)} {sum:Int} {s:St} (h:bO c ls sum s):((ael c.toNat).all fun i=>s.cs.any fun l=>decide (((i:Int)+1)∈l))=decide ((mk s.cs.flatten:Int)=1*2 ^ (c+1).toNat-2):=by
 have hc:=h.c1;have hfl:∀x∈s.cs.flatten,1≤x∧x≤c:=fun x hx=>by
  obtain⟨l,hl,hx⟩:=agP.1 hx;obtain⟨j,hj,rfl⟩:=aeu hl;have h1:=h.asc j hj;have e:s.cd j=s.cs[j]:=by unfold St.cd;rw[aeo,aev hj];rfl
  rw[e]at h1;exact⟨(h1.1.rng x hx).1,h1.2 x hx⟩
 have hR:∀x,x∈(ael c.toNat).map (fun i:Nat=>(i:Int)+1)↔1≤x∧x≤c:=fun x=>by
  rw[agQ];constructor
  ·rintro⟨i,hi,rfl⟩;have:=afY.1 hi;omega
  ·intro hx;exact⟨(x-1).toNat,afY.2 (by omega),by omega⟩
 rw[x9 hc,af7,afI,decide_eq_true_eq,Int.natCast_inj];constructor
 ·intro hA
  refine aaI (fun x hx=>by have:=hfl x hx;omega) (fun x hx=>by have:=(hR x).1 hx;omega) fun x=>?_
  rw[hR];refine⟨hfl x,fun hx=>?_⟩;have:=hA (x-1).toNat (afY.2 (by omega))
  obtain⟨l,hl,hm⟩:=agC.1 this;rw[decide_eq_true_eq,show(((x-1).toNat:Nat):Int)+1=x by omega]at hm
  exact agP.2 ⟨l,hl,hm⟩
 ·intro hE i hi
  have hi:=afY.1 hi;have:=(mk_inj (fun x hx=>by have:=hfl x hx;omega) (fun x hx=>by have:=(hR x).1 hx;omega) hE ((i:Int)+1)).2 ((hR _).2 (by omega))
  obtain⟨l,hl,hm⟩:=agP.1 this;exact agC.2 ⟨l,hl,decide_eq_true hm⟩
theorem Ye {c:Int} {ls:List (List Int)} {sum:Int} {s:St} (h:bO c ls sum s):((ms s.cs).any fun y=>decide (0=y))=s.cs.any fun l=>decide (l=[]):=by
 unfold ms;rw[List.any_map,af7,agC,agC];have hA:∀l∈s.cs,Asc l:=fun l hl=>by
  obtain⟨j,hj,rfl⟩:=aeu hl;have h1:=(h.asc j hj).1;unfold St.cd at h1;rw[aeo,aev hj]at h1;exact h1
 constructor
 ·rintro⟨l,hl,h1⟩
  simp only[Function.comp,decide_eq_true_eq]at h1;exact⟨l,hl,decide_eq_true ((mk_zero (hA l hl).inM).1 (by omega))⟩
 ·rintro⟨l,hl,h1⟩
  refine⟨l,hl,?_⟩;simp only[Function.comp,decide_eq_true_eq]at h1⊢;have:=(mk_zero (hA l hl).inM).2 h1;omega
def lbk (sum:Int) (s:St) (l:List Int):Bool:=decide ((opn s l (-1)).length=0)&&decide (rst s sum l≠0)
theorem Ik (c:Int) (ls:List (List Int)) (sum:Int) (gv:List Int) (s:St) (h:bO c ls sum s):aF Tryz.prog 90 [bdV c ls sum gv s] (.bp (brk c ls sum s)):=by
 have hc:=h.c1;have hcl:=h.cl;have hlen:=bQ s.cs;have hll:=h.ll;have hsb:=gQ (c+1).toNat (by omega)
 have ham:=x9 hc;have hin:∀i,i≤s.cs.length→InM (s.cs.take i).flatten:=fun i hi x hx=>by
  obtain⟨l,hl,hx⟩:=agP.1 hx;obtain⟨j,hj,rfl⟩:=aeu (List.mem_of_mem_take hl);have:=(h.asc j hj).1.rng x (by unfold St.cd;rw[aeo,aev hj];exact hx)
  omega
 refine av (md:=1) (rf:=[]) mixed ak Ay Tryz.func90 (by rfl) (by rfl) (by rfl) ?_
 repeat'((conv=>whnf);first|apply Exists.intro (s)|(intro hq;(try simp only[vw]at hq);try first|exact absurd hq (by decide)|exfalso;omega)|apply aI|with_reducible exact vM rfl|exact⟨⟩|apply nM|apply fM)
 all_goals((try apply vM);(try simp only[vq]at*);try omega)
 conv=>whnf
 refine aM (X:=Nat) (fun i=>i≤s.cs.length) (fun i=>[(14,.int .i64 i),(3,.int .u32 (mk (s.cs.take i).flatten:Nat))]) (fun i=>[]) (fun i=>s.cs.length-i) 0 ⟨aK,mixed,ak,Ay,aQ⟩ (by rfl) (by omega) ?_ ?_
 ·repeat'((conv=>whnf);first|intro _|apply aI|with_reducible exact vM rfl|exact⟨⟩|apply nM|apply fM)
  all_goals((try apply vM);(try simp only[vq]at*);try omega)
  all_goals rfl
 intro i hi;by_cases hlt:i<s.cs.length
 ·have hm:(ms s.cs).getD i 0=(mk (s.cd i):Nat):=eP hlt
  have hA:=(h.asc _ hlt).1;have hor:=aaK (hin i hi) hA.inM;have e1:=Pj s.cs i hlt
  repeat'((conv=>whnf);first|apply Exists.intro (s)|(intro hq;(try simp only[vw]at hq);try first|exact absurd hq (by decide)|exfalso;omega)|apply aI|with_reducible exact vM rfl|exact⟨⟩|apply nM|apply fM)
  all_goals((try apply vM);(try simp only[vq]at*);try omega)
  refine⟨i+1,[],⟨by omega,by omega⟩,?_⟩
  rw[e1]
  repeat'((conv=>whnf);first|intro _|apply aI|with_reducible exact vM rfl|exact⟨⟩|apply nM|apply fM)
  all_goals((try apply vM);(try simp only[vq]at*);try omega)
  all_goals(rw[hm];exact hor)
 ·have:i=s.cs.length:=by omega
  subst this;rw[af5];have a1:=Yd h;have a2:=Ye h
  repeat'((conv=>whnf);first|apply Exists.intro (s)|(intro hq;(try simp only[vw]at hq);try first|exact absurd hq (by decide)|exfalso;omega)|apply aI|with_reducible exact vM rfl|exact⟨⟩|apply nM|apply fM)
  all_goals((try apply vM);(try simp only[vq]at*);try omega)
  all_goals(try omega)
  ·rename_i h1
   rw[decide_eq_true (ae2.1 h1)]at a1;rw[hq]at a2;have hb:brk c ls sum s=true:=by unfold brk;rw[a1,←a2];rfl
   rw[hb];exact dK _
  ·rename_i h1
   rw[decide_eq_true (ae2.1 h1)]at a1;rw[hq]at a2;have hb:brk c ls sum s=ls.any (lbk sum s):=by
    unfold brk;rw[a1,←a2];rfl
   rw[hb];conv=>whnf
   refine aM (X:=Nat) (fun i=>i≤ls.length∧∀j,j<i→lbk sum s (ls.getD j [])=false) (fun i=>[(47,.int .i64 i)]) (fun i=>[]) (fun i=>ls.length-i) 0 ⟨aK,mixed,ak,Ay,aQ⟩ (by rfl) ⟨by omega,fun j hj=>by omega⟩ ?_ ?_
   ·repeat'((conv=>whnf);first|intro _|apply aI|with_reducible exact vM rfl|exact⟨⟩|apply nM|apply fM)
    all_goals((try apply vM);(try simp only[vq]at*);try omega)
   intro i ⟨hi,hok⟩;have nxt:lbk sum s (ls.getD i [])=false→∀j,j<i+1→lbk sum s (ls.getD j [])=false:=fun a j hj=>by
    by_cases e:j=i
    ·subst e;exact a
    ·exact hok j (by omega)
   by_cases hlt:i<ls.length
   ·repeat'((conv=>whnf);first|apply Exists.intro (s)|(intro hq;(try simp only[vw]at hq);try first|exact absurd hq (by decide)|exfalso;omega)|apply aI|with_reducible exact vM rfl|exact⟨⟩|apply nM|apply fM)
    all_goals((try apply vM);(try simp only[vq]at*);try omega)
    ·exact⟨h,by omega,by omega⟩
    ·rename_i h2
     have:ls.any (lbk sum s)=true:=agC.2 ⟨_,kR hlt,by unfold lbk;rw[decide_eq_true (p:=(opn s (ls.getD i []) (-1)).length=0) (by omega),decide_eq_true hq];rfl⟩
     rw[this];exact dK _
    ·refine⟨i+1,[],⟨⟨by omega,nxt (by unfold lbk;rw[decide_eq_false hq,agR])⟩,by omega⟩,?_⟩
     repeat'((conv=>whnf);first|intro _|apply aI|with_reducible exact vM rfl|exact⟨⟩|apply nM|apply fM)
     all_goals((try apply vM);(try simp only[vq]at*);try omega)
    ·refine⟨i+1,[],⟨⟨by omega,nxt (by unfold lbk;rw[decide_eq_false (p:=(opn s (ls.getD i []) (-1)).length=0) (by omega),agn])⟩,by omega⟩,?_⟩
     repeat'((conv=>whnf);first|intro _|apply aI|with_reducible exact vM rfl|exact⟨⟩|apply nM|apply fM)
     all_goals((try apply vM);(try simp only[vq]at*);try omega)
   ·have:i=ls.length:=by omega
    subst this;have:ls.any (lbk sum s)=false:=by
     rw[agD];intro l hl;obtain⟨j,hj,rfl⟩:=aeu hl;have:=hok j hj;rw[aeo,aev hj]at this;rw[show lbk sum s ls[j]=false from this];simp
    rw[this]
    repeat'((conv=>whnf);first|apply Exists.intro (s)|(intro hq;(try simp only[vw]at hq);try first|exact absurd hq (by decide)|exfalso;omega)|apply aI|with_reducible exact vM rfl|exact⟨⟩|apply nM|apply fM)
    all_goals((try apply vM);(try simp only[vq]at*);try omega)
    exact dK _
  ·rw[decide_eq_false hq]at a1
   have hb:brk c ls sum s=true:=by unfold brk;rw[a1];rfl
   rw[hb];exact dK _
def nY (f:Int→List (List Int)→Int→St→Bool):PSp:=fun xs K=>match xs with
 | [.ip (.pv [.int .i64 c,.isl (.rows .i64 ls) .none,.int .i64 sum,.isl (.ints .i64 gv) .none,.isl (.ints .u32 M) .none,.isl (.bools D) .none]) 0]=>∃s:St,VC (M=ms s.cs∧D=s.ds∧bO c ls sum s)∧K (.bp (f c ls sum s))
 |_=>False
theorem JA {g:Nat} {f:Int→List (List Int)→Int→St→Bool} (hf:∀(c:Int) (ls:List (List Int)) (sum:Int) (gv:List Int) (s:St) (h:bO c ls sum s),aF Tryz.prog g [bdV c ls sum gv s] (.bp (f c ls sum s))):POK Tryz.prog g (nY f):=by
 intro xs K hk;unfold nY at hk;split at hk
 ·obtain⟨s,⟨rfl,rfl,h⟩,hk⟩:=hk
  exact⟨_,hk,hf _ _ _ _ s h⟩
 ·exact hk.elim
theorem uR:POK Tryz.prog 90 (nY brk):=JA fun c ls sum gv s h=>Ik c ls sum gv s h
noncomputable def ac0:CPT:=aA 152 (aB LG) noC
theorem Yf:aW Tryz.prog ac0:=aj (au XP) aD
theorem Pk (c:Int) (ls:List (List Int)) (sum:Int) (gv:List Int) (s:St) (h:bO c ls sum s):aF Tryz.prog 91 [bdV c ls sum gv s] (.bp (don s)):=by
 have hc:=h.c1;have hdl:=h.dl;unfold don;refine av (md:=1) (rf:=[]) mixed ak Yf Tryz.func91 (by rfl) (by rfl) (by rfl) ?_
 repeat'((conv=>whnf);first|apply Exists.intro (s)|(intro hq;(try simp only[vw]at hq);try first|exact absurd hq (by decide)|exfalso;omega)|apply aI|with_reducible exact vM rfl|exact⟨⟩|apply nM|apply fM)
 all_goals((try apply vM);(try simp only[vq]at*);try omega)
 exact Sup.of (congrArg (fun f=>PV.bp (!s.ds.any f)) (funext fun b=>by cases b<;>rfl))
theorem JB:POK Tryz.prog 91 (nY fun _ _ _ s=>don s):=JA fun c ls sum gv s h=>Pk c ls sum gv s h
theorem Pm (l:List Bool) (hl:1≤l.length∧l.length≤1000000):aF Tryz.prog 147 [.isl (.bools l) .none] (.isl (.bools l) .none):=by
 refine av (md:=1) (rf:=[]) mixed ak aD Tryz.func147 (by rfl) (by rfl) (by rfl) ?_
 repeat'((conv=>whnf);first|intro _|apply aI|with_reducible exact vM rfl|exact⟨⟩|apply nM|apply fM)
 all_goals((try apply vM);(try simp only[vq]at*);try omega)
 all_goals first|(simp;omega)|exact Sup.of rfl
def Ml:PSp:=fun xs K=>match xs with
 | [.isl (.bools l) .none]=>VC (1≤l.length∧l.length≤1000000)∧K (.isl (.bools l) .none)
 |_=>False
theorem Yg:POK Tryz.prog 147 Ml:=by
 intro xs K h;unfold Ml at h;split at h
 ·exact⟨_,h.2,Pm _ h.1.get⟩
 ·exact h.elim
noncomputable def ac1:CPT:=aA 147 (aB Ml) (aA 148 (aB LJ) (aA 149 (aB zA) noC))
theorem wu:aW Tryz.prog ac1:=aj (au Yg) (aj (au XR) (aj (au Aq) aD))
abbrev stV (s:St):PV:=.agg [.isl (.rows .i64 s.cs) .none,.isl (.bools s.ds) .none]
theorem Mq (c:Int) (ls:List (List Int)) (sum:Int) (gv:List Int) (s:St) (h:bO c ls sum s):aF Tryz.prog 87 [bdV c ls sum gv s] (stV s):=by
 have hc:=h.c1;have hcl:=h.cl;have hdl:=h.dl;have hlen:=bQ s.cs;refine av (md:=1) (rf:=[]) mixed ak wu Tryz.func87 (by rfl) (by rfl) (by rfl) ?_
 repeat'((conv=>whnf);first|intro _|apply aI|with_reducible exact vM rfl|exact⟨⟩|apply nM|apply fM)
 all_goals((try apply vM);(try simp only[vq]at*);try omega)
 conv=>whnf
 refine aM (X:=Nat) (fun i=>i≤s.cs.length) (fun i=>[(17,.int .i64 i)]) (fun i=>[(5,.cells (.pv [.isl (.rows .i64 (s.cs.take i)) (.own 9),.isl (.bools s.ds) .none]) false),(9,.tok 1 i)]) (fun i=>s.cs.length-i) 0 ⟨aK,mixed,ak,wu,aQ⟩ (by rfl) (by omega) ?_ ?_
 ·repeat'((conv=>whnf);first|intro _|apply aI|with_reducible exact vM rfl|exact⟨⟩|apply nM|apply fM)
  all_goals((try apply vM);(try simp only[vq]at*);try omega)
 intro i hi;by_cases hlt:i<s.cs.length
 ·have hm:(ms s.cs).getD i 0=(mk (s.cd i):Nat):=eP hlt
  have hA:=(h.asc _ hlt).1;have e1:(s.cs.take i).length=i:=by rw[ae0];omega
  have e2:s.cs.take i++[s.cd i]=s.cs.take (i+1):=by
   unfold St.cd;rw[af3,aeo,aev hlt];rfl
  repeat'((conv=>whnf);first|apply Exists.intro (s.cd i)|(intro hq;(try simp only[vw]at hq);try first|exact absurd hq (by decide)|exfalso;omega)|apply aI|with_reducible exact vM rfl|exact⟨⟩|apply nM|apply fM)
  all_goals((try apply vM);(try simp only[vq]at*);try omega)
  all_goals(try(simp only[afu,ae0,ad4,adY];omega))
  ·exact⟨hm,hA⟩
  refine⟨i+1,[],⟨by omega,by omega⟩,?_⟩
  repeat'((conv=>whnf);first|intro _|apply aI|with_reducible exact vM rfl|exact⟨⟩|apply nM|apply fM)
  all_goals((try apply vM);(try simp only[vq]at*);try omega)
  all_goals(try(rw[e2]))
 ·have:i=s.cs.length:=by omega
  subst this;rw[af5]
  repeat'((conv=>whnf);first|intro _|apply aI|with_reducible exact vM rfl|exact⟨⟩|apply nM|apply fM)
  all_goals((try apply vM);(try simp only[vq]at*);try omega)
  exact Sup.of rfl
def FI:PSp:=fun xs K=>match xs with
 | [.ip (.pv [.int .i64 c,.isl (.rows .i64 ls) .none,.int .i64 sum,.isl (.ints .i64 gv) .none,.isl (.ints .u32 M) .none,.isl (.bools D) .none]) 0]=>∃s:St,VC (M=ms s.cs∧D=s.ds∧bO c ls sum s)∧K (stV s)
 |_=>False
theorem RO:POK Tryz.prog 87 FI:=by
 intro xs K hk;unfold FI at hk;split at hk
 ·obtain⟨s,⟨rfl,rfl,h⟩,hk⟩:=hk
  exact⟨_,hk,Mq _ _ _ _ s h⟩
 ·exact hk.elim
abbrev rY:ByteArray:=⟨#[]⟩
abbrev bJ:ByteArray:=⟨#[108,97,115,116]⟩
abbrev bU:ByteArray:=⟨#[111,110,108,121]⟩
abbrev bV:ByteArray:=⟨#[112,108,97,99,101]⟩
abbrev bR:ByteArray:=⟨#[114,97,110,103,101]⟩
abbrev bS:ByteArray:=⟨#[99,104,111,105,99,101]⟩
abbrev kF (k:Nat):PV:=.fn (.func k) [] []
abbrev RP:PV:=.agg [.str rY,.bool false,.bool false,.nilf,.str bJ,.bool true,.bool true,kF 172,.str bU,.bool true,.bool false,kF 173,.str bV,.bool true,.bool false,kF 174,.str bR,.bool false,.bool true,kF 175,.str bS,.bool false,.bool true,kF 176]
theorem Mr:aF Tryz.prog 130 [] RP:=by
 refine av (md:=1) (rf:=[]) mixed ak aD Tryz.func130 (by rfl) (by rfl) (by rfl) ?_
 repeat'((conv=>whnf);first|intro _|apply aI|with_reducible exact vM rfl|exact⟨⟩|apply nM|apply fM)
 all_goals((try apply vM);(try simp only[vq]at*);try omega)
 all_goals exact Sup.of (show(RP:PV)=_ from rfl)
def nC:PSp:=fun xs K=>match xs with
 | []=>VC (True)∧K (RP)
 |_=>False
theorem l7:POK Tryz.prog 130 nC:=by
 intro xs K h;unfold nC at h;split at h
 ·exact⟨_,h.2,Mr⟩
 ·exact h.elim
def aP (r:ByteArray):Int:=if r=bJ then 1 else if r=bU then 2 else if r=bV then 3 else if r=bR then 4 else if r=bS then 5 else 0
noncomputable def ac2:CPT:=aA 130 (aB nC) noC
theorem JC:aW Tryz.prog ac2:=aj (au l7) aD
def nmG:Nat→ByteArray
 |1=>bJ
 |2=>bU
 |3=>bV
 |4=>bR
 |5=>bS
 |_=>rY
theorem pV:aP (nmG 1)=1∧aP (nmG 2)=2∧aP (nmG 3)=3∧aP (nmG 4)=4∧aP (nmG 5)=5:=by decide
theorem Yh {r:ByteArray} (h:∀j,0<j→j<6→nmG j≠r):aP r=0:=by
 unfold aP;rw[if_neg (fun e=>h 1 (by omega) (by omega) e.symm),if_neg (fun e=>h 2 (by omega) (by omega) e.symm),if_neg (fun e=>h 3 (by omega) (by omega) e.symm),if_neg (fun e=>h 4 (by omega) (by omega) e.symm),if_neg (fun e=>h 5 (by omega) (by omega) e.symm)]
theorem l8 (r:ByteArray):(r=bJ∧aP r=1)∨(r=bU∧aP r=2)∨(r=bV∧aP r=3)∨(r=bR∧aP r=4)∨(r=bS∧aP r=5)∨aP r=0:=by
 by_cases h1:r=bJ
 ·subst h1;exact .inl ⟨rfl,pV.1⟩
 by_cases h2:r=bU
 ·subst h2;exact .inr (.inl ⟨rfl,pV.2.1⟩)
 by_cases h3:r=bV
 ·subst h3;exact .inr (.inr (.inl ⟨rfl,pV.2.2.1⟩))
 by_cases h4:r=bR
 ·subst h4;exact .inr (.inr (.inr (.inl ⟨rfl,pV.2.2.2.1⟩)))
 by_cases h5:r=bS
 ·subst h5;exact .inr (.inr (.inr (.inr (.inl ⟨rfl,pV.2.2.2.2⟩))))
 refine .inr (.inr (.inr (.inr (.inr ?_))));unfold aP;rw[if_neg h1,if_neg h2,if_neg h3,if_neg h4,if_neg h5]
theorem Ms (r:ByteArray):aF Tryz.prog 101 [.str r] (.int .i64 (aP r)):=by
 have hs:Dp.size=4:=rfl;have hn:=pV;refine av (md:=1) (rf:=[]) mixed ak JC Tryz.func101 (by rfl) (by rfl) (by rfl) ?_
 repeat'((conv=>whnf);first|intro _|apply aI|with_reducible exact vM rfl|exact⟨⟩|apply nM|apply fM)
 all_goals((try apply vM);(try simp only[vq]at*);try omega)
 conv=>whnf
 refine aM (X:=Nat) (fun i=>i≤6∧∀j,0<j→j<i→nmG j≠r) (fun i=>[(6,.int .i64 i)]) (fun i=>[]) (fun i=>6-i) 0 ⟨aK,mixed,ak,JC,aQ⟩ (by rfl) ⟨by omega,fun j h0 hj=>by omega⟩ ?_ ?_
 ·repeat'((conv=>whnf);first|intro _|apply aI|with_reducible exact vM rfl|exact⟨⟩|apply nM|apply fM)
  all_goals((try apply vM);(try simp only[vq]at*);try omega)
 intro i ⟨hi,hok⟩;obtain rfl|rfl|rfl|rfl|rfl|rfl|rfl:i=0∨i=1∨i=2∨i=3∨i=4∨i=5∨i=6:=by omega
 ·repeat'((conv=>whnf);first|(intro hq;(try simp only[vw]at hq);try first|exact absurd hq (by decide)|exfalso;omega)|apply aI|with_reducible exact vM rfl|exact⟨⟩|apply nM|apply fM)
  all_goals((try apply vM);(try simp only[vq]at*);try omega)
  all_goals(try omega)
  refine⟨0+1,[],⟨⟨by omega,fun j h0 hj=>by omega⟩,by omega⟩,?_⟩
  repeat'((conv=>whnf);first|intro _|apply aI|with_reducible exact vM rfl|exact⟨⟩|apply nM|apply fM)
  all_goals((try apply vM);(try simp only[vq]at*);try omega)
 ·repeat'((conv=>whnf);first|(intro hq;(try simp only[vw]at hq);try first|exact absurd hq (by decide)|exfalso;omega)|apply aI|with_reducible exact vM rfl|exact⟨⟩|apply nM|apply fM)
  all_goals((try apply vM);(try simp only[vq]at*);try omega)
  all_goals(try omega)
  ·subst hq
   refine Sup.of (congrArg (PV.int .i64) ?_);exact(hn.1:aP (nmG 1)=1).symm
  refine⟨1+1,[],⟨⟨by omega,fun j h0 hj=>?_⟩,by omega⟩,?_⟩
  ·by_cases e:j=1
   ·subst e;exact hq
   ·exact hok j h0 (by omega)
  repeat'((conv=>whnf);first|intro _|apply aI|with_reducible exact vM rfl|exact⟨⟩|apply nM|apply fM)
  all_goals((try apply vM);(try simp only[vq]at*);try omega)
 ·repeat'((conv=>whnf);first|(intro hq;(try simp only[vw]at hq);try first|exact absurd hq (by decide)|exfalso;omega)|apply aI|with_reducible exact vM rfl|exact⟨⟩|apply nM|apply fM)
  all_goals((try apply vM);(try simp only[vq]at*);try omega)
  all_goals(try omega)
  ·subst hq
   refine Sup.of (congrArg (PV.int .i64) ?_);exact(hn.2.1:aP (nmG 2)=2).symm
  refine⟨2+1,[],⟨⟨by omega,fun j h0 hj=>?_⟩,by omega⟩,?_⟩
  ·by_cases e:j=2
   ·subst e;exact hq
   ·exact hok j h0 (by omega)
  repeat'((conv=>whnf);first|intro _|apply aI|with_reducible exact vM rfl|exact⟨⟩|apply nM|apply fM)
  all_goals((try apply vM);(try simp only[vq]at*);try omega)
 ·repeat'((conv=>whnf);first|(intro hq;(try simp only[vw]at hq);try first|exact absurd hq (by decide)|exfalso;omega)|apply aI|with_reducible exact vM rfl|exact⟨⟩|apply nM|apply fM)
  all_goals((try apply vM);(try simp only[vq]at*);try omega)
  all_goals(try omega)
  ·subst hq
   refine Sup.of (congrArg (PV.int .i64) ?_);exact(hn.2.2.1:aP (nmG 3)=3).symm
  refine⟨3+1,[],⟨⟨by omega,fun j h0 hj=>?_⟩,by omega⟩,?_⟩
  ·by_cases e:j=3
   ·subst e;exact hq
   ·exact hok j h0 (by omega)
  repeat'((conv=>whnf);first|intro _|apply aI|with_reducible exact vM rfl|exact⟨⟩|apply nM|apply fM)
  all_goals((try apply vM);(try simp only[vq]at*);try omega)
 ·repeat'((conv=>whnf);first|(intro hq;(try simp only[vw]at hq);try first|exact absurd hq (by decide)|exfalso;omega)|apply aI|with_reducible exact vM rfl|exact⟨⟩|apply nM|apply fM)
  all_goals((try apply vM);(try simp only[vq]at*);try omega)
  all_goals(try omega)
  ·subst hq
   refine Sup.of (congrArg (PV.int .i64) ?_);exact(hn.2.2.2.1:aP (nmG 4)=4).symm
  refine⟨4+1,[],⟨⟨by omega,fun j h0 hj=>?_⟩,by omega⟩,?_⟩
  ·by_cases e:j=4
   ·subst e;exact hq
   ·exact hok j h0 (by omega)
  repeat'((conv=>whnf);first|intro _|apply aI|with_reducible exact vM rfl|exact⟨⟩|apply nM|apply fM)
  all_goals((try apply vM);(try simp only[vq]at*);try omega)
 ·repeat'((conv=>whnf);first|(intro hq;(try simp only[vw]at hq);try first|exact absurd hq (by decide)|exfalso;omega)|apply aI|with_reducible exact vM rfl|exact⟨⟩|apply nM|apply fM)
  all_goals((try apply vM);(try simp only[vq]at*);try omega)
  all_goals(try omega)
  ·subst hq
   refine Sup.of (congrArg (PV.int .i64) ?_);exact(hn.2.2.2.2:aP (nmG 5)=5).symm
  refine⟨5+1,[],⟨⟨by omega,fun j h0 hj=>?_⟩,by omega⟩,?_⟩
  ·by_cases e:j=5
   ·subst e;exact hq
   ·exact hok j h0 (by omega)
  repeat'((conv=>whnf);first|intro _|apply aI|with_reducible exact vM rfl|exact⟨⟩|apply nM|apply fM)
  all_goals((try apply vM);(try simp only[vq]at*);try omega)
 ·rw[Yh hok]
  repeat'((conv=>whnf);first|(intro hq;(try simp only[vw]at hq);try first|exact absurd hq (by decide)|exfalso;omega)|apply aI|with_reducible exact vM rfl|exact⟨⟩|apply nM|apply fM)
  all_goals((try apply vM);(try simp only[vq]at*);try omega)
  exact Sup.of rfl
end Go.Eng.YtcechbdgokjmgaaGreatDoor
namespace Go.Eng.YtcechbdgokjmgaaGreatDoor
open Go.Proofs Go.RowKit
set_option linter.unusedSimpArgs false
set_option linter.unusedVariables false
set_option maxHeartbeats 0
set_option maxRecDepth 100000
abbrev kMi:ByteArray:=⟨#[45]⟩
abbrev kZe:ByteArray:=⟨#[48]⟩
def dgI (x:Int):Bool:=decide (48≤x)&&decide (x≤57)
structure FmB (z:ByteArray):Prop where
 n0:0<z.size
 n9:z.size≤9
 z0:z.size=1∨((z.data.getD 0 0).toNat:Int)≠48
def Az (z:ByteArray):Prop:=FmB z∧(dB z).all dgI=true
noncomputable instance (z:ByteArray):Decidable (Az z):=agS _
def Mt (s:ByteArray) (sg:Bool):Prop:=preB s kMi=true∧(sg=false∨jZ s kMi=kZe)
noncomputable instance (s:ByteArray) (sg:Bool):Decidable (Mt s sg):=agS _
noncomputable def fI (s:ByteArray) (sg:Bool):Option Int:=if Az (jZ s kMi)∧¬Mt s sg then Go.Lib.atoi s.data.toList else none
theorem FJ (z:ByteArray):(dB z).length=z.size:=by unfold dB;rw[af0,aeO];rfl
theorem FK:∀(l:List UInt8) (acc:Nat),(∀b∈l,48≤b.toNat∧b.toNat≤57)→∃n,Go.Lib.decFrom acc l=some n:=by
 intro l;induction l with
 |nil=>intro acc _;exact⟨acc,rfl⟩
 |cons b r ih=>
  intro acc h;have hb:=h b (afZ ..);have hd:∃d,Go.Lib.digitVal b=some d:=by
   unfold Go.Lib.digitVal;rw[if_pos hb];exact⟨_,rfl⟩
  obtain⟨d,hd⟩:=hd;unfold Go.Lib.decFrom;rw[hd];exact ih _ fun x hx=>h x (aek _ hx)
theorem decNat_some {l:List UInt8} (hl:l≠[]) (h:∀b∈l,48≤b.toNat∧b.toNat≤57):∃n,Go.Lib.decNat l=some n:=by
 unfold Go.Lib.decNat;rw[if_neg (by simpa using hl)]
 exact FK l 0 h
theorem Yi {z:ByteArray} (h:Az z):z.data.toList≠[]∧∀b∈z.data.toList,48≤b.toNat∧b.toNat≤57:=by
 obtain⟨h1,h2⟩:=h;refine⟨fun e=>?_,fun b hb=>?_⟩
 ·have:=h1.n0
  rw[←FJ]at this;unfold dB at this;rw[e]at this;exact absurd this (by decide)
 ·rw[afI]at h2
  have:=h2 (b.toNat:Int) (agQ.2 ⟨b,hb,rfl⟩);unfold dgI at this;rw[aeA,decide_eq_true_eq,decide_eq_true_eq]at this;omega
theorem RQ {s:ByteArray} (h:Az (jZ s kMi)):∃n,Go.Lib.atoi s.data.toList=some n:=by
 have hd:=Yi h;unfold jZ Go.Lib.trimPrefix at hd;cases hl:s.data.toList with
 |nil=>rw[hl]at hd;exact absurd rfl hd.1
 |cons b r=>
  rw[hl]at hd;unfold Go.Lib.atoi;by_cases e:b=45
  ·subst e
   rw[if_pos (by simp[Go.Lib.hasPrefix,agT])]at hd
   obtain⟨n,hn⟩:=decNat_some (l:=r) hd.1 hd.2;exact⟨-(n:Int),by simp[hn]⟩
  ·have hp:¬Go.Lib.hasPrefix (b::r) kMi.data.toList=true:=by
    simp[Go.Lib.hasPrefix,agT];exact fun e'=>e e'.symm
   rw[if_neg hp]at hd;have hb:=hd.2 b (afZ ..);obtain⟨n,hn⟩:=decNat_some (l:=b::r) hd.1 hd.2;have e43:b≠43:=fun e'=>by subst e';exact absurd hb.1 (by decide)
   exact⟨(n:Int),by simp[hn,e,e43]⟩
theorem RS {s p:ByteArray}:s.size≤(jZ s p).size+p.size:=by
 have e1:s.size=s.data.toList.length:=by rw[aeO];rfl
 have e2:p.size=p.data.toList.length:=by rw[aeO];rfl
 have e3:(jZ s p).size=(Go.Lib.trimPrefix s.data.toList p.data.toList).length:=by
  show(agU _).size=_;rw[afX]
 rw[e1,e2,e3];unfold Go.Lib.trimPrefix;split
 ·rw[agV];omega
 ·omega
def FL (o:Option Int):PV:=match o with
 |none=>.tup [.int .i64 0,.bp false]
 |some n=>.tup [.int .i64 n,.bp true]
noncomputable def abX:CPT:=aA 229 (aB Rs) (aA 230 (aB Lx) noC)
theorem gV:aW Tryz.prog abX:=aj (au aaG) (aj (au XB) aD)
theorem lu:Sup (bF [PV.int .i64 0,PV.bool false]) (FL none):=⟨fun hr=>by
 cases hr with
 |tup _ _ vs hl hh=>
  refine .tup _ _ _ hl fun i hi=>?_;have:=hh i hi;obtain rfl|rfl:i=0∨i=1:=by simp at hi;omega
  ·exact this
  ·simp only[aC]at this⊢
   generalize vs.getD 1 undef=v1 at this
   cases this;exact .bp _ _⟩
theorem wz (n:Int):Sup (bF [PV.int .i64 n,PV.bool true]) (FL (some n)):=⟨fun hr=>by
 cases hr with
 |tup _ _ vs hl hh=>
  refine .tup _ _ _ hl fun i hi=>?_;have:=hh i hi;obtain rfl|rfl:i=0∨i=1:=by simp at hi;omega
  ·exact this
  ·simp only[aC]at this⊢
   generalize vs.getD 1 undef=v1 at this
   cases this;exact .bp _ _⟩
theorem RU (s:ByteArray) (sg:Bool) (hs:s.size≤1000000):aF Tryz.prog 202 [.str s,.bp sg] (FL (fI s sg)):=by
 have hcs:(jZ s kMi).size≤1000000:=by
  have e3:(jZ s kMi).size=(Go.Lib.trimPrefix s.data.toList kMi.data.toList).length:=by
   show(agU _).size=_;rw[afX]
  have e1:s.size=s.data.toList.length:=by rw[aeO];rfl
  rw[e3];unfold Go.Lib.trimPrefix;split
  ·rw[agV];omega
  ·omega
 have hcz:=RS (s:=s) (p:=kMi);have hbl:=FJ (jZ s kMi);obtain⟨z,hz⟩:∃z,jZ s kMi=z:=⟨_,rfl⟩;by_cases hF:FmB z
 case neg=>
  rw[show fI s sg=none by unfold fI;rw[hz,if_neg (fun e=>hF e.1.1)]]
  rw[hz]at hcs hcz hbl;by_cases h0:z.size=0
  ·skip
   refine av (md:=1) (rf:=[]) mixed ak gV Tryz.func202 (by rfl) (by rfl) (by rfl) ?_
   repeat'((conv=>whnf);first|(intro hq;(try simp only[vw]at hq);try first|exact absurd hq (by decide)|exfalso;omega)|apply aI|with_reducible exact vM rfl|exact⟨⟩|apply nM|apply fM)
   all_goals((try apply vM);(try simp only[vq]at*);try omega)
   all_goals(try rw[hz]at*)
   all_goals(try omega)
   all_goals(conv=>whnf)
   all_goals(refine aM (X:=Nat) (fun i=>i≤z.size) (fun i=>[(39,.int .i64 i),(8,.bp false)]) (fun i=>[]) (fun i=>z.size-i) 0 ⟨aK,mixed,ak,gV,aQ⟩ (by rfl) (by omega) ?_ ?_)
   ·repeat'((conv=>whnf);first|intro _|apply aI|with_reducible exact vM rfl|exact⟨⟩|apply nM|apply fM)
    all_goals((try apply vM);(try simp only[vq]at*);try omega)
    all_goals(try exact decide_eq_false (fun e=>e hz0.2))
   intro i hi;by_cases hlt:i<z.size
   ·repeat'((conv=>whnf);first|(intro hq;(try simp only[vw]at hq);try first|exact absurd hq (by decide)|exfalso;omega)|apply aI|with_reducible exact vM rfl|exact⟨⟩|apply nM|apply fM)
    all_goals((try apply vM);(try simp only[vq]at*);try omega)
    all_goals(try omega)
    all_goals refine⟨i+1,[],⟨by omega,by omega⟩,?_⟩
    all_goals repeat'((conv=>whnf);first|intro _|apply aI|with_reducible exact vM rfl|exact⟨⟩|apply nM|apply fM)
    all_goals all_goals((try apply vM);(try simp only[vq]at*);try omega)
   have e:i=z.size:=by omega
   subst e
   repeat'((conv=>whnf);first|(intro hq;(try simp only[vw]at hq);try first|exact absurd hq (by decide)|exfalso;omega)|apply aI|with_reducible exact vM rfl|exact⟨⟩|apply nM|apply fM)
   all_goals((try apply vM);(try simp only[vq]at*);try omega)
   all_goals first|omega|exact lu|skip
  by_cases h9:9<z.size
  ·skip
   refine av (md:=1) (rf:=[]) mixed ak gV Tryz.func202 (by rfl) (by rfl) (by rfl) ?_
   repeat'((conv=>whnf);first|(intro hq;(try simp only[vw]at hq);try first|exact absurd hq (by decide)|exfalso;omega)|apply aI|with_reducible exact vM rfl|exact⟨⟩|apply nM|apply fM)
   all_goals((try apply vM);(try simp only[vq]at*);try omega)
   all_goals(try rw[hz]at*)
   all_goals(try omega)
   all_goals(conv=>whnf)
   all_goals(refine aM (X:=Nat) (fun i=>i≤z.size) (fun i=>[(39,.int .i64 i),(8,.bp false)]) (fun i=>[]) (fun i=>z.size-i) 0 ⟨aK,mixed,ak,gV,aQ⟩ (by rfl) (by omega) ?_ ?_)
   ·repeat'((conv=>whnf);first|intro _|apply aI|with_reducible exact vM rfl|exact⟨⟩|apply nM|apply fM)
    all_goals((try apply vM);(try simp only[vq]at*);try omega)
    all_goals(try exact decide_eq_false (fun e=>e hz0.2))
   intro i hi;by_cases hlt:i<z.size
   ·repeat'((conv=>whnf);first|(intro hq;(try simp only[vw]at hq);try first|exact absurd hq (by decide)|exfalso;omega)|apply aI|with_reducible exact vM rfl|exact⟨⟩|apply nM|apply fM)
    all_goals((try apply vM);(try simp only[vq]at*);try omega)
    all_goals(try omega)
    all_goals refine⟨i+1,[],⟨by omega,by omega⟩,?_⟩
    all_goals repeat'((conv=>whnf);first|intro _|apply aI|with_reducible exact vM rfl|exact⟨⟩|apply nM|apply fM)
    all_goals all_goals((try apply vM);(try simp only[vq]at*);try omega)
   have e:i=z.size:=by omega
   subst e
   repeat'((conv=>whnf);first|(intro hq;(try simp only[vw]at hq);try first|exact absurd hq (by decide)|exfalso;omega)|apply aI|with_reducible exact vM rfl|exact⟨⟩|apply nM|apply fM)
   all_goals((try apply vM);(try simp only[vq]at*);try omega)
   all_goals first|omega|exact lu|skip
  have hz0:z.size≠1∧((z.data.getD (agt 0) 0).toNat:Int)=48:=by
   constructor
   ·exact fun e=>hF ⟨by omega,by omega,.inl e⟩
   ·exact ae2.1 fun e=>hF ⟨by omega,by omega,.inr e⟩
  refine av (md:=1) (rf:=[]) mixed ak gV Tryz.func202 (by rfl) (by rfl) (by rfl) ?_
  repeat'((conv=>whnf);first|(intro hq;(try simp only[vw]at hq);try first|exact absurd hq (by decide)|exfalso;omega)|apply aI|with_reducible exact vM rfl|exact⟨⟩|apply nM|apply fM)
  all_goals((try apply vM);(try simp only[vq]at*);try omega)
  all_goals(try rw[hz]at*)
  all_goals(try omega)
  all_goals(conv=>whnf)
  all_goals(refine aM (X:=Nat) (fun i=>i≤z.size) (fun i=>[(39,.int .i64 i),(8,.bp false)]) (fun i=>[]) (fun i=>z.size-i) 0 ⟨aK,mixed,ak,gV,aQ⟩ (by rfl) (by omega) ?_ ?_)
  ·repeat'((conv=>whnf);first|intro _|apply aI|with_reducible exact vM rfl|exact⟨⟩|apply nM|apply fM)
   all_goals((try apply vM);(try simp only[vq]at*);try omega)
   all_goals(try exact decide_eq_false (fun e=>e hz0.2))
  intro i hi;by_cases hlt:i<z.size
  ·repeat'((conv=>whnf);first|(intro hq;(try simp only[vw]at hq);try first|exact absurd hq (by decide)|exfalso;omega)|apply aI|with_reducible exact vM rfl|exact⟨⟩|apply nM|apply fM)
   all_goals((try apply vM);(try simp only[vq]at*);try omega)
   all_goals(try omega)
   all_goals refine⟨i+1,[],⟨by omega,by omega⟩,?_⟩
   all_goals repeat'((conv=>whnf);first|intro _|apply aI|with_reducible exact vM rfl|exact⟨⟩|apply nM|apply fM)
   all_goals all_goals((try apply vM);(try simp only[vq]at*);try omega)
  have e:i=z.size:=by omega
  subst e
  repeat'((conv=>whnf);first|(intro hq;(try simp only[vw]at hq);try first|exact absurd hq (by decide)|exfalso;omega)|apply aI|with_reducible exact vM rfl|exact⟨⟩|apply nM|apply fM)
  all_goals((try apply vM);(try simp only[vq]at*);try omega)
  all_goals first|omega|exact lu|skip
 have hN:(dB z).all dgI=false→fI s sg=none:=fun e=>by
  unfold fI;rw[hz,if_neg];exact fun h=>by have:=h.1.2;rw[e]at this;exact absurd this (by decide)
 have hB1:preB s ⟨#[45]⟩=true→sg=false→fI s sg=none:=fun a b=>by
  unfold fI;rw[if_neg];exact fun h=>h.2 ⟨a,.inl b⟩
 have hB2:preB s ⟨#[45]⟩=true→z=⟨#[48]⟩→fI s sg=none:=fun a b=>by
  unfold fI;rw[if_neg];exact fun h=>h.2 ⟨a,.inr (hz.trans b)⟩
 obtain⟨n,hn⟩:∃n,(dB z).all dgI=true→Go.Lib.atoi s.data.toList=some n:=by
  by_cases e:(dB z).all dgI=true
  ·obtain⟨n,hn⟩:=RQ (s:=s) (by rw[hz];exact⟨hF,e⟩)
   exact⟨n,fun _=>hn⟩
  ·exact⟨0,fun h=>absurd h e⟩
 have hY1:(dB z).all dgI=true→preB s ⟨#[45]⟩=false→fI s sg=some n:=fun e a=>by
  unfold fI;rw[hz,if_pos ⟨⟨hF,e⟩,fun h=>by have h1:=h.1;rw[a]at h1;exact absurd h1 (by decide)⟩];exact hn e
 have hY2:(dB z).all dgI=true→sg=true→z≠⟨#[48]⟩→fI s sg=some n:=fun e a b=>by
  unfold fI;rw[hz,if_pos ⟨⟨hF,e⟩,fun h=>by
   rcases h.2 with h|h
   ·rw[a]at h;exact absurd h (by decide)
   ·exact b (hz.symm.trans h)⟩];exact hn e
 have hs18:s.size≤18:=by
  have:=hF.n9;have:kMi.size=1:=rfl;rw[hz]at hcz;omega
 rw[hz]at hcs hcz hbl;have h0:=hF.n0;have h9:=hF.n9;have hz0:z.size=1∨((z.data.getD (agt 0) 0).toNat:Int)≠48:=hF.z0;have hdg:∀i,i<z.size→((dB z).take (i+1)).all dgI=(((dB z).take i).all dgI&&dgI ((dB z).getD i 0)):=fun i hi=>by
  rw[af3,List.all_append,aev (by omega),aeo,aev (by omega)]
  simp
 by_cases h1:z.size=1
 ·skip
  refine av (md:=1) (rf:=[]) mixed ak gV Tryz.func202 (by rfl) (by rfl) (by rfl) ?_
  repeat'((conv=>whnf);first|(intro hq;(try simp only[vw]at hq);try first|exact absurd hq (by decide)|exfalso;omega)|apply aI|with_reducible exact vM rfl|exact⟨⟩|apply nM|apply fM)
  all_goals((try apply vM);(try simp only[vq]at*);try omega)
  all_goals(try rw[hz]at*)
  all_goals(try omega)
  conv=>whnf
  refine aM (X:=Nat) (fun i=>i≤z.size) (fun i=>[(39,.int .i64 i),(8,.bp (((dB z).take i).all dgI))]) (fun i=>[]) (fun i=>z.size-i) 0 ⟨aK,mixed,ak,gV,aQ⟩ (by rfl) (by omega) ?_ ?_
  ·repeat'((conv=>whnf);first|intro _|apply aI|with_reducible exact vM rfl|exact⟨⟩|apply nM|apply fM)
   all_goals((try apply vM);(try simp only[vq]at*);try omega)
   all_goals first|exact decide_eq_true hz1|skip
  intro i hi;by_cases hlt:i<z.size
  ·have hd:=hdg i hlt
   repeat'((conv=>whnf);first|(intro hq;(try simp only[vw]at hq);try first|exact absurd hq (by decide)|exfalso;omega)|apply aI|with_reducible exact vM rfl|exact⟨⟩|apply nM|apply fM)
   all_goals((try apply vM);(try simp only[vq]at*);try omega)
   all_goals(try omega)
   all_goals refine⟨i+1,[],⟨by omega,by omega⟩,?_⟩
   all_goals repeat'((conv=>whnf);first|intro _|apply aI|with_reducible exact vM rfl|exact⟨⟩|apply nM|apply fM)
   all_goals all_goals((try apply vM);(try simp only[vq]at*);try omega)
   all_goals(rw[hd])
   all_goals(clear hd)
   ·have hq2:(48:Int)≤(dB z).getD i 0:=hq
    show decide ((dB z).getD i 0≤57)=_;have ht:(agH i (dB z)).all dgI=true:=by assumption
    rw[ht];generalize(dB z).getD i 0=x at hq2⊢
    show _=(true&&(decide (48≤x)&&decide (x≤57)));rw[decide_eq_true hq2];simp
   ·have hq2:¬(48:Int)≤(dB z).getD i 0:=hq
    generalize(dB z).getD i 0=x at hq2⊢
    unfold dgI;rw[decide_eq_false hq2];simp
   ·simp[*]
  have e:i=z.size:=by omega
  subst e;have ha:(dB z).take z.size=dB z:=by rw[←hbl,af5]
  rw[ha]
  repeat'((conv=>whnf);first|(intro hq;(try simp only[vw]at hq);try first|exact absurd hq (by decide)|exfalso;omega)|apply aI|with_reducible exact vM rfl|exact⟨⟩|apply nM|apply fM)
  all_goals((try apply vM);(try simp only[vq]at*);try omega)
  all_goals(try omega)
  all_goals first|(rw[hN (by assumption)];exact lu)|(rw[hB1 (by assumption) (by assumption)];exact lu)|(rw[hB2 (by assumption) (by assumption)];exact lu)|skip
  all_goals(conv=>whnf)
  all_goals repeat'((conv=>whnf);first|apply Exists.intro (n)|(intro hq;(try simp only[vw]at hq);try first|exact absurd hq (by decide)|exfalso;omega)|apply aI|with_reducible exact vM rfl|exact⟨⟩|apply nM|apply fM)
  all_goals all_goals((try apply vM);(try simp only[vq]at*);try omega)
  all_goals first|(refine And.intro hs18 (hn ?_);assumption)|(rw[hY1 (by assumption) (by assumption)];exact wz n)|(rw[hY2 (by assumption) (by assumption) (by assumption)];exact wz n)
 ·have hz1:((z.data.getD (agt 0) 0).toNat:Int)≠48:=by
   rcases hz0 with e|e
   ·exact absurd e h1
   ·exact e
  refine av (md:=1) (rf:=[]) mixed ak gV Tryz.func202 (by rfl) (by rfl) (by rfl) ?_
  repeat'((conv=>whnf);first|(intro hq;(try simp only[vw]at hq);try first|exact absurd hq (by decide)|exfalso;omega)|apply aI|with_reducible exact vM rfl|exact⟨⟩|apply nM|apply fM)
  all_goals((try apply vM);(try simp only[vq]at*);try omega)
  all_goals(try rw[hz]at*)
  all_goals(try omega)
  conv=>whnf
  refine aM (X:=Nat) (fun i=>i≤z.size) (fun i=>[(39,.int .i64 i),(8,.bp (((dB z).take i).all dgI))]) (fun i=>[]) (fun i=>z.size-i) 0 ⟨aK,mixed,ak,gV,aQ⟩ (by rfl) (by omega) ?_ ?_
  ·repeat'((conv=>whnf);first|intro _|apply aI|with_reducible exact vM rfl|exact⟨⟩|apply nM|apply fM)
   all_goals((try apply vM);(try simp only[vq]at*);try omega)
   all_goals first|exact decide_eq_true hz1|skip
  intro i hi;by_cases hlt:i<z.size
  ·have hd:=hdg i hlt
   repeat'((conv=>whnf);first|(intro hq;(try simp only[vw]at hq);try first|exact absurd hq (by decide)|exfalso;omega)|apply aI|with_reducible exact vM rfl|exact⟨⟩|apply nM|apply fM)
   all_goals((try apply vM);(try simp only[vq]at*);try omega)
   all_goals(try omega)
   all_goals refine⟨i+1,[],⟨by omega,by omega⟩,?_⟩
   all_goals repeat'((conv=>whnf);first|intro _|apply aI|with_reducible exact vM rfl|exact⟨⟩|apply nM|apply fM)
   all_goals all_goals((try apply vM);(try simp only[vq]at*);try omega)
   all_goals(rw[hd])
   all_goals(clear hd)
   ·have hq2:(48:Int)≤(dB z).getD i 0:=hq
    show decide ((dB z).getD i 0≤57)=_;have ht:(agH i (dB z)).all dgI=true:=by assumption
    rw[ht];generalize(dB z).getD i 0=x at hq2⊢
    show _=(true&&(decide (48≤x)&&decide (x≤57)));rw[decide_eq_true hq2];simp
   ·have hq2:¬(48:Int)≤(dB z).getD i 0:=hq
    generalize(dB z).getD i 0=x at hq2⊢
    unfold dgI;rw[decide_eq_false hq2];simp
   ·simp[*]
  have e:i=z.size:=by omega
  subst e;have ha:(dB z).take z.size=dB z:=by rw[←hbl,af5]
  rw[ha]
  repeat'((conv=>whnf);first|(intro hq;(try simp only[vw]at hq);try first|exact absurd hq (by decide)|exfalso;omega)|apply aI|with_reducible exact vM rfl|exact⟨⟩|apply nM|apply fM)
  all_goals((try apply vM);(try simp only[vq]at*);try omega)
  all_goals(try omega)
  all_goals first|(rw[hN (by assumption)];exact lu)|(rw[hB1 (by assumption) (by assumption)];exact lu)|(rw[hB2 (by assumption) (by assumption)];exact lu)|skip
  all_goals(conv=>whnf)
  all_goals repeat'((conv=>whnf);first|apply Exists.intro (n)|(intro hq;(try simp only[vw]at hq);try first|exact absurd hq (by decide)|exfalso;omega)|apply aI|with_reducible exact vM rfl|exact⟨⟩|apply nM|apply fM)
  all_goals all_goals((try apply vM);(try simp only[vq]at*);try omega)
  all_goals first|(refine And.intro hs18 (hn ?_);assumption)|(rw[hY1 (by assumption) (by assumption)];exact wz n)|(rw[hY2 (by assumption) (by assumption) (by assumption)];exact wz n)
def RV:PSp:=fun xs K=>match xs with
 | [.str s,.bp sg]=>VC (s.size≤1000000)∧((VC (fI s sg=none)→K (FL none))∧∀n,VC (fI s sg=some n)→K (FL (some n)))
 |_=>False
theorem aaV:POK Tryz.prog 202 RV:=by
 intro xs K hk;unfold RV at hk;split at hk
 ·obtain⟨⟨h⟩,h1,h2⟩:=hk
  refine⟨_,?_,RU _ _ h⟩;cases e:fI _ _ with
  |none=>exact h1 ⟨e⟩
  |some n=>exact h2 n ⟨e⟩
 ·exact hk.elim
theorem FM (c:UInt8):∀l:List UInt8,(∀x∈spl c l,x.length≤l.length)∧(spl c l).length≤l.length+1:=by
 intro l;induction l with
 |nil=>simp[spl]
 |cons x r ih=>
  unfold spl;split
  ·refine⟨fun y hy=>?_,by simp;exact ih.2⟩
   rcases afD.1 hy with rfl|hy
   ·simp
   ·have:=ih.1 y hy;simp;omega
  ·cases h:spl c r with
   |nil=>exact absurd h (OB c r)
   |cons a t=>
    rw[h]at ih;refine⟨fun y hy=>?_,by have:=ih.2;simp at this⊢;omega⟩
    rcases afD.1 hy with rfl|hy
    ·have:=ih.1 a (afZ ..);simp;omega
    ·have:=ih.1 y (aek _ hy);simp;omega
theorem uS {l:List ByteArray} {j:Nat} (h:j<l.length):l.getD j .empty∈l:=by
 rw[aeo,aev h];exact agr h
theorem Ch {c:UInt8} {s x:ByteArray} (h:x∈dD c s):x.size≤s.size:=by
 obtain⟨l,hl,rfl⟩:=agQ.1 h;have:=(FM c s.data.toList).1 l hl;rw[aeO]at this;exact this
theorem yc (c:UInt8) (s:ByteArray):1≤(dD c s).length∧(dD c s).length≤s.size+1:=by
 unfold dD;rw[af0];have h1:=(FM c s.data.toList).2;rw[aeO]at h1;exact⟨List.length_pos_iff.2 (OB c _),h1⟩
abbrev iY:ByteArray:=⟨#[115,117,109]⟩
noncomputable def numsL (sg:Bool) (ws:List ByteArray):List Int:=ws.map fun x=>(fI x sg).getD 0
def okW (sg:Bool) (ws:List ByteArray):Prop:=∀j,j<ws.length→(fI (ws.getD j .empty) sg).isSome=true
noncomputable instance (sg:Bool) (ws:List ByteArray):Decidable (okW sg ws):=agS _
noncomputable def bZ (s w:ByteArray):Option (List Int):=
 if(dD 32 s).getD 0 .empty=w∧okW (decide (w=iY)) ((dD 32 s).drop 1)then some (numsL (decide (w=iY)) ((dD 32 s).drop 1))else none
def FN (o:Option (List Int)):PV:=match o with
 |none=>.tup [.nils,.bp false]
 |some l=>.tup [.isl (.ints .i64 l) .none,.bp true]
theorem JD:Sup (bF [PV.nils,PV.bool false]) (FN none):=⟨fun hr=>by
 cases hr with
 |tup _ _ vs hl hh=>
  refine .tup _ _ _ hl fun i hi=>?_;have:=hh i hi;obtain rfl|rfl:i=0∨i=1:=by simp at hi;omega
  ·exact this
  ·simp only[aC]at this⊢
   generalize vs.getD 1 undef=v1 at this
   cases this;exact .bp _ _⟩
theorem RX (l:List Int):Sup (bF [PV.isl (.ints .i64 l) .none,PV.bool true]) (FN (some l)):=⟨fun hr=>by
 cases hr with
 |tup _ _ vs hl hh=>
  refine .tup _ _ _ hl fun i hi=>?_;have:=hh i hi;obtain rfl|rfl:i=0∨i=1:=by simp at hi;omega
  ·exact this
  ·simp only[aC]at this⊢
   generalize vs.getD 1 undef=v1 at this
   cases this;exact .bp _ _⟩
noncomputable def ac3:CPT:=aA 113 (aB zw) (aA 202 (aB RV) noC)
theorem AA:aW Tryz.prog ac3:=aj (au Fe) (aj (au aaV) aD)
theorem RY (s w:ByteArray) (hs:s.size≤1000000):aF Tryz.prog 162 [.str s,.str w] (FN (bZ s w)):=by
 have hl:=yc 32 s;have hz:∀j,j<(dD 32 s).length→((dD 32 s).getD j .empty).size≤1000000:=fun j hj=>afW (Ch (uS hj)) hs;obtain⟨W,hW⟩:∃W,dD 32 s=W:=⟨_,rfl⟩;rw[hW]at hl hz;by_cases hw:W.getD 0 .empty=w
 case neg=>
  rw[show bZ s w=none by unfold bZ;rw[hW,if_neg (fun e=>hw e.1)]]
  refine av (md:=1) (rf:=[]) mixed ak AA Tryz.func162 (by rfl) (by rfl) (by rfl) ?_
  repeat'((conv=>whnf);first|apply Exists.intro (32)|(intro hq;(try simp only[vw]at hq);try first|exact absurd hq (by decide)|exfalso;omega)|apply aI|with_reducible exact vM rfl|exact⟨⟩|apply nM|apply fM)
  all_goals((try apply vM);(try simp only[vq]at*);try omega)
  all_goals(try rw[hW])
  all_goals(try omega)
  all_goals(rw[hW]at hq)
  all_goals first|exact JD|exact absurd hw hq
 refine av (md:=1) (rf:=[]) mixed ak AA Tryz.func162 (by rfl) (by rfl) (by rfl) ?_
 repeat'((conv=>whnf);first|apply Exists.intro (32)|(intro hq;(try simp only[vw]at hq);try first|exact absurd hq (by decide)|exfalso;omega)|apply aI|with_reducible exact vM rfl|exact⟨⟩|apply nM|apply fM)
 all_goals((try apply vM);(try simp only[vq]at*);try omega)
 all_goals(try rw[hW])
 all_goals(try omega)
 all_goals(rw[hW]at hq)
 all_goals(try exact absurd hw hq)
 conv=>whnf
 have hD1:(CL.strs W).sub (agt 1) W.length=.strs (W.drop 1):=by
  show CL.strs ((W.drop 1).take (W.length-1))=_;rw[←agV,af5]
 have hD2:agH (W.length-agt 1) (agI (agt 1) W)=W.drop 1:=by
  show(W.drop 1).take (W.length-1)=_;rw[←agV,af5]
 have hz':∀j,j<(W.drop 1).length→((W.drop 1).getD j .empty).size≤1000000:=fun j hj=>by
  rw[agV]at hj;have e:(W.drop 1).getD j .empty=W.getD (1+j) .empty:=by simp[aeo,List.getElem?_drop,Nat.add_comm]
  rw[e];exact hz _ (by omega)
 have hl':(W.drop 1).length≤1000000:=by rw[agV];omega
 have hno:∀j,j<(W.drop 1).length→fI ((W.drop 1).getD j .empty) (decide (w=iY))=none→bZ s w=none:=fun j hj e=>by
  unfold bZ;rw[hW,if_neg];exact fun h=>by have:=h.2 j hj;rw[e]at this;exact absurd this (by decide)
 have hyes:okW (decide (w=iY)) (W.drop 1)→bZ s w=some (numsL (decide (w=iY)) (W.drop 1)):=fun h=>by
  unfold bZ;rw[hW,if_pos ⟨hw,h⟩]
 simp only[hD1,hD2];generalize W.drop 1=R at hz' hl' hno hyes⊢
 clear hD1 hD2;have hap:∀i n,i<R.length→fI (R.getD i .empty) (decide (w=iY))=some n→numsL (decide (w=iY)) (R.take (i+1))=numsL (decide (w=iY)) (R.take i)++[n]:=fun i n hi e=>by
  unfold numsL;rw[af3,af4,aev hi];rw[aeo,aev hi,Option.getD_some]at e;simp[e]
 have hnl:∀i,i≤R.length→(numsL (decide (w=iY)) (R.take i)).length=i:=fun i hi=>by unfold numsL;rw[af0,ae0];omega
 refine aM (X:=Nat) (fun i=>i≤R.length∧∀j,j<i→(fI (R.getD j .empty) (decide (w=iY))).isSome=true) (fun i=>[(22,.int .i64 i),(7,.isl (.ints .i64 (numsL (decide (w=iY)) (R.take i))) (.own 5))]) (fun i=>[(5,.tok 1 (numsL (decide (w=iY)) (R.take i)).length)]) (fun i=>R.length-i) 0 ⟨aK,mixed,ak,AA,aQ⟩ (by rfl) ⟨by omega,fun j hj=>absurd hj (by omega)⟩ ?_ ?_
 ·repeat'((conv=>whnf);first|intro _|apply aI|with_reducible exact vM rfl|exact⟨⟩|apply nM|apply fM)
  all_goals((try apply vM);(try simp only[vq]at*);try omega)
  all_goals rfl
 intro i ⟨hi,hS⟩;have hli:=hnl i hi;by_cases hlt:i<R.length
 ·repeat'((conv=>whnf);first|(intro hq;(try simp only[vw]at hq);try first|exact absurd hq (by decide)|exfalso;omega)|apply aI|with_reducible exact vM rfl|exact⟨⟩|apply nM|apply fM)
  all_goals((try apply vM);(try simp only[vq]at*);try omega)
  all_goals(try omega)
  all_goals(try replace hq:=VC.get hq)
  all_goals first|exact hz' _ hlt|(rw[hno i hlt hq];exact JD)|(rw[afu,ad4,adY,hli];omega)|skip
  rename_i n _;refine⟨i+1,[],⟨⟨by omega,fun j hj=>?_⟩,by omega⟩,?_⟩
  ·rcases Nat.lt_succ_iff_lt_or_eq.1 hj with h|rfl
   ·exact hS j h
   ·rw[show fI (R.getD j .empty) (decide (w=iY))=some n from hq];rfl
  rw[hap i n hlt hq,afu]
  repeat'((conv=>whnf);first|intro _|apply aI|with_reducible exact vM rfl|exact⟨⟩|apply nM|apply fM)
  all_goals((try apply vM);(try simp only[vq]at*);try omega)
  all_goals skip
 have e:i=R.length:=by omega
 subst e;rw[af5]
 repeat'((conv=>whnf);first|(intro hq;(try simp only[vw]at hq);try first|exact absurd hq (by decide)|exfalso;omega)|apply aI|with_reducible exact vM rfl|exact⟨⟩|apply nM|apply fM)
 all_goals((try apply vM);(try simp only[vq]at*);try omega)
 all_goals(try omega)
 rw[hyes (fun j hj=>hS j hj)];exact RX _
def RZ:PSp:=fun xs K=>match xs with
 | [.str s,.str w]=>VC (s.size≤1000000)∧((VC (bZ s w=none)→K (FN none))∧∀l,VC (bZ s w=some l)→K (FN (some l)))
 |_=>False
theorem aaW:POK Tryz.prog 162 RZ:=by
 intro xs K hk;unfold RZ at hk;split at hk
 ·obtain⟨⟨h⟩,h1,h2⟩:=hk
  refine⟨_,?_,RY _ _ h⟩;cases e:bZ _ _ with
  |none=>exact h1 ⟨e⟩
  |some n=>exact h2 n ⟨e⟩
 ·exact hk.elim
structure Rd where
 c:Int
 L:List (List Int)
 sum:Int
 gv:List Int
 line:Int
 done:Bool
abbrev FP:ByteArray:=⟨#[99,101,108,108,115]⟩
abbrev DF:ByteArray:=⟨#[108,105,110,101]⟩
abbrev uT:ByteArray:=⟨#[103,105,118,101,110]⟩
noncomputable def nxt (r:Rd) (s:ByteArray):Bool × Rd:=
 if r.line+1≤2 then
  match bZ s (if r.line=0 then FP else iY)with
  |none=>(false,{r with line:=r.line+1})
  |some l=>if l.length≠1 then(false,{r with line:=r.line+1})else if r.line=0 then(true,{r with line:=r.line+1,c:=l.getD 0 0})else(true,{r with line:=r.line+1,sum:=l.getD 0 0})
 else if r.done=true then(false,{r with line:=r.line+1})
 else match bZ s DF with
  |some l=>(true,{r with line:=r.line+1,L:=r.L++[l]})
  |none=>match bZ s uT with
   |some l=>(true,{r with line:=r.line+1,gv:=l,done:=true})
   |none=>(false,{r with line:=r.line+1,gv:=[],done:=false})
abbrev rdO (r:Rd):List AO:=[.cells (.pv [.int .i64 r.c,.isl (.rows .i64 r.L) (.own 1),.int .i64 r.sum,.isl (.ints .i64 r.gv) .none,.int .i64 r.line,.bp r.done]) false,.tok 1 r.L.length]
noncomputable def ac4:CPT:=aA 162 (aB RZ) noC
theorem jl:aW Tryz.prog ac4:=aj (au aaW) aD
theorem clash {o:Option (List Int)} {l:List Int} (a:o=some l) (b:o=none):False:=by rw[a]at b;cases b
theorem R6 (r:Rd) (s:ByteArray) (hs:s.size≤1000000) (hl:0≤r.line∧r.line≤1000000) (hL:r.L.length≤1000000):
 gL Tryz.prog 115 [.rp 0 0,.str s] (rdO r) [.bp (nxt r s).1] (rdO (nxt r s).2):=by
 obtain⟨c,L,sum,gv,line,done⟩:=r;have hl:0≤line∧line≤1000000:=hl;have hL:L.length≤1000000:=hL;unfold nxt;simp only;by_cases h0:line=0
 ·subst h0
  rw[if_pos (by decide),if_pos rfl]
  cases e:bZ s FP with
  |none=>
   refine bG (md:=1) (rf:=[]) mixed ak jl 2 [] Tryz.func115 (by rfl) (by rfl) (by rfl) ?_
   repeat'((conv=>whnf);first|(intro hq;(try simp only[vw]at hq);try first|exact absurd hq (by decide)|exfalso;omega)|apply aI|with_reducible exact vM rfl|exact⟨⟩|apply nM|apply fM)
   all_goals((try apply vM);(try simp only[vq]at*);try omega)
   all_goals(try(exfalso;omega))
   all_goals(try(exfalso;exact clash (VC.get ‹VC (bZ s _=some _)›) e))
   all_goals(try(exfalso;exact clash e (VC.get ‹VC (bZ s _=none)›)))
   all_goals first|rfl|omega|exact(by decide:(1:Nat)≤2)|exact(by decide:(2:Nat)≤2)|(rw[afu,ad4,adY];omega)|(rw[afu,ad4,adY])
  |some l=>
   by_cases h1:l.length=1
   ·simp only[h1,ne_eq,not_true_eq_false,if_false,if_true]
    refine bG (md:=1) (rf:=[]) mixed ak jl 2 [] Tryz.func115 (by rfl) (by rfl) (by rfl) ?_
    repeat'((conv=>whnf);first|(intro hq;(try simp only[vw]at hq);try first|exact absurd hq (by decide)|exfalso;omega)|apply aI|with_reducible exact vM rfl|exact⟨⟩|apply nM|apply fM)
    all_goals((try apply vM);(try simp only[vq]at*);try omega)
    all_goals(try(exfalso;omega))
    all_goals(try(exfalso;exact clash (VC.get ‹VC (bZ s _=some _)›) e))
    all_goals(try(exfalso;exact clash e (VC.get ‹VC (bZ s _=none)›)))
    all_goals(try(obtain rfl:=Option.some.inj ((VC.get ‹VC (bZ s _=some _)›).symm.trans e)))
    all_goals first|rfl|omega|exact(by decide:(1:Nat)≤2)|exact(by decide:(2:Nat)≤2)|(rw[afu,ad4,adY];omega)|(rw[afu,ad4,adY])
   ·simp only[h1,ne_eq,not_false_eq_true,if_false,if_true]
    refine bG (md:=1) (rf:=[]) mixed ak jl 2 [] Tryz.func115 (by rfl) (by rfl) (by rfl) ?_
    repeat'((conv=>whnf);first|(intro hq;(try simp only[vw]at hq);try first|exact absurd hq (by decide)|exfalso;omega)|apply aI|with_reducible exact vM rfl|exact⟨⟩|apply nM|apply fM)
    all_goals((try apply vM);(try simp only[vq]at*);try omega)
    all_goals(try(exfalso;omega))
    all_goals(try(exfalso;exact clash (VC.get ‹VC (bZ s _=some _)›) e))
    all_goals(try(exfalso;exact clash e (VC.get ‹VC (bZ s _=none)›)))
    all_goals(try(obtain rfl:=Option.some.inj ((VC.get ‹VC (bZ s _=some _)›).symm.trans e)))
    all_goals first|rfl|omega|exact(by decide:(1:Nat)≤2)|exact(by decide:(2:Nat)≤2)|(rw[afu,ad4,adY];omega)|(rw[afu,ad4,adY])
 by_cases h1:line=1
 ·subst h1
  rw[if_pos (by decide),if_neg (by decide)]
  cases e:bZ s iY with
  |none=>
   refine bG (md:=1) (rf:=[]) mixed ak jl 2 [] Tryz.func115 (by rfl) (by rfl) (by rfl) ?_
   repeat'((conv=>whnf);first|(intro hq;(try simp only[vw]at hq);try first|exact absurd hq (by decide)|exfalso;omega)|apply aI|with_reducible exact vM rfl|exact⟨⟩|apply nM|apply fM)
   all_goals((try apply vM);(try simp only[vq]at*);try omega)
   all_goals(try(exfalso;omega))
   all_goals(try(exfalso;exact clash (VC.get ‹VC (bZ s _=some _)›) e))
   all_goals(try(exfalso;exact clash e (VC.get ‹VC (bZ s _=none)›)))
   all_goals first|rfl|omega|exact(by decide:(1:Nat)≤2)|exact(by decide:(2:Nat)≤2)|(rw[afu,ad4,adY];omega)|(rw[afu,ad4,adY])
  |some l=>
   by_cases h1:l.length=1
   ·simp only[h1,ne_eq,not_true_eq_false,if_false]
    rw[if_neg (by decide)]
    refine bG (md:=1) (rf:=[]) mixed ak jl 2 [] Tryz.func115 (by rfl) (by rfl) (by rfl) ?_
    repeat'((conv=>whnf);first|(intro hq;(try simp only[vw]at hq);try first|exact absurd hq (by decide)|exfalso;omega)|apply aI|with_reducible exact vM rfl|exact⟨⟩|apply nM|apply fM)
    all_goals((try apply vM);(try simp only[vq]at*);try omega)
    all_goals(try(exfalso;omega))
    all_goals(try(exfalso;exact clash (VC.get ‹VC (bZ s _=some _)›) e))
    all_goals(try(exfalso;exact clash e (VC.get ‹VC (bZ s _=none)›)))
    all_goals(try(obtain rfl:=Option.some.inj ((VC.get ‹VC (bZ s _=some _)›).symm.trans e)))
    all_goals first|rfl|omega|exact(by decide:(1:Nat)≤2)|exact(by decide:(2:Nat)≤2)|(rw[afu,ad4,adY];omega)|(rw[afu,ad4,adY])
   ·simp only[h1,ne_eq,not_false_eq_true,if_true]
    refine bG (md:=1) (rf:=[]) mixed ak jl 2 [] Tryz.func115 (by rfl) (by rfl) (by rfl) ?_
    repeat'((conv=>whnf);first|(intro hq;(try simp only[vw]at hq);try first|exact absurd hq (by decide)|exfalso;omega)|apply aI|with_reducible exact vM rfl|exact⟨⟩|apply nM|apply fM)
    all_goals((try apply vM);(try simp only[vq]at*);try omega)
    all_goals(try(exfalso;omega))
    all_goals(try(exfalso;exact clash (VC.get ‹VC (bZ s _=some _)›) e))
    all_goals(try(exfalso;exact clash e (VC.get ‹VC (bZ s _=none)›)))
    all_goals(try(obtain rfl:=Option.some.inj ((VC.get ‹VC (bZ s _=some _)›).symm.trans e)))
    all_goals first|rfl|omega|exact(by decide:(1:Nat)≤2)|exact(by decide:(2:Nat)≤2)|(rw[afu,ad4,adY];omega)|(rw[afu,ad4,adY])
 rw[if_neg (by omega)]
 cases done with
 |true=>
  rw[if_pos rfl];refine bG (md:=1) (rf:=[]) mixed ak jl 2 [] Tryz.func115 (by rfl) (by rfl) (by rfl) ?_
  repeat'((conv=>whnf);first|(intro hq;(try simp only[vw]at hq);try first|exact absurd hq (by decide)|exfalso;omega)|apply aI|with_reducible exact vM rfl|exact⟨⟩|apply nM|apply fM)
  all_goals((try apply vM);(try simp only[vq]at*);try omega)
  all_goals(try(exfalso;omega))
  all_goals first|rfl|omega|exact(by decide:(1:Nat)≤2)|exact(by decide:(2:Nat)≤2)|(rw[afu,ad4,adY];omega)|(rw[afu,ad4,adY])
 |false=>
  rw[if_neg (by decide)]
  cases e:bZ s DF with
  |some l=>
   refine bG (md:=1) (rf:=[]) mixed ak jl 2 [] Tryz.func115 (by rfl) (by rfl) (by rfl) ?_
   repeat'((conv=>whnf);first|(intro hq;(try simp only[vw]at hq);try first|exact absurd hq (by decide)|exfalso;omega)|apply aI|with_reducible exact vM rfl|exact⟨⟩|apply nM|apply fM)
   all_goals((try apply vM);(try simp only[vq]at*);try omega)
   all_goals(try(exfalso;omega))
   all_goals(try(exfalso;exact clash (VC.get ‹VC (bZ s _=some _)›) e))
   all_goals(try(exfalso;exact clash e (VC.get ‹VC (bZ s _=none)›)))
   all_goals(try(obtain rfl:=Option.some.inj ((VC.get ‹VC (bZ s _=some _)›).symm.trans e)))
   all_goals first|rfl|omega|exact(by decide:(1:Nat)≤2)|exact(by decide:(2:Nat)≤2)|(rw[afu,ad4,adY];omega)|(rw[afu,ad4,adY])
  |none=>
   cases e2:bZ s uT with
   |none=>
    refine bG (md:=1) (rf:=[]) mixed ak jl 2 [] Tryz.func115 (by rfl) (by rfl) (by rfl) ?_
    repeat'((conv=>whnf);first|(intro hq;(try simp only[vw]at hq);try first|exact absurd hq (by decide)|exfalso;omega)|apply aI|with_reducible exact vM rfl|exact⟨⟩|apply nM|apply fM)
    all_goals((try apply vM);(try simp only[vq]at*);try omega)
    all_goals(try(exfalso;omega))
    all_goals(try(exfalso;exact clash (VC.get ‹VC (bZ s _=some _)›) e))
    all_goals(try(exfalso;exact clash e (VC.get ‹VC (bZ s _=none)›)))
    all_goals(try(exfalso;exact clash (VC.get ‹VC (bZ s _=some _)›) e2))
    all_goals first|rfl|omega|exact(by decide:(1:Nat)≤2)|exact(by decide:(2:Nat)≤2)|(rw[afu,ad4,adY];omega)|(rw[afu,ad4,adY])
   |some l=>
    refine bG (md:=1) (rf:=[]) mixed ak jl 2 [] Tryz.func115 (by rfl) (by rfl) (by rfl) ?_
    repeat'((conv=>whnf);first|(intro hq;(try simp only[vw]at hq);try first|exact absurd hq (by decide)|exfalso;omega)|apply aI|with_reducible exact vM rfl|exact⟨⟩|apply nM|apply fM)
    all_goals((try apply vM);(try simp only[vq]at*);try omega)
    all_goals(try(exfalso;omega))
    all_goals(try(exfalso;exact clash (VC.get ‹VC (bZ s _=some _)›) e))
    all_goals(try(exfalso;exact clash e (VC.get ‹VC (bZ s _=none)›)))
    all_goals(try(exfalso;exact clash e2 (VC.get ‹VC (bZ s uT=none)›)))
    all_goals(try(obtain rfl:=Option.some.inj ((VC.get ‹VC (bZ s _=some _)›).symm.trans e2)))
    all_goals first|rfl|omega|exact(by decide:(1:Nat)≤2)|exact(by decide:(2:Nat)≤2)|(rw[afu,ad4,adY];omega)|(rw[afu,ad4,adY])
def R7:LSp:=fun xs objs K=>match xs,objs with
 | [.rp 0 0,.str s],[.cells (.pv [.int .i64 c,.isl (.rows .i64 L) (.own 1),.int .i64 sum,.isl (.ints .i64 gv) .none,.int .i64 line,.bp done]) false,.tok 1 m]=>
  VC (m=L.length∧s.size≤1000000∧(0≤line∧line≤1000000)∧L.length≤1000000)∧K [.bp (nxt ⟨c,L,sum,gv,line,done⟩ s).1] (rdO (nxt ⟨c,L,sum,gv,line,done⟩ s).2)
 |_,_=>False
theorem aaX:LOK Tryz.prog 115 R7:=by
 intro xs objs K hk;unfold R7 at hk;split at hk
 ·obtain⟨⟨rfl,h1,h2,h3⟩,hk⟩:=hk
  exact⟨_,_,hk,R6 ⟨_,_,_,_,_,_⟩ _ h1 h2 h3⟩
 ·exact hk.elim
end Go.Eng.YtcechbdgokjmgaaGreatDoor
namespace Go.Eng.YtcechbdgokjmgaaGreatDoor
open Go.Proofs
set_option linter.unusedSimpArgs false
set_option linter.unusedVariables false
set_option maxHeartbeats 0
set_option maxRecDepth 100000
def kS:PSp:=fun xs K=>match xs with
 | [.str r]=>∃g:Int,VC (aP r=g)∧K (.int .i64 g)
 |_=>False
theorem kT:POK Tryz.prog 101 kS:=by
 intro xs K hk;unfold kS at hk;split at hk
 ·obtain⟨g,⟨rfl⟩,hk⟩:=hk
  exact⟨_,hk,Ms _⟩
 ·exact hk.elim
noncomputable def ac5:CPT:=aA 101 (aB kS) (aA 130 (aB nC) (aA 156 (aB zy) (aA 172 (aB (jK xO)) (aA 173 (aB (nA fun s y x=>xP s y)) (aA 174 (aB (nA qd)) (aA 175 (aB (jK xS)) (aA 176 (aB (jK xU)) noC)))))))
theorem qC:aW Tryz.prog ac5:=aj (au kT) (aj (au l7) (aj (au Am) (aj (au Jy) (aj (au Jz) (aj (au FH) (aj (au zI) (aj (au sO) aD)))))))
structure l9 (c:Int) (ls:List (List Int)) (r:ByteArray) (y x k:Int):Prop where
 g:1≤aP r
 y:0≤y∧y<c
 x:1≤x∧x≤c
 k:aP r=2∨aP r=3∨(0≤k∧k<ls.length)
theorem Pn (c:Int) (ls:List (List Int)) (sum:Int) (gv:List Int) (s:St) (h:bO c ls sum s) (r:ByteArray) (y x k:Int) (hd:l9 c ls r y x k):
 aF Tryz.prog 127 [bdV c ls sum gv s,ddV r y x k] (.bp (okJ (aP r).toNat s sum (ls.getD k.toNat []) y x)):=by
 have hc:=h.c1;have hy:=hd.y;have hx:=hd.x;have hxs:=h.at hy;have hm:(ms s.cs).getD y.toNat 0=(mk (s.cd y.toNat):Nat):=eP hxs.1;have hA:=(h.asc _ hxs.1).1;have hr:=ng hA;have hlen:=bQ s.cs;have hcl:=h.cl;have hdl:=h.dl;have hte:=uL;have hhas:=Ao hA (x:=x) (by omega)
 obtain⟨rfl,hg⟩|⟨rfl,hg⟩|⟨rfl,hg⟩|⟨rfl,hg⟩|⟨rfl,hg⟩|hg:=l8 r
 ·have hk:=hd.k
  rw[hg];rw[hg]at hk;have hok:okJ (agt 1) s sum (ls.getD k.toNat []) y x=(!s.dc y.toNat&&(decide (x∈s.cd y.toNat)&&xO s sum (ls.getD k.toNat []) y x)):=rfl;rw[hok];refine av (md:=1) (rf:=[]) mixed ak qC Tryz.func127 (by rfl) (by rfl) (by rfl) ?_
  repeat'((conv=>whnf);first|apply Exists.intro (s)|apply Exists.intro (1)|(intro hq;(try simp only[vw]at hq);try first|exact absurd hq (by decide)|exfalso;omega)|apply aI|with_reducible exact vM rfl|exact⟨⟩|apply nM|apply fM)
  all_goals((try apply vM);(try simp only[vq]at*);try omega)
  all_goals(try rw[hm])
  all_goals(try omega)
  all_goals(try(first|exact⟨h,by omega,hy,hx⟩|exact⟨h,hy,hx⟩))
  all_goals(try rw[hm,hhas]at*)
  ·rw[hte];decide
  ·rename_i h1
   rw[show s.dc y.toNat=false from h1,hq];exact Sup.of rfl
  ·rename_i h1
   rw[show s.dc y.toNat=false from h1,hq];exact dK false
  ·rw[show s.dc y.toNat=true from hq];exact dK false
 ·have hk:=hd.k
  rw[hg];rw[hg]at hk;have hok:okJ (agt 2) s sum (ls.getD k.toNat []) y x=(!s.dc y.toNat&&(decide (x∈s.cd y.toNat)&&xP s y)):=rfl;rw[hok];refine av (md:=1) (rf:=[]) mixed ak qC Tryz.func127 (by rfl) (by rfl) (by rfl) ?_
  repeat'((conv=>whnf);first|apply Exists.intro (s)|apply Exists.intro (2)|(intro hq;(try simp only[vw]at hq);try first|exact absurd hq (by decide)|exfalso;omega)|apply aI|with_reducible exact vM rfl|exact⟨⟩|apply nM|apply fM)
  all_goals((try apply vM);(try simp only[vq]at*);try omega)
  all_goals(try rw[hm])
  all_goals(try omega)
  all_goals(try(first|exact⟨h,by omega,hy,hx⟩|exact⟨h,hy,hx⟩))
  all_goals(try rw[hm,hhas]at*)
  ·rw[hte];decide
  ·rename_i h1
   rw[show s.dc y.toNat=false from h1,hq];exact Sup.of rfl
  ·rename_i h1
   rw[show s.dc y.toNat=false from h1,hq];exact dK false
  ·rw[show s.dc y.toNat=true from hq];exact dK false
 ·have hk:=hd.k
  rw[hg];rw[hg]at hk;have hok:okJ (agt 3) s sum (ls.getD k.toNat []) y x=(!s.dc y.toNat&&(decide (x∈s.cd y.toNat)&&qd s y x)):=rfl;rw[hok];refine av (md:=1) (rf:=[]) mixed ak qC Tryz.func127 (by rfl) (by rfl) (by rfl) ?_
  repeat'((conv=>whnf);first|apply Exists.intro (s)|apply Exists.intro (3)|(intro hq;(try simp only[vw]at hq);try first|exact absurd hq (by decide)|exfalso;omega)|apply aI|with_reducible exact vM rfl|exact⟨⟩|apply nM|apply fM)
  all_goals((try apply vM);(try simp only[vq]at*);try omega)
  all_goals(try rw[hm])
  all_goals(try omega)
  all_goals(try(first|exact⟨h,by omega,hy,hx⟩|exact⟨h,hy,hx⟩))
  all_goals(try rw[hm,hhas]at*)
  ·rw[hte];decide
  ·rename_i h1
   rw[show s.dc y.toNat=false from h1,hq];exact Sup.of rfl
  ·rename_i h1
   rw[show s.dc y.toNat=false from h1,hq];exact dK false
  ·rw[show s.dc y.toNat=true from hq];exact dK false
 ·have hk:=hd.k
  rw[hg];rw[hg]at hk;have hok:okJ (agt 4) s sum (ls.getD k.toNat []) y x=(!s.dc y.toNat&&(decide (x∈s.cd y.toNat)&&xS s sum (ls.getD k.toNat []) y x)):=rfl;rw[hok];refine av (md:=1) (rf:=[]) mixed ak qC Tryz.func127 (by rfl) (by rfl) (by rfl) ?_
  repeat'((conv=>whnf);first|apply Exists.intro (s)|apply Exists.intro (4)|(intro hq;(try simp only[vw]at hq);try first|exact absurd hq (by decide)|exfalso;omega)|apply aI|with_reducible exact vM rfl|exact⟨⟩|apply nM|apply fM)
  all_goals((try apply vM);(try simp only[vq]at*);try omega)
  all_goals(try rw[hm])
  all_goals(try omega)
  all_goals(try(first|exact⟨h,by omega,hy,hx⟩|exact⟨h,hy,hx⟩))
  all_goals(try rw[hm,hhas]at*)
  ·rw[hte];decide
  ·rename_i h1
   rw[show s.dc y.toNat=false from h1,hq];exact Sup.of rfl
  ·rename_i h1
   rw[show s.dc y.toNat=false from h1,hq];exact dK false
  ·rw[show s.dc y.toNat=true from hq];exact dK false
 ·have hk:=hd.k
  rw[hg];rw[hg]at hk;have hok:okJ (agt 5) s sum (ls.getD k.toNat []) y x=(!s.dc y.toNat&&(decide (x∈s.cd y.toNat)&&xU s sum (ls.getD k.toNat []) y x)):=rfl;rw[hok];refine av (md:=1) (rf:=[]) mixed ak qC Tryz.func127 (by rfl) (by rfl) (by rfl) ?_
  repeat'((conv=>whnf);first|apply Exists.intro (s)|apply Exists.intro (5)|(intro hq;(try simp only[vw]at hq);try first|exact absurd hq (by decide)|exfalso;omega)|apply aI|with_reducible exact vM rfl|exact⟨⟩|apply nM|apply fM)
  all_goals((try apply vM);(try simp only[vq]at*);try omega)
  all_goals(try rw[hm])
  all_goals(try omega)
  all_goals(try(first|exact⟨h,by omega,hy,hx⟩|exact⟨h,hy,hx⟩))
  all_goals(try rw[hm,hhas]at*)
  ·rw[hte];decide
  ·rename_i h1
   rw[show s.dc y.toNat=false from h1,hq];exact Sup.of rfl
  ·rename_i h1
   rw[show s.dc y.toNat=false from h1,hq];exact dK false
  ·rw[show s.dc y.toNat=true from hq];exact dK false
 have:=hd.g;omega
def DI:PSp:=fun xs K=>match xs with
 | [.ip (.pv [.int .i64 c,.isl (.rows .i64 ls) .none,.int .i64 sum,.isl (.ints .i64 gv) .none,.isl (.ints .u32 M) .none,.isl (.bools D) .none]) 0,.agg [.str r,.int .i64 y,.int .i64 x,.int .i64 k]]=>∃s:St,VC (M=ms s.cs∧D=s.ds∧bO c ls sum s∧l9 c ls r y x k)∧K (.bp (okJ (aP r).toNat s sum (ls.getD k.toNat []) y x))
 |_=>False
theorem JE:POK Tryz.prog 127 DI:=by
 intro xs K hk;unfold DI at hk;split at hk
 ·obtain⟨s,⟨rfl,rfl,h,h1⟩,hk⟩:=hk
  exact⟨_,hk,Pn _ _ _ _ s h _ _ _ _ h1⟩
 ·exact hk.elim
abbrev bdO (c:Int) (ls:List (List Int)) (sum:Int) (gv:List Int) (s:St) (n:Nat):List AO:=[.cells (.pv [.int .i64 c,.isl (.rows .i64 ls) .none,.int .i64 sum,.isl (.ints .i64 gv) .none,.rsl 1 0 n,.rsl 2 0 n]) false,.cells (.ints .u32 (ms s.cs)) false,.cells (.bools s.ds) false]
noncomputable def ac6:CPT:=aA 101 (aB kS) (aA 130 (aB nC) noC)
theorem kU:aW Tryz.prog ac6:=aj (au kT) (aj (au l7) aD)
theorem nD (cs:List (List Int)) (i:Nat) (l:List Int):(ms cs).set i (mk l:Nat)=ms (cs.set i l):=by unfold ms;rw[List.map_set]
def dlt (cs:List (List Int)) (x:Int) (i:Nat):List (List Int):=(ael cs.length).map fun j=>if j<i then dQ (cs.getD j []) x else cs.getD j []
theorem oC (cs:List (List Int)) (x:Int) (i:Nat):(dlt cs x i).length=cs.length:=by simp[dlt]
theorem yg (cs:List (List Int)) (x:Int):dlt cs x 0=cs:=by
 refine agW (oC _ _ _) fun j h1 h2=>?_;simp[dlt,aeo,h2]
theorem AB (cs:List (List Int)) (x:Int):dlt cs x cs.length=cs.map fun l=>dQ l x:=by
 refine agW (by simp[oC]) fun j h1 h2=>?_
 have hj:j<cs.length:=by simpa using h2
 simp[dlt,aeo,hj]
theorem FQ {cs:List (List Int)} {x:Int} {i:Nat} (h:i<cs.length):(dlt cs x i).getD i []=cs.getD i []:=by
 simp[dlt,aeo,h]
theorem yh {cs:List (List Int)} {x:Int} {i:Nat} (h:i<cs.length):(dlt cs x i).set i (dQ (cs.getD i []) x)=dlt cs x (i+1):=by
 refine agW (by simp[oC]) fun j h1 h2=>?_
 rw[agX];simp only[dlt,agY,agZ];by_cases e:i=j
 ·subst e;rw[if_pos rfl,if_pos (by omega)]
 ·rw[if_neg e]
  by_cases hl:j<i
  ·rw[if_pos hl,if_pos (by omega)]
  ·rw[if_neg hl,if_neg (by omega)]
theorem Mv (c:Int) (ls:List (List Int)) (sum:Int) (gv:List Int) (s:St) (n:Nat) (h:bO c ls sum s) (hn:n=s.cs.length) (r:ByteArray) (y x k:Int) (hd:l9 c ls r y x k):
 gL Tryz.prog 128 [.rp 0 0,ddV r y x k] (bdO c ls sum gv s n) [] (bdO c ls sum gv (apl (aP r).toNat s y x) n):=by
 have hc:=h.c1;have hy:=hd.y;have hx:=hd.x;have hxs:=h.at hy;have hm:(ms s.cs).getD y.toNat 0=(mk (s.cd y.toNat):Nat):=eP hxs.1;have hA:=(h.asc _ hxs.1).1;have hr:=ng hA;have hlen:=bQ s.cs;have hcl:=h.cl;have hdl:=h.dl;have hte:=uL;have hsb:=gQ x.toNat (by omega)
 have hdel:=qz hA.inM (show 0≤x∧x≤31 by omega)
 have hone:(1:Int)*2 ^ x.toNat=((mk [x]:Nat):Int):=by rw[mk_one,agb];norm_cast
 have hm1:y.toNat+1≤(ms s.cs).length∧y.toNat+1≤s.ds.length∧y<n:=by omega
 obtain⟨rfl,hg⟩|⟨rfl,hg⟩|⟨rfl,hg⟩|⟨rfl,hg⟩|⟨rfl,hg⟩|hg:=l8 r
 ·rw[hg,show apl (agt 1) s y x=⟨(s.cs.map fun l=>dQ l x).set y.toNat [x],s.ds.set y.toNat true⟩from rfl]
  refine bG (md:=1) (rf:=[]) mixed ak kU 3 [] Tryz.func128 (by rfl) (by rfl) (by rfl) ?_
  repeat'((conv=>whnf);first|apply Exists.intro (1)|(intro hq;(try simp only[vw]at hq);try first|exact absurd hq (by decide)|exfalso;omega)|apply aI|with_reducible exact vM rfl|exact⟨⟩|apply nM|apply fM)
  all_goals((try apply vM);(try simp only[vq]at*);try omega)
  all_goals(try first|omega|(rw[hte];decide))
  conv=>whnf
  refine aM (X:=Nat) (fun i=>i≤s.cs.length) (fun i=>[(30,.int .i64 i)]) (fun i=>[(1,.cells (.ints .u32 (ms (dlt s.cs x i))) false)]) (fun i=>s.cs.length-i) 0 ⟨aK,mixed,ak,kU,aQ⟩ (by rfl) (by omega) ?_ ?_
  ·repeat'((conv=>whnf);first|intro _|apply aI|with_reducible exact vM rfl|exact⟨⟩|apply nM|apply fM)
   all_goals((try apply vM);(try simp only[vq]at*);try omega)
   all_goals(try rw[yg])
  intro i hi;have hl1:=bQ (dlt s.cs x i);have hl2:=oC s.cs x i;by_cases hlt:i<s.cs.length
  ·have hAi:=(h.asc _ hlt).1
   have hmi:(ms (dlt s.cs x i)).getD i 0=(mk (s.cd i):Nat):=by rw[eP (by omega),FQ hlt];rfl
   have hdi:=qz hAi.inM (show 0≤x∧x≤31 by omega)
   repeat'((conv=>whnf);first|(intro hq;(try simp only[vw]at hq);try first|exact absurd hq (by decide)|exfalso;omega)|apply aI|with_reducible exact vM rfl|exact⟨⟩|apply nM|apply fM)
   all_goals((try apply vM);(try simp only[vq]at*);try omega)
   all_goals(try omega)
   refine⟨i+1,[],⟨by omega,by omega⟩,?_⟩
   repeat'((conv=>whnf);first|intro _|apply aI|with_reducible exact vM rfl|exact⟨⟩|apply nM|apply fM)
   all_goals((try apply vM);(try simp only[vq]at*);try omega)
   all_goals(rw[hmi,hdi,nD];exact congrArg ms (yh hlt))
  ·have:i=s.cs.length:=by omega
   subst this;rw[AB]at*
   repeat'((conv=>whnf);first|(intro hq;(try simp only[vw]at hq);try first|exact absurd hq (by decide)|exfalso;omega)|apply aI|with_reducible exact vM rfl|exact⟨⟩|apply nM|apply fM)
   all_goals((try apply vM);(try simp only[vq]at*);try omega)
   all_goals(try omega)
   all_goals(rw[hone];exact nD _ _ _)
 ·rw[hg,show apl (agt 2) s y x=⟨(s.cs.map fun l=>dQ l x).set y.toNat [x],s.ds.set y.toNat true⟩from rfl]
  refine bG (md:=1) (rf:=[]) mixed ak kU 3 [] Tryz.func128 (by rfl) (by rfl) (by rfl) ?_
  repeat'((conv=>whnf);first|apply Exists.intro (2)|(intro hq;(try simp only[vw]at hq);try first|exact absurd hq (by decide)|exfalso;omega)|apply aI|with_reducible exact vM rfl|exact⟨⟩|apply nM|apply fM)
  all_goals((try apply vM);(try simp only[vq]at*);try omega)
  all_goals(try first|omega|(rw[hte];decide))
  conv=>whnf
  refine aM (X:=Nat) (fun i=>i≤s.cs.length) (fun i=>[(30,.int .i64 i)]) (fun i=>[(1,.cells (.ints .u32 (ms (dlt s.cs x i))) false)]) (fun i=>s.cs.length-i) 0 ⟨aK,mixed,ak,kU,aQ⟩ (by rfl) (by omega) ?_ ?_
  ·repeat'((conv=>whnf);first|intro _|apply aI|with_reducible exact vM rfl|exact⟨⟩|apply nM|apply fM)
   all_goals((try apply vM);(try simp only[vq]at*);try omega)
   all_goals(try rw[yg])
  intro i hi;have hl1:=bQ (dlt s.cs x i);have hl2:=oC s.cs x i;by_cases hlt:i<s.cs.length
  ·have hAi:=(h.asc _ hlt).1
   have hmi:(ms (dlt s.cs x i)).getD i 0=(mk (s.cd i):Nat):=by rw[eP (by omega),FQ hlt];rfl
   have hdi:=qz hAi.inM (show 0≤x∧x≤31 by omega)
   repeat'((conv=>whnf);first|(intro hq;(try simp only[vw]at hq);try first|exact absurd hq (by decide)|exfalso;omega)|apply aI|with_reducible exact vM rfl|exact⟨⟩|apply nM|apply fM)
   all_goals((try apply vM);(try simp only[vq]at*);try omega)
   all_goals(try omega)
   refine⟨i+1,[],⟨by omega,by omega⟩,?_⟩
   repeat'((conv=>whnf);first|intro _|apply aI|with_reducible exact vM rfl|exact⟨⟩|apply nM|apply fM)
   all_goals((try apply vM);(try simp only[vq]at*);try omega)
   all_goals(rw[hmi,hdi,nD];exact congrArg ms (yh hlt))
  ·have:i=s.cs.length:=by omega
   subst this;rw[AB]at*
   repeat'((conv=>whnf);first|(intro hq;(try simp only[vw]at hq);try first|exact absurd hq (by decide)|exfalso;omega)|apply aI|with_reducible exact vM rfl|exact⟨⟩|apply nM|apply fM)
   all_goals((try apply vM);(try simp only[vq]at*);try omega)
   all_goals(try omega)
   all_goals(rw[hone];exact nD _ _ _)
 ·rw[hg,show apl (agt 3) s y x=⟨(s.cs.map fun l=>dQ l x).set y.toNat [x],s.ds.set y.toNat true⟩from rfl]
  refine bG (md:=1) (rf:=[]) mixed ak kU 3 [] Tryz.func128 (by rfl) (by rfl) (by rfl) ?_
  repeat'((conv=>whnf);first|apply Exists.intro (3)|(intro hq;(try simp only[vw]at hq);try first|exact absurd hq (by decide)|exfalso;omega)|apply aI|with_reducible exact vM rfl|exact⟨⟩|apply nM|apply fM)
  all_goals((try apply vM);(try simp only[vq]at*);try omega)
  all_goals(try first|omega|(rw[hte];decide))
  conv=>whnf
  refine aM (X:=Nat) (fun i=>i≤s.cs.length) (fun i=>[(30,.int .i64 i)]) (fun i=>[(1,.cells (.ints .u32 (ms (dlt s.cs x i))) false)]) (fun i=>s.cs.length-i) 0 ⟨aK,mixed,ak,kU,aQ⟩ (by rfl) (by omega) ?_ ?_
  ·repeat'((conv=>whnf);first|intro _|apply aI|with_reducible exact vM rfl|exact⟨⟩|apply nM|apply fM)
   all_goals((try apply vM);(try simp only[vq]at*);try omega)
   all_goals(try rw[yg])
  intro i hi;have hl1:=bQ (dlt s.cs x i);have hl2:=oC s.cs x i;by_cases hlt:i<s.cs.length
  ·have hAi:=(h.asc _ hlt).1
   have hmi:(ms (dlt s.cs x i)).getD i 0=(mk (s.cd i):Nat):=by rw[eP (by omega),FQ hlt];rfl
   have hdi:=qz hAi.inM (show 0≤x∧x≤31 by omega)
   repeat'((conv=>whnf);first|(intro hq;(try simp only[vw]at hq);try first|exact absurd hq (by decide)|exfalso;omega)|apply aI|with_reducible exact vM rfl|exact⟨⟩|apply nM|apply fM)
   all_goals((try apply vM);(try simp only[vq]at*);try omega)
   all_goals(try omega)
   refine⟨i+1,[],⟨by omega,by omega⟩,?_⟩
   repeat'((conv=>whnf);first|intro _|apply aI|with_reducible exact vM rfl|exact⟨⟩|apply nM|apply fM)
   all_goals((try apply vM);(try simp only[vq]at*);try omega)
   all_goals(rw[hmi,hdi,nD];exact congrArg ms (yh hlt))
  ·have:i=s.cs.length:=by omega
   subst this;rw[AB]at*
   repeat'((conv=>whnf);first|(intro hq;(try simp only[vw]at hq);try first|exact absurd hq (by decide)|exfalso;omega)|apply aI|with_reducible exact vM rfl|exact⟨⟩|apply nM|apply fM)
   all_goals((try apply vM);(try simp only[vq]at*);try omega)
   all_goals(try omega)
   all_goals(rw[hone];exact nD _ _ _)
 ·rw[hg,show apl (agt 4) s y x=⟨s.cs.set y.toNat (dQ (s.cd y.toNat) x),s.ds⟩from rfl]
  refine bG (md:=1) (rf:=[]) mixed ak kU 3 [] Tryz.func128 (by rfl) (by rfl) (by rfl) ?_
  repeat'((conv=>whnf);first|apply Exists.intro (4)|(intro hq;(try simp only[vw]at hq);try first|exact absurd hq (by decide)|exfalso;omega)|apply aI|with_reducible exact vM rfl|exact⟨⟩|apply nM|apply fM)
  all_goals((try apply vM);(try simp only[vq]at*);try omega)
  all_goals(try first|omega|(rw[hte];decide))
  all_goals(try rw[hm,hdel,nD])
 ·rw[hg,show apl (agt 5) s y x=⟨s.cs.set y.toNat (dQ (s.cd y.toNat) x),s.ds⟩from rfl]
  refine bG (md:=1) (rf:=[]) mixed ak kU 3 [] Tryz.func128 (by rfl) (by rfl) (by rfl) ?_
  repeat'((conv=>whnf);first|apply Exists.intro (5)|(intro hq;(try simp only[vw]at hq);try first|exact absurd hq (by decide)|exfalso;omega)|apply aI|with_reducible exact vM rfl|exact⟨⟩|apply nM|apply fM)
  all_goals((try apply vM);(try simp only[vq]at*);try omega)
  all_goals(try first|omega|(rw[hte];decide))
  all_goals(try rw[hm,hdel,nD])
 have:=hd.g;omega
def dL (c:Int) (ls:List (List Int)) (r:ByteArray) (y x k:Int):Int:=
 if aP r=0 then 13 else if y<0∨c≤y then 10 else if x<1∨c<x then 3 else if aP r=2∨aP r=3 then(if k≠ -1 then 10 else 0)else if k<0∨ls.length≤k∨y∉ls.getD k.toNat []then 10 else 0
noncomputable def ac7:CPT:=aA 88 (aB fZ) (aA 89 (aB eO) (aA 94 (aB zF) (aA 101 (aB kS) (aA 130 (aB nC) noC))))
theorem kV:aW Tryz.prog ac7:=aj (au fA) (aj (au eY) (aj (au Ar) (aj (au kT) (aj (au l7) aD))))
theorem R8 (c:Int) (ls:List (List Int)) (sum:Int) (gv:List Int) (h:bH ls) (r:ByteArray) (y x k:Int):
 aF Tryz.prog 126 [pzV c ls sum gv,ddV r y x k] (.int .i64 (dL c ls r y x k)):=by
 have hte:=uL;have h4:=fun i=>h.at' i;have h2:=h.len;by_cases hg:aP r=0
 ·rw[show dL c ls r y x k=13 by unfold dL;rw[if_pos hg]]
  refine av (md:=1) (rf:=[]) mixed ak kV Tryz.func126 (by rfl) (by rfl) (by rfl) ?_
  repeat'((conv=>whnf);first|apply Exists.intro (0)|(intro hq;(try simp only[vw]at hq);try first|exact absurd hq (by decide)|exfalso;omega)|apply aI|with_reducible exact vM rfl|exact⟨⟩|apply nM|apply fM)
  all_goals((try apply vM);(try simp only[vq]at*);try omega)
  all_goals first|exact hg|(exfalso;simp[aG]at hq;done)|(exact Sup.of (by simp[bF,aG]))|skip
 by_cases hy:y<0∨c≤y
 ·rw[show dL c ls r y x k=10 by unfold dL;rw[if_neg hg,if_pos hy]]
  refine av (md:=1) (rf:=[]) mixed ak kV Tryz.func126 (by rfl) (by rfl) (by rfl) ?_
  repeat'((conv=>whnf);first|apply Exists.intro (aP r)|(intro hq;(try simp only[vw]at hq);try first|exact absurd hq (by decide)|exfalso;omega)|apply aI|with_reducible exact vM rfl|exact⟨⟩|apply nM|apply fM)
  all_goals((try apply vM);(try simp only[vq]at*);try omega)
  all_goals(try rw[if_neg hg]at hq)
  all_goals(try rw[if_neg hg])
  all_goals first|(exfalso;simp_all[aG];done)|(exact Sup.of (by simp_all[bF,aG]))|skip
 by_cases hx:x<1∨c<x
 ·rw[show dL c ls r y x k=3 by unfold dL;rw[if_neg hg,if_neg hy,if_pos hx]]
  have hy1:¬y<0:=fun e=>hy (.inl e);have hy2:¬c≤y:=fun e=>hy (.inr e);clear hy;refine av (md:=1) (rf:=[]) mixed ak kV Tryz.func126 (by rfl) (by rfl) (by rfl) ?_
  repeat'((conv=>whnf);first|apply Exists.intro (aP r)|(intro hq;(try simp only[vw]at hq);try first|exact absurd hq (by decide)|exfalso;omega)|apply aI|with_reducible exact vM rfl|exact⟨⟩|apply nM|apply fM)
  all_goals((try apply vM);(try simp only[vq]at*);try omega)
  all_goals(try rw[if_neg hg]at hq)
  all_goals(try rw[if_neg hg])
  all_goals first|(exfalso;simp_all[aG];done)|(exact Sup.of (by simp_all[bF,aG]))|skip
 have hy1:¬y<0:=fun e=>hy (.inl e);have hy2:¬c≤y:=fun e=>hy (.inr e);have hx1:¬x<1:=fun e=>hx (.inl e);have hx2:¬c<x:=fun e=>hx (.inr e);obtain⟨rfl,hgr⟩|⟨rfl,hgr⟩|⟨rfl,hgr⟩|⟨rfl,hgr⟩|⟨rfl,hgr⟩|hgr:=l8 r
 ·rw[show dL c ls bJ y x k=if k<0∨ls.length≤k∨y∉ls.getD k.toNat []then 10 else 0 by unfold dL;rw[if_neg (by rw[hgr];decide),if_neg hy,if_neg hx,if_neg (by rw[hgr];decide)]]
  clear hy hx hg;refine av (md:=1) (rf:=[]) mixed ak kV Tryz.func126 (by rfl) (by rfl) (by rfl) ?_
  repeat'((conv=>whnf);first|apply Exists.intro (1)|(intro hq;(try simp only[vw]at hq);try first|exact absurd hq (by decide)|exfalso;omega)|apply aI|with_reducible exact vM rfl|exact⟨⟩|apply nM|apply fM)
  all_goals((try apply vM);(try simp only[vq]at*);try omega)
  all_goals first|exact hgr|(rw[hte];decide)|(exfalso;simp_all[aG];done)|(have:=h4 k.toNat;omega)|skip
  all_goals(refine Sup.of (congrArg (PV.int .i64) ?_))
  ·rename_i h9
   by_cases hm:y∈ls.getD k.toNat []
   ·rw[if_neg (show¬(k<0∨ ↑ls.length≤k∨¬y∈ls.getD k.toNat [])from fun e=>by rcases e with e|e|e;exact h9 e;exact hq e;exact e hm),decide_eq_true hm];rfl
   ·rw[if_pos (show k<0∨ ↑ls.length≤k∨¬y∈ls.getD k.toNat []from .inr (.inr hm)),decide_eq_false hm];rfl
  ·rw[if_pos trivial,if_pos (.inr (.inl hq))]
  ·rw[if_pos trivial,if_pos (.inl hq)]
 ·rw[show dL c ls bU y x k=if k≠ -1 then 10 else 0 by unfold dL;rw[if_neg (by rw[hgr];decide),if_neg hy,if_neg hx,if_pos (by rw[hgr];decide)]]
  clear hy hx hg;refine av (md:=1) (rf:=[]) mixed ak kV Tryz.func126 (by rfl) (by rfl) (by rfl) ?_
  repeat'((conv=>whnf);first|apply Exists.intro (2)|(intro hq;(try simp only[vw]at hq);try first|exact absurd hq (by decide)|exfalso;omega)|apply aI|with_reducible exact vM rfl|exact⟨⟩|apply nM|apply fM)
  all_goals((try apply vM);(try simp only[vq]at*);try omega)
  all_goals first|exact hgr|(rw[hte];decide)|(exfalso;simp_all[aG];done)|(exact Sup.of (by simp[bF]))|skip
 ·rw[show dL c ls bV y x k=if k≠ -1 then 10 else 0 by unfold dL;rw[if_neg (by rw[hgr];decide),if_neg hy,if_neg hx,if_pos (by rw[hgr];decide)]]
  clear hy hx hg;refine av (md:=1) (rf:=[]) mixed ak kV Tryz.func126 (by rfl) (by rfl) (by rfl) ?_
  repeat'((conv=>whnf);first|apply Exists.intro (3)|(intro hq;(try simp only[vw]at hq);try first|exact absurd hq (by decide)|exfalso;omega)|apply aI|with_reducible exact vM rfl|exact⟨⟩|apply nM|apply fM)
  all_goals((try apply vM);(try simp only[vq]at*);try omega)
  all_goals first|exact hgr|(rw[hte];decide)|(exfalso;simp_all[aG];done)|(exact Sup.of (by simp[bF]))|skip
 ·rw[show dL c ls bR y x k=if k<0∨ls.length≤k∨y∉ls.getD k.toNat []then 10 else 0 by unfold dL;rw[if_neg (by rw[hgr];decide),if_neg hy,if_neg hx,if_neg (by rw[hgr];decide)]]
  clear hy hx hg;refine av (md:=1) (rf:=[]) mixed ak kV Tryz.func126 (by rfl) (by rfl) (by rfl) ?_
  repeat'((conv=>whnf);first|apply Exists.intro (4)|(intro hq;(try simp only[vw]at hq);try first|exact absurd hq (by decide)|exfalso;omega)|apply aI|with_reducible exact vM rfl|exact⟨⟩|apply nM|apply fM)
  all_goals((try apply vM);(try simp only[vq]at*);try omega)
  all_goals first|exact hgr|(rw[hte];decide)|(exfalso;simp_all[aG];done)|(have:=h4 k.toNat;omega)|skip
  all_goals(refine Sup.of (congrArg (PV.int .i64) ?_))
  ·rename_i h9
   by_cases hm:y∈ls.getD k.toNat []
   ·rw[if_neg (show¬(k<0∨ ↑ls.length≤k∨¬y∈ls.getD k.toNat [])from fun e=>by rcases e with e|e|e;exact h9 e;exact hq e;exact e hm),decide_eq_true hm];rfl
   ·rw[if_pos (show k<0∨ ↑ls.length≤k∨¬y∈ls.getD k.toNat []from .inr (.inr hm)),decide_eq_false hm];rfl
  ·rw[if_pos trivial,if_pos (.inr (.inl hq))]
  ·rw[if_pos trivial,if_pos (.inl hq)]
 ·rw[show dL c ls bS y x k=if k<0∨ls.length≤k∨y∉ls.getD k.toNat []then 10 else 0 by unfold dL;rw[if_neg (by rw[hgr];decide),if_neg hy,if_neg hx,if_neg (by rw[hgr];decide)]]
  clear hy hx hg;refine av (md:=1) (rf:=[]) mixed ak kV Tryz.func126 (by rfl) (by rfl) (by rfl) ?_
  repeat'((conv=>whnf);first|apply Exists.intro (5)|(intro hq;(try simp only[vw]at hq);try first|exact absurd hq (by decide)|exfalso;omega)|apply aI|with_reducible exact vM rfl|exact⟨⟩|apply nM|apply fM)
  all_goals((try apply vM);(try simp only[vq]at*);try omega)
  all_goals first|exact hgr|(rw[hte];decide)|(exfalso;simp_all[aG];done)|(have:=h4 k.toNat;omega)|skip
  all_goals(refine Sup.of (congrArg (PV.int .i64) ?_))
  ·rename_i h9
   by_cases hm:y∈ls.getD k.toNat []
   ·rw[if_neg (show¬(k<0∨ ↑ls.length≤k∨¬y∈ls.getD k.toNat [])from fun e=>by rcases e with e|e|e;exact h9 e;exact hq e;exact e hm),decide_eq_true hm];rfl
   ·rw[if_pos (show k<0∨ ↑ls.length≤k∨¬y∈ls.getD k.toNat []from .inr (.inr hm)),decide_eq_false hm];rfl
  ·rw[if_pos trivial,if_pos (.inr (.inl hq))]
  ·rw[if_pos trivial,if_pos (.inl hq)]
 exact absurd hgr hg
def FR:PSp:=fun xs K=>match xs with
 | [.agg [.int .i64 c,.isl (.rows .i64 ls) .none,.int .i64 sum,.isl (.ints .i64 gv) .none],.agg [.str r,.int .i64 y,.int .i64 x,.int .i64 k]]=>VC (bH ls)∧K (.int .i64 (dL c ls r y x k))
 |_=>False
theorem FT:POK Tryz.prog 126 FR:=by
 intro xs K h;unfold FR at h;split at h
 ·exact⟨_,h.2,R8 _ _ _ _ h.1.get _ _ _ _⟩
 ·exact h.elim
theorem l9.of {c:Int} {ls:List (List Int)} {r:ByteArray} {y x k:Int} (h:dL c ls r y x k=0):l9 c ls r y x k:=by
 unfold dL at h;by_cases h1:aP r=0
 ·rw[if_pos h1]at h;cases h
 rw[if_neg h1]at h;by_cases h2:y<0∨c≤y
 ·rw[if_pos h2]at h;cases h
 rw[if_neg h2]at h;by_cases h3:x<1∨c<x
 ·rw[if_pos h3]at h;cases h
 rw[if_neg h3]at h;have hg:1≤aP r:=by
  obtain⟨_,hg⟩|⟨_,hg⟩|⟨_,hg⟩|⟨_,hg⟩|⟨_,hg⟩|hg:=l8 r;all_goals omega
 refine⟨hg,by omega,by omega,?_⟩
 by_cases h4:aP r=2∨aP r=3
 ·rcases h4 with h4|h4
  ·exact .inl h4
  ·exact .inr (.inl h4)
 rw[if_neg h4]at h;by_cases h5:k<0∨ls.length≤k∨y∉ls.getD k.toNat []
 ·rw[if_pos h5]at h;cases h
 ·refine .inr (.inr ?_)
  constructor
  ·exact Int.not_lt.1 fun e=>h5 (.inl e)
  ·exact Int.not_le.1 fun e=>h5 (.inr (.inl e))
theorem qD {go:List PV→Bool} {L A B:List PV} {d:PV} (h:L=A++d::B) (hg:GoTo go L A.length):Nxt go L A d:=⟨A.length,by rw[h];simp,by rw[h];simp,by rw[h];simp,hg⟩
theorem uU {L A B:List PV} {d:PV} (h:L=A++d::B):L.take (A.length+1)=A++[d]:=by
 rw[h,List.take_append,List.take_of_length_le (by omega)];simp
theorem oZ {go:List PV→Bool} {L A B:List PV} {d:PV} (h:L=A++d::B) (hg:GoTo go L A.length) (ht:go (A++[d])=true):GoTo go L (A++[d]).length:=by
 rw[afu];exact hg.succ (by rw[uU h];exact ht)
theorem o7 {go:List PV→Bool} {L A B:List PV} {d:PV} (h:L=A++d::B) (hg:GoTo go L A.length) (ht:go (A++[d])=false):A++[d]=iC go [] L:=by
 rw[←uU h,uj (by rw[h];simp) hg (by rw[uU h];exact ht)]
theorem o8 {go:List PV→Bool} {L:List PV} (hg:GoTo go L L.length):L=iC go [] L:=by rw[xu (aea _) hg]
theorem FU {α:Type} (f:Nat→List α) {j:Nat}:∀{m:Nat},j<m→∃B,(ael m).flatMap f=(ael j).flatMap f++(f j++B):=by
 intro m;induction m with
 |zero=>intro h;omega
 |succ m ih=>
  intro h;rw[ag0,ag1];by_cases e:j=m
  ·subst e;exact⟨[],by simp⟩
  ·obtain⟨B,hB⟩:=ih (by omega)
   exact⟨B++[m].flatMap f,by rw[hB];simp⟩
theorem jm {α:Type} (f:Nat→List α) (j:Nat):(ael (j+1)).flatMap f=(ael j).flatMap f++f j:=by
 rw[ag0,ag1];simp
def lnG (g:Nat):Bool:=g==1||g==4||g==5
def cK (g:Nat) (nm:ByteArray) (s:St) (sum:Int) (l:List Int) (k:Int) (i t:Nat):List PV:=(((s.cd i).take t).filter fun x=>jst g s sum l i x).map fun x=>ddV nm i x k
def dG (g:Nat) (nm:ByteArray) (s:St) (sum:Int) (l:List Int) (k:Int) (i:Nat):List PV:=if s.dc i||(lnG g&&!decide ((i:Int)∈l))then []else cK g nm s sum l k i (s.cd i).length
def bA (g:Nat) (nm:ByteArray) (s:St) (sum:Int) (ls:List (List Int)) (k:Int) (n:Nat):List PV:=(ael n).flatMap fun i=>dG g nm s sum (ls.getD k.toNat []) k i
def aZ (g:Nat) (nm:ByteArray) (s:St) (sum:Int) (ls:List (List Int)) (fr:Int) (m:Nat):List PV:=(ael m).flatMap fun j:Nat=>bA g nm s sum ls (fr+j) s.cs.length
theorem fQ {g:Nat} {nm:ByteArray} {s:St} {sum:Int} {l:List Int} {k:Int} {i:Nat}:cK g nm s sum l k i 0=[]:=rfl
theorem fT {g:Nat} {nm:ByteArray} {s:St} {sum:Int} {l:List Int} {k:Int} {i t:Nat} (h:t<(s.cd i).length):
 cK g nm s sum l k i (t+1)=cK g nm s sum l k i t++if jst g s sum l i ((s.cd i).getD t 0)then [ddV nm i ((s.cd i).getD t 0) k]else []:=by
 unfold cK;rw[dF h,ag2,af4,ag3,ag4];split<;>simp
theorem Mx {g:Nat} {nm:ByteArray} {s:St} {sum:Int} {l:List Int} {k:Int} {i t:Nat} (h:t<(s.cd i).length) (hj:jst g s sum l i ((s.cd i).getD t 0)=true):
 ∃B,cK g nm s sum l k i (s.cd i).length=cK g nm s sum l k i t++ddV nm i ((s.cd i).getD t 0) k::B:=by
 have e:(s.cd i).take (s.cd i).length=(s.cd i).take t++((s.cd i).getD t 0::(s.cd i).drop (t+1)):=by rw[af5,←drop_cons h,List.take_append_drop]
 unfold cK;rw[e,ag2,af4,ag3,if_pos hj,aen];exact⟨_,rfl⟩
theorem nE {g:Nat} {nm:ByteArray} {s:St} {sum:Int} {ls:List (List Int)} {fr:Int} {m j i t:Nat} (hj:j<m) (hi:i<s.cs.length) (ht:t<(s.cd i).length)
 (hc:(s.dc i||(lnG g&&!decide ((i:Int)∈ls.getD (fr+j).toNat [])))=false) (hh:jst g s sum (ls.getD (fr+j).toNat []) i ((s.cd i).getD t 0)=true):
 ∃B,aZ g nm s sum ls fr m=(aZ g nm s sum ls fr j++bA g nm s sum ls (fr+j) i++cK g nm s sum (ls.getD (fr+j).toNat []) (fr+j) i t)++ddV nm i ((s.cd i).getD t 0) (fr+j)::B:=by
 obtain⟨B1,h1⟩:=FU (fun j:Nat=>bA g nm s sum ls (fr+j) s.cs.length) hj;obtain⟨B2,h2⟩:=FU (fun i=>dG g nm s sum (ls.getD (fr+j).toNat []) (fr+j) i) hi;obtain⟨B3,h3⟩:=Mx (nm:=nm) (k:=fr+j) ht hh;have h4:dG g nm s sum (ls.getD (fr+j).toNat []) (fr+j) i=cK g nm s sum (ls.getD (fr+j).toNat []) (fr+j) i (s.cd i).length:=by
  unfold dG;rw[hc];rfl
 refine⟨B3++B2++B1,?_⟩;unfold aZ;rw[h1];simp only[bA,h2,h4,h3,ag5,List.cons_append]
noncomputable def AJ:CPT:=aA 94 (aB zF) (aA 149 (aB zA) (aA 172 (aB (jK xO)) (aA 173 (aB (nA fun s y x=>xP s y)) (aA 174 (aB (nA qd)) (aA 175 (aB (jK xS)) (aA 176 (aB (jK xU)) noC))))))
theorem eZ:aW Tryz.prog AJ:=aj (au Ar) (aj (au Aq) (aj (au Jy) (aj (au Jz) (aj (au FH) (aj (au zI) (aj (au sO) aD))))))
abbrev rlV (nm:ByteArray) (d l:Bool) (k:Nat):PV:=.ip (.pv [.str nm,.bool d,.bool l,kF k]) 0
theorem Po (c:Int) (ls:List (List Int)) (sum:Int) (gv:List Int) (s:St) (h:bO c ls sum s):
 mM Tryz.prog 180 [] [.ip (.pv [.int .i64 0]) 0,.ip (.pv [.int .i64 ls.length]) 0,.ip (.pv [bdV c ls sum gv s]) 0,rlV bJ true true 172] 1 (aZ 1 bJ s sum ls 0 ls.length):=by
 refine kJ (md:=1) (rf:=[]) mixed ak Tryz.func180 (by rfl) (by rfl) (by rfl) fun G go b hY=>⟨_,eZ,?_⟩
 obtain⟨L,hL⟩:∃L,L=aZ 1 bJ s sum ls 0 ls.length:=⟨_,rfl⟩;rw[←hL]at hY⊢;have W:Walk Tryz.prog none jX tab.get AJ (rH b 1 G go L):=⟨aK,mixed,ak,eZ,hY _ _⟩;have hcl:=h.cl;have hdl:=h.dl;have hc1:=h.c1;have hms:=bQ s.cs;have hll:=h.ll
 repeat'((conv=>whnf);first|intro _|apply aI|with_reducible exact vM rfl|exact⟨⟩|apply nM|apply fM)
 all_goals((try apply vM);(try simp only[vq]at*);try omega)
 conv=>whnf
 refine aM (X:=Nat) (fun j=>j≤ls.length∧GoTo go L (aZ 1 bJ s sum ls 0 j).length) (fun j=>[(6,.rp 2 0)]) (fun j=>[(0,.ext G (aZ 1 bJ s sum ls 0 j)),(2,.cells (.pv [.int .i64 (0+(j:Int))]) false)]) (fun j=>ls.length-j) 0 W (by rfl) ⟨by omega,.zero⟩ ?_ ?_
 ·repeat'((conv=>whnf);first|intro _|apply aI|with_reducible exact vM rfl|exact⟨⟩|apply nM|apply fM)
  all_goals((try apply vM);(try simp only[vq]at*);try omega)
  all_goals rfl
 intro j ⟨hj,hgo⟩;by_cases hlt:j<ls.length
 ·have e2:aZ 1 bJ s sum ls 0 (j+1)=aZ 1 bJ s sum ls 0 j++bA 1 bJ s sum ls (0+(j:Int)) s.cs.length:=by unfold aZ;rw[jm]
  have hln:=h.ln j hlt;have hlen:=hln.len;have ejt:(0+(j:Int)).toNat=j:=by omega
  repeat'((conv=>whnf);first|(intro hq;(try simp only[vw]at hq);try first|exact absurd hq (by decide)|exfalso;omega)|apply aI|with_reducible exact vM rfl|exact⟨⟩|apply nM|apply fM)
  all_goals((try apply vM);(try simp only[vq]at*);try omega)
  conv=>whnf
  refine aM (X:=Nat) (fun i=>i≤s.cs.length∧GoTo go L (aZ 1 bJ s sum ls 0 j++bA 1 bJ s sum ls (0+(j:Int)) i).length) (fun i=>[(22,.int .i64 i)]) (fun i=>[(0,.ext G (aZ 1 bJ s sum ls 0 j++bA 1 bJ s sum ls (0+(j:Int)) i))]) (fun i=>s.cs.length-i) 0 W (by rfl) ⟨by omega,by simpa [bA]using hgo⟩ ?_ ?_
  ·repeat'((conv=>whnf);first|intro _|apply aI|with_reducible exact vM rfl|exact⟨⟩|apply nM|apply fM)
   all_goals((try apply vM);(try simp only[vq]at*);try omega)
   all_goals(simp[bA])
  intro i ⟨hi,hgo2⟩;by_cases hlt2:i<s.cs.length
  ·have hm:(ms s.cs).getD i 0=(mk (s.cd i):Nat):=eP hlt2
   have hA:=(h.asc _ hlt2).1;have hAc:=(h.asc _ hlt2).2;have e1:bA 1 bJ s sum ls (0+(j:Int)) (i+1)=bA 1 bJ s sum ls (0+(j:Int)) i++dG 1 bJ s sum (ls.getD (0+(j:Int)).toNat []) (0+(j:Int)) i:=by unfold bA;rw[jm]
   repeat'((conv=>whnf);first|(intro hq;(try simp only[vw]at hq);try first|exact absurd hq (by decide)|exfalso;omega)|apply aI|with_reducible exact vM rfl|exact⟨⟩|apply nM|apply fM)
   all_goals((try apply vM);(try simp only[vq]at*);try omega)
   all_goals(try first|omega|(rw[ejt];omega))
   ·have hce:dG 1 bJ s sum (ls.getD (0+(j:Int)).toNat []) (0+(j:Int)) i=[]:=by unfold dG;rw[show decide ((i:Int)∈(ls.getD (0+(j:Int)).toNat []))=false by apply decide_eq_false;assumption];cases s.dc i<;>rfl
    rw[hce,agN]at e1;refine⟨i+1,[],⟨⟨by omega,by rw[e1];exact hgo2⟩,by omega⟩,?_⟩
    rw[e1]
    repeat'((conv=>whnf);first|intro _|apply aI|with_reducible exact vM rfl|exact⟨⟩|apply nM|apply fM)
    all_goals((try apply vM);(try simp only[vq]at*);try omega)
   ·have hcc:(s.dc i||(lnG 1&&!decide ((i:Int)∈(ls.getD (0+(j:Int)).toNat []))))=false:=by rw[show s.dc i=false by assumption,show decide ((i:Int)∈(ls.getD (0+(j:Int)).toNat []))=true by apply decide_eq_true;assumption];rfl
    have hce:dG 1 bJ s sum (ls.getD (0+(j:Int)).toNat []) (0+(j:Int)) i=cK 1 bJ s sum (ls.getD (0+(j:Int)).toNat []) (0+(j:Int)) i (s.cd i).length:=by unfold dG;rw[hcc];rfl
    rw[hce]at e1;have hsp:∀t,t<(s.cd i).length→jst 1 s sum (ls.getD (0+(j:Int)).toNat []) i ((s.cd i).getD t 0)=true→∃B,L=(aZ 1 bJ s sum ls 0 j++bA 1 bJ s sum ls (0+(j:Int)) i++cK 1 bJ s sum (ls.getD (0+(j:Int)).toNat []) (0+(j:Int)) i t)++ddV bJ i ((s.cd i).getD t 0) (0+(j:Int))::B:=fun t ht hh=>by
     rw[hL];exact nE (g:=1) (nm:=bJ) (s:=s) (sum:=sum) (ls:=ls) (fr:=0) (m:=ls.length) (j:=j) (i:=i) (t:=t) hlt hlt2 ht hcc hh
    have hpos:∀t,t≤(s.cd i).length→(∀t',t'<t→(!jst 1 s sum (ls.getD (0+(j:Int)).toNat []) i ((s.cd i).getD t' 0)||go ((aZ 1 bJ s sum ls 0 j++bA 1 bJ s sum ls (0+(j:Int)) i++cK 1 bJ s sum (ls.getD (0+(j:Int)).toNat []) (0+(j:Int)) i t')++[ddV bJ i ((s.cd i).getD t' 0) (0+(j:Int))]))=true)→GoTo go L (aZ 1 bJ s sum ls 0 j++bA 1 bJ s sum ls (0+(j:Int)) i++cK 1 bJ s sum (ls.getD (0+(j:Int)).toNat []) (0+(j:Int)) i t).length:=by
     intro t;induction t with
     |zero=>intro _ _;rw[fQ,agN];exact hgo2
     |succ t ih=>
      intro ht hall;have g0:=ih (by omega) fun t' h'=>hall t' (by omega)
      have g1:=hall t (by omega)
      rw[fT (by omega)]
      split
      ·rename_i hh
       rw[hh]at g1;obtain⟨B,hB⟩:=hsp t (by omega) hh
       rw[←ag5];exact oZ hB g0 (by simpa using g1)
      ·rw[agN];exact g0
    rw[hm];conv=>whnf
    refine gU aK mixed ak eZ (fun r=>hY r _) (fs:=[]) (cs:=[.ip (.pv [.int .u32 (mk (s.cd i):Nat)]) 0]) ((s.cd i).map (PV.int .i64)) (fun t=>(!jst 1 s sum (ls.getD (0+(j:Int)).toNat []) i ((s.cd i).getD t 0)||go ((aZ 1 bJ s sum ls 0 j++bA 1 bJ s sum ls (0+(j:Int)) i++cK 1 bJ s sum (ls.getD (0+(j:Int)).toNat []) (0+(j:Int)) i t)++[ddV bJ i ((s.cd i).getD t 0) (0+(j:Int))]))) (fun t=>[(0,.ext G (aZ 1 bJ s sum ls 0 j++bA 1 bJ s sum ls (0+(j:Int)) i++cK 1 bJ s sum (ls.getD (0+(j:Int)).toNat []) (0+(j:Int)) i t))]) (by rfl) (by rfl) (by rfl) (jH (s.cd i) hA) (by rfl) (by rfl) (by rfl) (by rfl) ?_ ?_ ?_
    ·repeat'((conv=>whnf);first|intro _|apply aI|with_reducible exact vM rfl|exact⟨⟩|apply nM|apply fM)
     all_goals((try apply vM);(try simp only[vq]at*);try omega)
     all_goals(rw[fQ,agN])
    ·intro hall
     rw[af0]at hall⊢;have g9:=hpos _ (aea _) hall
     repeat'((conv=>whnf);first|intro _|apply aI|with_reducible exact vM rfl|exact⟨⟩|apply nM|apply fM)
     all_goals((try apply vM);(try simp only[vq]at*);try omega)
     refine⟨i+1,[],⟨⟨by omega,by rw[e1,←ag5];exact g9⟩,by omega⟩,?_⟩
     rw[e1,←ag5]
     repeat'((conv=>whnf);first|intro _|apply aI|with_reducible exact vM rfl|exact⟨⟩|apply nM|apply fM)
     all_goals((try apply vM);(try simp only[vq]at*);try omega)
    ·intro t x hx hall lp
     obtain⟨ht,rfl⟩:=oq hx;have hxC:=bL ht;have hxr:=hA.rng _ hxC;have hxc:=hAc _ hxC;have g0:=hpos t (by omega) hall
     have hs1:=hsp t ht;have cs1:=fT (g:=1) (nm:=bJ) (s:=s) (sum:=sum) (l:=(ls.getD (0+(j:Int)).toNat [])) (k:=(0+(j:Int))) ht
     repeat'((conv=>whnf);first|apply Exists.intro (s)|(intro hq;(try simp only[vw]at hq);try first|exact absurd hq (by decide)|exfalso;omega)|apply aI|with_reducible exact vM rfl|exact⟨⟩|apply nM|apply fM)
     all_goals((try apply vM);(try simp only[vq]at*);try omega)
     all_goals(try omega)
     ·exact⟨h,by omega,by omega,by omega⟩
     ·obtain⟨B,hB⟩:=hs1 (by assumption)
      exact qD hB g0
     ·rw[show jst 1 s sum (ls.getD (0+(j:Int)).toNat []) i ((s.cd i).getD t 0)=true by assumption]
      assumption
     ·obtain⟨B,hB⟩:=hs1 (by assumption)
      exact o7 hB g0 (by assumption)
     ·have q1:jst 1 s sum (ls.getD (0+(j:Int)).toNat []) i ((s.cd i).getD t 0)=true:=by assumption
      have q2:go ((aZ 1 bJ s sum ls 0 j++bA 1 bJ s sum ls (0+(j:Int)) i++cK 1 bJ s sum (ls.getD (0+(j:Int)).toNat []) (0+(j:Int)) i t)++[ddV bJ i ((s.cd i).getD t 0) (0+(j:Int))])=true:=by assumption
      refine⟨[],?_⟩;rw[cs1,if_pos q1,←ag5]
      repeat'((conv=>whnf);first|intro _|apply aI|with_reducible exact vM rfl|exact⟨⟩|apply nM|apply fM)
      all_goals((try apply vM);(try simp only[vq]at*);try omega)
      all_goals(try first|(rw[q1,q2];rfl)|rfl)
     ·have q1:jst 1 s sum (ls.getD (0+(j:Int)).toNat []) i ((s.cd i).getD t 0)=false:=by assumption
      refine⟨[],?_⟩;rw[cs1,if_neg (by rw[q1];decide),agN]
      repeat'((conv=>whnf);first|intro _|apply aI|with_reducible exact vM rfl|exact⟨⟩|apply nM|apply fM)
      all_goals((try apply vM);(try simp only[vq]at*);try omega)
      all_goals(try(rw[q1];rfl))
   ·have hce:dG 1 bJ s sum (ls.getD (0+(j:Int)).toNat []) (0+(j:Int)) i=[]:=by unfold dG;rw[show s.dc i=true from hq];rfl
    rw[hce,agN]at e1;refine⟨i+1,[],⟨⟨by omega,by rw[e1];exact hgo2⟩,by omega⟩,?_⟩
    rw[e1]
    repeat'((conv=>whnf);first|intro _|apply aI|with_reducible exact vM rfl|exact⟨⟩|apply nM|apply fM)
    all_goals((try apply vM);(try simp only[vq]at*);try omega)
  ·have:i=s.cs.length:=by omega
   subst this;rw[←e2]at hgo2⊢
   repeat'((conv=>whnf);first|(intro hq;(try simp only[vw]at hq);try first|exact absurd hq (by decide)|exfalso;omega)|apply aI|with_reducible exact vM rfl|exact⟨⟩|apply nM|apply fM)
   all_goals((try apply vM);(try simp only[vq]at*);try omega)
   refine⟨j+1,[(21,2)],⟨⟨by omega,hgo2⟩,by omega⟩,?_⟩
   repeat'((conv=>whnf);first|intro _|apply aI|with_reducible exact vM rfl|exact⟨⟩|apply nM|apply fM)
   all_goals((try apply vM);(try simp only[vq]at*);try omega)
 ·have:j=ls.length:=by omega
  subst this
  repeat'((conv=>whnf);first|(intro hq;(try simp only[vw]at hq);try first|exact absurd hq (by decide)|exfalso;omega)|apply aI|with_reducible exact vM rfl|exact⟨⟩|apply nM|apply fM)
  all_goals((try apply vM);(try simp only[vq]at*);try omega)
  rw[hL];rw[hL]at hgo;exact o8 hgo
theorem Pp (c:Int) (ls:List (List Int)) (sum:Int) (gv:List Int) (s:St) (h:bO c ls sum s):
 mM Tryz.prog 180 [] [.ip (.pv [.int .i64 (-1)]) 0,.ip (.pv [.int .i64 0]) 0,.ip (.pv [bdV c ls sum gv s]) 0,rlV bU true false 173] 1 (aZ 2 bU s sum ls (-1) 1):=by
 refine kJ (md:=1) (rf:=[]) mixed ak Tryz.func180 (by rfl) (by rfl) (by rfl) fun G go b hY=>⟨_,eZ,?_⟩
 obtain⟨L,hL⟩:∃L,L=aZ 2 bU s sum ls (-1) 1:=⟨_,rfl⟩;rw[←hL]at hY⊢;have W:Walk Tryz.prog none jX tab.get AJ (rH b 1 G go L):=⟨aK,mixed,ak,eZ,hY _ _⟩;have hcl:=h.cl;have hdl:=h.dl;have hc1:=h.c1;have hms:=bQ s.cs;have hll:=h.ll
 repeat'((conv=>whnf);first|intro _|apply aI|with_reducible exact vM rfl|exact⟨⟩|apply nM|apply fM)
 all_goals((try apply vM);(try simp only[vq]at*);try omega)
 conv=>whnf
 refine aM (X:=Nat) (fun j=>j≤1∧GoTo go L (aZ 2 bU s sum ls (-1) j).length) (fun j=>[(6,.rp 2 0)]) (fun j=>[(0,.ext G (aZ 2 bU s sum ls (-1) j)),(2,.cells (.pv [.int .i64 ((-1)+(j:Int))]) false)]) (fun j=>1-j) 0 W (by rfl) ⟨by omega,.zero⟩ ?_ ?_
 ·repeat'((conv=>whnf);first|intro _|apply aI|with_reducible exact vM rfl|exact⟨⟩|apply nM|apply fM)
  all_goals((try apply vM);(try simp only[vq]at*);try omega)
  all_goals rfl
 intro j ⟨hj,hgo⟩;by_cases hlt:j<1
 ·have e2:aZ 2 bU s sum ls (-1) (j+1)=aZ 2 bU s sum ls (-1) j++bA 2 bU s sum ls ((-1)+(j:Int)) s.cs.length:=by unfold aZ;rw[jm]
  repeat'((conv=>whnf);first|(intro hq;(try simp only[vw]at hq);try first|exact absurd hq (by decide)|exfalso;omega)|apply aI|with_reducible exact vM rfl|exact⟨⟩|apply nM|apply fM)
  all_goals((try apply vM);(try simp only[vq]at*);try omega)
  conv=>whnf
  refine aM (X:=Nat) (fun i=>i≤s.cs.length∧GoTo go L (aZ 2 bU s sum ls (-1) j++bA 2 bU s sum ls ((-1)+(j:Int)) i).length) (fun i=>[(22,.int .i64 i)]) (fun i=>[(0,.ext G (aZ 2 bU s sum ls (-1) j++bA 2 bU s sum ls ((-1)+(j:Int)) i))]) (fun i=>s.cs.length-i) 0 W (by rfl) ⟨by omega,by simpa [bA]using hgo⟩ ?_ ?_
  ·repeat'((conv=>whnf);first|intro _|apply aI|with_reducible exact vM rfl|exact⟨⟩|apply nM|apply fM)
   all_goals((try apply vM);(try simp only[vq]at*);try omega)
   all_goals(simp[bA])
  intro i ⟨hi,hgo2⟩;by_cases hlt2:i<s.cs.length
  ·have hm:(ms s.cs).getD i 0=(mk (s.cd i):Nat):=eP hlt2
   have hA:=(h.asc _ hlt2).1;have hAc:=(h.asc _ hlt2).2;have e1:bA 2 bU s sum ls ((-1)+(j:Int)) (i+1)=bA 2 bU s sum ls ((-1)+(j:Int)) i++dG 2 bU s sum (ls.getD ((-1)+(j:Int)).toNat []) ((-1)+(j:Int)) i:=by unfold bA;rw[jm]
   repeat'((conv=>whnf);first|(intro hq;(try simp only[vw]at hq);try first|exact absurd hq (by decide)|exfalso;omega)|apply aI|with_reducible exact vM rfl|exact⟨⟩|apply nM|apply fM)
   all_goals((try apply vM);(try simp only[vq]at*);try omega)
   all_goals(try first|omega|(rw[ejt];omega))
   ·have hcc:(s.dc i||(lnG 2&&!decide ((i:Int)∈(ls.getD ((-1)+(j:Int)).toNat []))))=false:=by rw[show s.dc i=false from hq];rfl
    have hce:dG 2 bU s sum (ls.getD ((-1)+(j:Int)).toNat []) ((-1)+(j:Int)) i=cK 2 bU s sum (ls.getD ((-1)+(j:Int)).toNat []) ((-1)+(j:Int)) i (s.cd i).length:=by unfold dG;rw[hcc];rfl
    rw[hce]at e1;have hsp:∀t,t<(s.cd i).length→jst 2 s sum (ls.getD ((-1)+(j:Int)).toNat []) i ((s.cd i).getD t 0)=true→∃B,L=(aZ 2 bU s sum ls (-1) j++bA 2 bU s sum ls ((-1)+(j:Int)) i++cK 2 bU s sum (ls.getD ((-1)+(j:Int)).toNat []) ((-1)+(j:Int)) i t)++ddV bU i ((s.cd i).getD t 0) ((-1)+(j:Int))::B:=fun t ht hh=>by
     rw[hL];exact nE (g:=2) (nm:=bU) (s:=s) (sum:=sum) (ls:=ls) (fr:=(-1)) (m:=1) (j:=j) (i:=i) (t:=t) hlt hlt2 ht hcc hh
    have hpos:∀t,t≤(s.cd i).length→(∀t',t'<t→(!jst 2 s sum (ls.getD ((-1)+(j:Int)).toNat []) i ((s.cd i).getD t' 0)||go ((aZ 2 bU s sum ls (-1) j++bA 2 bU s sum ls ((-1)+(j:Int)) i++cK 2 bU s sum (ls.getD ((-1)+(j:Int)).toNat []) ((-1)+(j:Int)) i t')++[ddV bU i ((s.cd i).getD t' 0) ((-1)+(j:Int))]))=true)→GoTo go L (aZ 2 bU s sum ls (-1) j++bA 2 bU s sum ls ((-1)+(j:Int)) i++cK 2 bU s sum (ls.getD ((-1)+(j:Int)).toNat []) ((-1)+(j:Int)) i t).length:=by
     intro t;induction t with
     |zero=>intro _ _;rw[fQ,agN];exact hgo2
     |succ t ih=>
      intro ht hall;have g0:=ih (by omega) fun t' h'=>hall t' (by omega)
      have g1:=hall t (by omega)
      rw[fT (by omega)]
      split
      ·rename_i hh
       rw[hh]at g1;obtain⟨B,hB⟩:=hsp t (by omega) hh
       rw[←ag5];exact oZ hB g0 (by simpa using g1)
      ·rw[agN];exact g0
    rw[hm];conv=>whnf
    refine gU aK mixed ak eZ (fun r=>hY r _) (fs:=[]) (cs:=[.ip (.pv [.int .u32 (mk (s.cd i):Nat)]) 0]) ((s.cd i).map (PV.int .i64)) (fun t=>(!jst 2 s sum (ls.getD ((-1)+(j:Int)).toNat []) i ((s.cd i).getD t 0)||go ((aZ 2 bU s sum ls (-1) j++bA 2 bU s sum ls ((-1)+(j:Int)) i++cK 2 bU s sum (ls.getD ((-1)+(j:Int)).toNat []) ((-1)+(j:Int)) i t)++[ddV bU i ((s.cd i).getD t 0) ((-1)+(j:Int))]))) (fun t=>[(0,.ext G (aZ 2 bU s sum ls (-1) j++bA 2 bU s sum ls ((-1)+(j:Int)) i++cK 2 bU s sum (ls.getD ((-1)+(j:Int)).toNat []) ((-1)+(j:Int)) i t))]) (by rfl) (by rfl) (by rfl) (jH (s.cd i) hA) (by rfl) (by rfl) (by rfl) (by rfl) ?_ ?_ ?_
    ·repeat'((conv=>whnf);first|intro _|apply aI|with_reducible exact vM rfl|exact⟨⟩|apply nM|apply fM)
     all_goals((try apply vM);(try simp only[vq]at*);try omega)
     all_goals(rw[fQ,agN])
    ·intro hall
     rw[af0]at hall⊢;have g9:=hpos _ (aea _) hall
     repeat'((conv=>whnf);first|intro _|apply aI|with_reducible exact vM rfl|exact⟨⟩|apply nM|apply fM)
     all_goals((try apply vM);(try simp only[vq]at*);try omega)
     refine⟨i+1,[],⟨⟨by omega,by rw[e1,←ag5];exact g9⟩,by omega⟩,?_⟩
     rw[e1,←ag5]
     repeat'((conv=>whnf);first|intro _|apply aI|with_reducible exact vM rfl|exact⟨⟩|apply nM|apply fM)
     all_goals((try apply vM);(try simp only[vq]at*);try omega)
    ·intro t x hx hall lp
     obtain⟨ht,rfl⟩:=oq hx;have hxC:=bL ht;have hxr:=hA.rng _ hxC;have hxc:=hAc _ hxC;have g0:=hpos t (by omega) hall
     have hs1:=hsp t ht;have cs1:=fT (g:=2) (nm:=bU) (s:=s) (sum:=sum) (l:=(ls.getD ((-1)+(j:Int)).toNat [])) (k:=((-1)+(j:Int))) ht
     repeat'((conv=>whnf);first|apply Exists.intro (s)|(intro hq;(try simp only[vw]at hq);try first|exact absurd hq (by decide)|exfalso;omega)|apply aI|with_reducible exact vM rfl|exact⟨⟩|apply nM|apply fM)
     all_goals((try apply vM);(try simp only[vq]at*);try omega)
     all_goals(try omega)
     ·exact⟨h,by omega,by omega⟩
     ·obtain⟨B,hB⟩:=hs1 (by assumption)
      exact qD hB g0
     ·rw[show jst 2 s sum (ls.getD ((-1)+(j:Int)).toNat []) i ((s.cd i).getD t 0)=true by assumption]
      assumption
     ·obtain⟨B,hB⟩:=hs1 (by assumption)
      exact o7 hB g0 (by assumption)
     ·have q1:jst 2 s sum (ls.getD ((-1)+(j:Int)).toNat []) i ((s.cd i).getD t 0)=true:=by assumption
      have q2:go ((aZ 2 bU s sum ls (-1) j++bA 2 bU s sum ls ((-1)+(j:Int)) i++cK 2 bU s sum (ls.getD ((-1)+(j:Int)).toNat []) ((-1)+(j:Int)) i t)++[ddV bU i ((s.cd i).getD t 0) ((-1)+(j:Int))])=true:=by assumption
      refine⟨[],?_⟩;rw[cs1,if_pos q1,←ag5]
      repeat'((conv=>whnf);first|intro _|apply aI|with_reducible exact vM rfl|exact⟨⟩|apply nM|apply fM)
      all_goals((try apply vM);(try simp only[vq]at*);try omega)
      all_goals(try first|(rw[q1,q2];rfl)|rfl)
     ·have q1:jst 2 s sum (ls.getD ((-1)+(j:Int)).toNat []) i ((s.cd i).getD t 0)=false:=by assumption
      refine⟨[],?_⟩;rw[cs1,if_neg (by rw[q1];decide),agN]
      repeat'((conv=>whnf);first|intro _|apply aI|with_reducible exact vM rfl|exact⟨⟩|apply nM|apply fM)
      all_goals((try apply vM);(try simp only[vq]at*);try omega)
      all_goals(try(rw[q1];rfl))
   ·have hce:dG 2 bU s sum (ls.getD ((-1)+(j:Int)).toNat []) ((-1)+(j:Int)) i=[]:=by unfold dG;rw[show s.dc i=true from hq];rfl
    rw[hce,agN]at e1;refine⟨i+1,[],⟨⟨by omega,by rw[e1];exact hgo2⟩,by omega⟩,?_⟩
    rw[e1]
    repeat'((conv=>whnf);first|intro _|apply aI|with_reducible exact vM rfl|exact⟨⟩|apply nM|apply fM)
    all_goals((try apply vM);(try simp only[vq]at*);try omega)
  ·have:i=s.cs.length:=by omega
   subst this;rw[←e2]at hgo2⊢
   repeat'((conv=>whnf);first|(intro hq;(try simp only[vw]at hq);try first|exact absurd hq (by decide)|exfalso;omega)|apply aI|with_reducible exact vM rfl|exact⟨⟩|apply nM|apply fM)
   all_goals((try apply vM);(try simp only[vq]at*);try omega)
   refine⟨j+1,[(21,2)],⟨⟨by omega,hgo2⟩,by omega⟩,?_⟩
   repeat'((conv=>whnf);first|intro _|apply aI|with_reducible exact vM rfl|exact⟨⟩|apply nM|apply fM)
   all_goals((try apply vM);(try simp only[vq]at*);try omega)
 ·have:j=1:=by omega
  subst this
  repeat'((conv=>whnf);first|(intro hq;(try simp only[vw]at hq);try first|exact absurd hq (by decide)|exfalso;omega)|apply aI|with_reducible exact vM rfl|exact⟨⟩|apply nM|apply fM)
  all_goals((try apply vM);(try simp only[vq]at*);try omega)
  rw[hL];rw[hL]at hgo;exact o8 hgo
theorem Pq (c:Int) (ls:List (List Int)) (sum:Int) (gv:List Int) (s:St) (h:bO c ls sum s):
 mM Tryz.prog 180 [] [.ip (.pv [.int .i64 (-1)]) 0,.ip (.pv [.int .i64 0]) 0,.ip (.pv [bdV c ls sum gv s]) 0,rlV bV true false 174] 1 (aZ 3 bV s sum ls (-1) 1):=by
 refine kJ (md:=1) (rf:=[]) mixed ak Tryz.func180 (by rfl) (by rfl) (by rfl) fun G go b hY=>⟨_,eZ,?_⟩
 obtain⟨L,hL⟩:∃L,L=aZ 3 bV s sum ls (-1) 1:=⟨_,rfl⟩;rw[←hL]at hY⊢;have W:Walk Tryz.prog none jX tab.get AJ (rH b 1 G go L):=⟨aK,mixed,ak,eZ,hY _ _⟩;have hcl:=h.cl;have hdl:=h.dl;have hc1:=h.c1;have hms:=bQ s.cs;have hll:=h.ll
 repeat'((conv=>whnf);first|intro _|apply aI|with_reducible exact vM rfl|exact⟨⟩|apply nM|apply fM)
 all_goals((try apply vM);(try simp only[vq]at*);try omega)
 conv=>whnf
 refine aM (X:=Nat) (fun j=>j≤1∧GoTo go L (aZ 3 bV s sum ls (-1) j).length) (fun j=>[(6,.rp 2 0)]) (fun j=>[(0,.ext G (aZ 3 bV s sum ls (-1) j)),(2,.cells (.pv [.int .i64 ((-1)+(j:Int))]) false)]) (fun j=>1-j) 0 W (by rfl) ⟨by omega,.zero⟩ ?_ ?_
 ·repeat'((conv=>whnf);first|intro _|apply aI|with_reducible exact vM rfl|exact⟨⟩|apply nM|apply fM)
  all_goals((try apply vM);(try simp only[vq]at*);try omega)
  all_goals rfl
 intro j ⟨hj,hgo⟩;by_cases hlt:j<1
 ·have e2:aZ 3 bV s sum ls (-1) (j+1)=aZ 3 bV s sum ls (-1) j++bA 3 bV s sum ls ((-1)+(j:Int)) s.cs.length:=by unfold aZ;rw[jm]
  repeat'((conv=>whnf);first|(intro hq;(try simp only[vw]at hq);try first|exact absurd hq (by decide)|exfalso;omega)|apply aI|with_reducible exact vM rfl|exact⟨⟩|apply nM|apply fM)
  all_goals((try apply vM);(try simp only[vq]at*);try omega)
  conv=>whnf
  refine aM (X:=Nat) (fun i=>i≤s.cs.length∧GoTo go L (aZ 3 bV s sum ls (-1) j++bA 3 bV s sum ls ((-1)+(j:Int)) i).length) (fun i=>[(22,.int .i64 i)]) (fun i=>[(0,.ext G (aZ 3 bV s sum ls (-1) j++bA 3 bV s sum ls ((-1)+(j:Int)) i))]) (fun i=>s.cs.length-i) 0 W (by rfl) ⟨by omega,by simpa [bA]using hgo⟩ ?_ ?_
  ·repeat'((conv=>whnf);first|intro _|apply aI|with_reducible exact vM rfl|exact⟨⟩|apply nM|apply fM)
   all_goals((try apply vM);(try simp only[vq]at*);try omega)
   all_goals(simp[bA])
  intro i ⟨hi,hgo2⟩;by_cases hlt2:i<s.cs.length
  ·have hm:(ms s.cs).getD i 0=(mk (s.cd i):Nat):=eP hlt2
   have hA:=(h.asc _ hlt2).1;have hAc:=(h.asc _ hlt2).2;have e1:bA 3 bV s sum ls ((-1)+(j:Int)) (i+1)=bA 3 bV s sum ls ((-1)+(j:Int)) i++dG 3 bV s sum (ls.getD ((-1)+(j:Int)).toNat []) ((-1)+(j:Int)) i:=by unfold bA;rw[jm]
   repeat'((conv=>whnf);first|(intro hq;(try simp only[vw]at hq);try first|exact absurd hq (by decide)|exfalso;omega)|apply aI|with_reducible exact vM rfl|exact⟨⟩|apply nM|apply fM)
   all_goals((try apply vM);(try simp only[vq]at*);try omega)
   all_goals(try first|omega|(rw[ejt];omega))
   ·have hcc:(s.dc i||(lnG 3&&!decide ((i:Int)∈(ls.getD ((-1)+(j:Int)).toNat []))))=false:=by rw[show s.dc i=false from hq];rfl
    have hce:dG 3 bV s sum (ls.getD ((-1)+(j:Int)).toNat []) ((-1)+(j:Int)) i=cK 3 bV s sum (ls.getD ((-1)+(j:Int)).toNat []) ((-1)+(j:Int)) i (s.cd i).length:=by unfold dG;rw[hcc];rfl
    rw[hce]at e1;have hsp:∀t,t<(s.cd i).length→jst 3 s sum (ls.getD ((-1)+(j:Int)).toNat []) i ((s.cd i).getD t 0)=true→∃B,L=(aZ 3 bV s sum ls (-1) j++bA 3 bV s sum ls ((-1)+(j:Int)) i++cK 3 bV s sum (ls.getD ((-1)+(j:Int)).toNat []) ((-1)+(j:Int)) i t)++ddV bV i ((s.cd i).getD t 0) ((-1)+(j:Int))::B:=fun t ht hh=>by
     rw[hL];exact nE (g:=3) (nm:=bV) (s:=s) (sum:=sum) (ls:=ls) (fr:=(-1)) (m:=1) (j:=j) (i:=i) (t:=t) hlt hlt2 ht hcc hh
    have hpos:∀t,t≤(s.cd i).length→(∀t',t'<t→(!jst 3 s sum (ls.getD ((-1)+(j:Int)).toNat []) i ((s.cd i).getD t' 0)||go ((aZ 3 bV s sum ls (-1) j++bA 3 bV s sum ls ((-1)+(j:Int)) i++cK 3 bV s sum (ls.getD ((-1)+(j:Int)).toNat []) ((-1)+(j:Int)) i t')++[ddV bV i ((s.cd i).getD t' 0) ((-1)+(j:Int))]))=true)→GoTo go L (aZ 3 bV s sum ls (-1) j++bA 3 bV s sum ls ((-1)+(j:Int)) i++cK 3 bV s sum (ls.getD ((-1)+(j:Int)).toNat []) ((-1)+(j:Int)) i t).length:=by
     intro t;induction t with
     |zero=>intro _ _;rw[fQ,agN];exact hgo2
     |succ t ih=>
      intro ht hall;have g0:=ih (by omega) fun t' h'=>hall t' (by omega)
      have g1:=hall t (by omega)
      rw[fT (by omega)]
      split
      ·rename_i hh
       rw[hh]at g1;obtain⟨B,hB⟩:=hsp t (by omega) hh
       rw[←ag5];exact oZ hB g0 (by simpa using g1)
      ·rw[agN];exact g0
    rw[hm];conv=>whnf
    refine gU aK mixed ak eZ (fun r=>hY r _) (fs:=[]) (cs:=[.ip (.pv [.int .u32 (mk (s.cd i):Nat)]) 0]) ((s.cd i).map (PV.int .i64)) (fun t=>(!jst 3 s sum (ls.getD ((-1)+(j:Int)).toNat []) i ((s.cd i).getD t 0)||go ((aZ 3 bV s sum ls (-1) j++bA 3 bV s sum ls ((-1)+(j:Int)) i++cK 3 bV s sum (ls.getD ((-1)+(j:Int)).toNat []) ((-1)+(j:Int)) i t)++[ddV bV i ((s.cd i).getD t 0) ((-1)+(j:Int))]))) (fun t=>[(0,.ext G (aZ 3 bV s sum ls (-1) j++bA 3 bV s sum ls ((-1)+(j:Int)) i++cK 3 bV s sum (ls.getD ((-1)+(j:Int)).toNat []) ((-1)+(j:Int)) i t))]) (by rfl) (by rfl) (by rfl) (jH (s.cd i) hA) (by rfl) (by rfl) (by rfl) (by rfl) ?_ ?_ ?_
    ·repeat'((conv=>whnf);first|intro _|apply aI|with_reducible exact vM rfl|exact⟨⟩|apply nM|apply fM)
     all_goals((try apply vM);(try simp only[vq]at*);try omega)
     all_goals(rw[fQ,agN])
    ·intro hall
     rw[af0]at hall⊢;have g9:=hpos _ (aea _) hall
     repeat'((conv=>whnf);first|intro _|apply aI|with_reducible exact vM rfl|exact⟨⟩|apply nM|apply fM)
     all_goals((try apply vM);(try simp only[vq]at*);try omega)
     refine⟨i+1,[],⟨⟨by omega,by rw[e1,←ag5];exact g9⟩,by omega⟩,?_⟩
     rw[e1,←ag5]
     repeat'((conv=>whnf);first|intro _|apply aI|with_reducible exact vM rfl|exact⟨⟩|apply nM|apply fM)
     all_goals((try apply vM);(try simp only[vq]at*);try omega)
    ·intro t x hx hall lp
     obtain⟨ht,rfl⟩:=oq hx;have hxC:=bL ht;have hxr:=hA.rng _ hxC;have hxc:=hAc _ hxC;have g0:=hpos t (by omega) hall
     have hs1:=hsp t ht;have cs1:=fT (g:=3) (nm:=bV) (s:=s) (sum:=sum) (l:=(ls.getD ((-1)+(j:Int)).toNat [])) (k:=((-1)+(j:Int))) ht
     repeat'((conv=>whnf);first|apply Exists.intro (s)|(intro hq;(try simp only[vw]at hq);try first|exact absurd hq (by decide)|exfalso;omega)|apply aI|with_reducible exact vM rfl|exact⟨⟩|apply nM|apply fM)
     all_goals((try apply vM);(try simp only[vq]at*);try omega)
     all_goals(try omega)
     ·exact⟨h,by omega,by omega⟩
     ·obtain⟨B,hB⟩:=hs1 (by assumption)
      exact qD hB g0
     ·rw[show jst 3 s sum (ls.getD ((-1)+(j:Int)).toNat []) i ((s.cd i).getD t 0)=true by assumption]
      assumption
     ·obtain⟨B,hB⟩:=hs1 (by assumption)
      exact o7 hB g0 (by assumption)
     ·have q1:jst 3 s sum (ls.getD ((-1)+(j:Int)).toNat []) i ((s.cd i).getD t 0)=true:=by assumption
      have q2:go ((aZ 3 bV s sum ls (-1) j++bA 3 bV s sum ls ((-1)+(j:Int)) i++cK 3 bV s sum (ls.getD ((-1)+(j:Int)).toNat []) ((-1)+(j:Int)) i t)++[ddV bV i ((s.cd i).getD t 0) ((-1)+(j:Int))])=true:=by assumption
      refine⟨[],?_⟩;rw[cs1,if_pos q1,←ag5]
      repeat'((conv=>whnf);first|intro _|apply aI|with_reducible exact vM rfl|exact⟨⟩|apply nM|apply fM)
      all_goals((try apply vM);(try simp only[vq]at*);try omega)
      all_goals(try first|(rw[q1,q2];rfl)|rfl)
     ·have q1:jst 3 s sum (ls.getD ((-1)+(j:Int)).toNat []) i ((s.cd i).getD t 0)=false:=by assumption
      refine⟨[],?_⟩;rw[cs1,if_neg (by rw[q1];decide),agN]
      repeat'((conv=>whnf);first|intro _|apply aI|with_reducible exact vM rfl|exact⟨⟩|apply nM|apply fM)
      all_goals((try apply vM);(try simp only[vq]at*);try omega)
      all_goals(try(rw[q1];rfl))
   ·have hce:dG 3 bV s sum (ls.getD ((-1)+(j:Int)).toNat []) ((-1)+(j:Int)) i=[]:=by unfold dG;rw[show s.dc i=true from hq];rfl
    rw[hce,agN]at e1;refine⟨i+1,[],⟨⟨by omega,by rw[e1];exact hgo2⟩,by omega⟩,?_⟩
    rw[e1]
    repeat'((conv=>whnf);first|intro _|apply aI|with_reducible exact vM rfl|exact⟨⟩|apply nM|apply fM)
    all_goals((try apply vM);(try simp only[vq]at*);try omega)
  ·have:i=s.cs.length:=by omega
   subst this;rw[←e2]at hgo2⊢
   repeat'((conv=>whnf);first|(intro hq;(try simp only[vw]at hq);try first|exact absurd hq (by decide)|exfalso;omega)|apply aI|with_reducible exact vM rfl|exact⟨⟩|apply nM|apply fM)
   all_goals((try apply vM);(try simp only[vq]at*);try omega)
   refine⟨j+1,[(21,2)],⟨⟨by omega,hgo2⟩,by omega⟩,?_⟩
   repeat'((conv=>whnf);first|intro _|apply aI|with_reducible exact vM rfl|exact⟨⟩|apply nM|apply fM)
   all_goals((try apply vM);(try simp only[vq]at*);try omega)
 ·have:j=1:=by omega
  subst this
  repeat'((conv=>whnf);first|(intro hq;(try simp only[vw]at hq);try first|exact absurd hq (by decide)|exfalso;omega)|apply aI|with_reducible exact vM rfl|exact⟨⟩|apply nM|apply fM)
  all_goals((try apply vM);(try simp only[vq]at*);try omega)
  rw[hL];rw[hL]at hgo;exact o8 hgo
theorem Pt (c:Int) (ls:List (List Int)) (sum:Int) (gv:List Int) (s:St) (h:bO c ls sum s):
 mM Tryz.prog 180 [] [.ip (.pv [.int .i64 0]) 0,.ip (.pv [.int .i64 ls.length]) 0,.ip (.pv [bdV c ls sum gv s]) 0,rlV bR false true 175] 1 (aZ 4 bR s sum ls 0 ls.length):=by
 refine kJ (md:=1) (rf:=[]) mixed ak Tryz.func180 (by rfl) (by rfl) (by rfl) fun G go b hY=>⟨_,eZ,?_⟩
 obtain⟨L,hL⟩:∃L,L=aZ 4 bR s sum ls 0 ls.length:=⟨_,rfl⟩;rw[←hL]at hY⊢;have W:Walk Tryz.prog none jX tab.get AJ (rH b 1 G go L):=⟨aK,mixed,ak,eZ,hY _ _⟩;have hcl:=h.cl;have hdl:=h.dl;have hc1:=h.c1;have hms:=bQ s.cs;have hll:=h.ll
 repeat'((conv=>whnf);first|intro _|apply aI|with_reducible exact vM rfl|exact⟨⟩|apply nM|apply fM)
 all_goals((try apply vM);(try simp only[vq]at*);try omega)
 conv=>whnf
 refine aM (X:=Nat) (fun j=>j≤ls.length∧GoTo go L (aZ 4 bR s sum ls 0 j).length) (fun j=>[(6,.rp 2 0)]) (fun j=>[(0,.ext G (aZ 4 bR s sum ls 0 j)),(2,.cells (.pv [.int .i64 (0+(j:Int))]) false)]) (fun j=>ls.length-j) 0 W (by rfl) ⟨by omega,.zero⟩ ?_ ?_
 ·repeat'((conv=>whnf);first|intro _|apply aI|with_reducible exact vM rfl|exact⟨⟩|apply nM|apply fM)
  all_goals((try apply vM);(try simp only[vq]at*);try omega)
  all_goals rfl
 intro j ⟨hj,hgo⟩;by_cases hlt:j<ls.length
 ·have e2:aZ 4 bR s sum ls 0 (j+1)=aZ 4 bR s sum ls 0 j++bA 4 bR s sum ls (0+(j:Int)) s.cs.length:=by unfold aZ;rw[jm]
  have hln:=h.ln j hlt;have hlen:=hln.len;have ejt:(0+(j:Int)).toNat=j:=by omega
  repeat'((conv=>whnf);first|(intro hq;(try simp only[vw]at hq);try first|exact absurd hq (by decide)|exfalso;omega)|apply aI|with_reducible exact vM rfl|exact⟨⟩|apply nM|apply fM)
  all_goals((try apply vM);(try simp only[vq]at*);try omega)
  conv=>whnf
  refine aM (X:=Nat) (fun i=>i≤s.cs.length∧GoTo go L (aZ 4 bR s sum ls 0 j++bA 4 bR s sum ls (0+(j:Int)) i).length) (fun i=>[(22,.int .i64 i)]) (fun i=>[(0,.ext G (aZ 4 bR s sum ls 0 j++bA 4 bR s sum ls (0+(j:Int)) i))]) (fun i=>s.cs.length-i) 0 W (by rfl) ⟨by omega,by simpa [bA]using hgo⟩ ?_ ?_
  ·repeat'((conv=>whnf);first|intro _|apply aI|with_reducible exact vM rfl|exact⟨⟩|apply nM|apply fM)
   all_goals((try apply vM);(try simp only[vq]at*);try omega)
   all_goals(simp[bA])
  intro i ⟨hi,hgo2⟩;by_cases hlt2:i<s.cs.length
  ·have hm:(ms s.cs).getD i 0=(mk (s.cd i):Nat):=eP hlt2
   have hA:=(h.asc _ hlt2).1;have hAc:=(h.asc _ hlt2).2;have e1:bA 4 bR s sum ls (0+(j:Int)) (i+1)=bA 4 bR s sum ls (0+(j:Int)) i++dG 4 bR s sum (ls.getD (0+(j:Int)).toNat []) (0+(j:Int)) i:=by unfold bA;rw[jm]
   repeat'((conv=>whnf);first|(intro hq;(try simp only[vw]at hq);try first|exact absurd hq (by decide)|exfalso;omega)|apply aI|with_reducible exact vM rfl|exact⟨⟩|apply nM|apply fM)
   all_goals((try apply vM);(try simp only[vq]at*);try omega)
   all_goals(try first|omega|(rw[ejt];omega))
   ·have hce:dG 4 bR s sum (ls.getD (0+(j:Int)).toNat []) (0+(j:Int)) i=[]:=by unfold dG;rw[show decide ((i:Int)∈(ls.getD (0+(j:Int)).toNat []))=false by apply decide_eq_false;assumption];cases s.dc i<;>rfl
    rw[hce,agN]at e1;refine⟨i+1,[],⟨⟨by omega,by rw[e1];exact hgo2⟩,by omega⟩,?_⟩
    rw[e1]
    repeat'((conv=>whnf);first|intro _|apply aI|with_reducible exact vM rfl|exact⟨⟩|apply nM|apply fM)
    all_goals((try apply vM);(try simp only[vq]at*);try omega)
   ·have hcc:(s.dc i||(lnG 4&&!decide ((i:Int)∈(ls.getD (0+(j:Int)).toNat []))))=false:=by rw[show s.dc i=false by assumption,show decide ((i:Int)∈(ls.getD (0+(j:Int)).toNat []))=true by apply decide_eq_true;assumption];rfl
    have hce:dG 4 bR s sum (ls.getD (0+(j:Int)).toNat []) (0+(j:Int)) i=cK 4 bR s sum (ls.getD (0+(j:Int)).toNat []) (0+(j:Int)) i (s.cd i).length:=by unfold dG;rw[hcc];rfl
    rw[hce]at e1;have hsp:∀t,t<(s.cd i).length→jst 4 s sum (ls.getD (0+(j:Int)).toNat []) i ((s.cd i).getD t 0)=true→∃B,L=(aZ 4 bR s sum ls 0 j++bA 4 bR s sum ls (0+(j:Int)) i++cK 4 bR s sum (ls.getD (0+(j:Int)).toNat []) (0+(j:Int)) i t)++ddV bR i ((s.cd i).getD t 0) (0+(j:Int))::B:=fun t ht hh=>by
     rw[hL];exact nE (g:=4) (nm:=bR) (s:=s) (sum:=sum) (ls:=ls) (fr:=0) (m:=ls.length) (j:=j) (i:=i) (t:=t) hlt hlt2 ht hcc hh
    have hpos:∀t,t≤(s.cd i).length→(∀t',t'<t→(!jst 4 s sum (ls.getD (0+(j:Int)).toNat []) i ((s.cd i).getD t' 0)||go ((aZ 4 bR s sum ls 0 j++bA 4 bR s sum ls (0+(j:Int)) i++cK 4 bR s sum (ls.getD (0+(j:Int)).toNat []) (0+(j:Int)) i t')++[ddV bR i ((s.cd i).getD t' 0) (0+(j:Int))]))=true)→GoTo go L (aZ 4 bR s sum ls 0 j++bA 4 bR s sum ls (0+(j:Int)) i++cK 4 bR s sum (ls.getD (0+(j:Int)).toNat []) (0+(j:Int)) i t).length:=by
     intro t;induction t with
     |zero=>intro _ _;rw[fQ,agN];exact hgo2
     |succ t ih=>
      intro ht hall;have g0:=ih (by omega) fun t' h'=>hall t' (by omega)
      have g1:=hall t (by omega)
      rw[fT (by omega)]
      split
      ·rename_i hh
       rw[hh]at g1;obtain⟨B,hB⟩:=hsp t (by omega) hh
       rw[←ag5];exact oZ hB g0 (by simpa using g1)
      ·rw[agN];exact g0
    rw[hm];conv=>whnf
    refine gU aK mixed ak eZ (fun r=>hY r _) (fs:=[]) (cs:=[.ip (.pv [.int .u32 (mk (s.cd i):Nat)]) 0]) ((s.cd i).map (PV.int .i64)) (fun t=>(!jst 4 s sum (ls.getD (0+(j:Int)).toNat []) i ((s.cd i).getD t 0)||go ((aZ 4 bR s sum ls 0 j++bA 4 bR s sum ls (0+(j:Int)) i++cK 4 bR s sum (ls.getD (0+(j:Int)).toNat []) (0+(j:Int)) i t)++[ddV bR i ((s.cd i).getD t 0) (0+(j:Int))]))) (fun t=>[(0,.ext G (aZ 4 bR s sum ls 0 j++bA 4 bR s sum ls (0+(j:Int)) i++cK 4 bR s sum (ls.getD (0+(j:Int)).toNat []) (0+(j:Int)) i t))]) (by rfl) (by rfl) (by rfl) (jH (s.cd i) hA) (by rfl) (by rfl) (by rfl) (by rfl) ?_ ?_ ?_
    ·repeat'((conv=>whnf);first|intro _|apply aI|with_reducible exact vM rfl|exact⟨⟩|apply nM|apply fM)
     all_goals((try apply vM);(try simp only[vq]at*);try omega)
     all_goals(rw[fQ,agN])
    ·intro hall
     rw[af0]at hall⊢;have g9:=hpos _ (aea _) hall
     repeat'((conv=>whnf);first|intro _|apply aI|with_reducible exact vM rfl|exact⟨⟩|apply nM|apply fM)
     all_goals((try apply vM);(try simp only[vq]at*);try omega)
     refine⟨i+1,[],⟨⟨by omega,by rw[e1,←ag5];exact g9⟩,by omega⟩,?_⟩
     rw[e1,←ag5]
     repeat'((conv=>whnf);first|intro _|apply aI|with_reducible exact vM rfl|exact⟨⟩|apply nM|apply fM)
     all_goals((try apply vM);(try simp only[vq]at*);try omega)
    ·intro t x hx hall lp
     obtain⟨ht,rfl⟩:=oq hx;have hxC:=bL ht;have hxr:=hA.rng _ hxC;have hxc:=hAc _ hxC;have g0:=hpos t (by omega) hall
     have hs1:=hsp t ht;have cs1:=fT (g:=4) (nm:=bR) (s:=s) (sum:=sum) (l:=(ls.getD (0+(j:Int)).toNat [])) (k:=(0+(j:Int))) ht
     repeat'((conv=>whnf);first|apply Exists.intro (s)|(intro hq;(try simp only[vw]at hq);try first|exact absurd hq (by decide)|exfalso;omega)|apply aI|with_reducible exact vM rfl|exact⟨⟩|apply nM|apply fM)
     all_goals((try apply vM);(try simp only[vq]at*);try omega)
     all_goals(try omega)
     ·exact⟨h,by omega,by omega,by omega⟩
     ·obtain⟨B,hB⟩:=hs1 (by assumption)
      exact qD hB g0
     ·rw[show jst 4 s sum (ls.getD (0+(j:Int)).toNat []) i ((s.cd i).getD t 0)=true by assumption]
      assumption
     ·obtain⟨B,hB⟩:=hs1 (by assumption)
      exact o7 hB g0 (by assumption)
     ·have q1:jst 4 s sum (ls.getD (0+(j:Int)).toNat []) i ((s.cd i).getD t 0)=true:=by assumption
      have q2:go ((aZ 4 bR s sum ls 0 j++bA 4 bR s sum ls (0+(j:Int)) i++cK 4 bR s sum (ls.getD (0+(j:Int)).toNat []) (0+(j:Int)) i t)++[ddV bR i ((s.cd i).getD t 0) (0+(j:Int))])=true:=by assumption
      refine⟨[],?_⟩;rw[cs1,if_pos q1,←ag5]
      repeat'((conv=>whnf);first|intro _|apply aI|with_reducible exact vM rfl|exact⟨⟩|apply nM|apply fM)
      all_goals((try apply vM);(try simp only[vq]at*);try omega)
      all_goals(try first|(rw[q1,q2];rfl)|rfl)
     ·have q1:jst 4 s sum (ls.getD (0+(j:Int)).toNat []) i ((s.cd i).getD t 0)=false:=by assumption
      refine⟨[],?_⟩;rw[cs1,if_neg (by rw[q1];decide),agN]
      repeat'((conv=>whnf);first|intro _|apply aI|with_reducible exact vM rfl|exact⟨⟩|apply nM|apply fM)
      all_goals((try apply vM);(try simp only[vq]at*);try omega)
      all_goals(try(rw[q1];rfl))
   ·have hce:dG 4 bR s sum (ls.getD (0+(j:Int)).toNat []) (0+(j:Int)) i=[]:=by unfold dG;rw[show s.dc i=true from hq];rfl
    rw[hce,agN]at e1;refine⟨i+1,[],⟨⟨by omega,by rw[e1];exact hgo2⟩,by omega⟩,?_⟩
    rw[e1]
    repeat'((conv=>whnf);first|intro _|apply aI|with_reducible exact vM rfl|exact⟨⟩|apply nM|apply fM)
    all_goals((try apply vM);(try simp only[vq]at*);try omega)
  ·have:i=s.cs.length:=by omega
   subst this;rw[←e2]at hgo2⊢
   repeat'((conv=>whnf);first|(intro hq;(try simp only[vw]at hq);try first|exact absurd hq (by decide)|exfalso;omega)|apply aI|with_reducible exact vM rfl|exact⟨⟩|apply nM|apply fM)
   all_goals((try apply vM);(try simp only[vq]at*);try omega)
   refine⟨j+1,[(21,2)],⟨⟨by omega,hgo2⟩,by omega⟩,?_⟩
   repeat'((conv=>whnf);first|intro _|apply aI|with_reducible exact vM rfl|exact⟨⟩|apply nM|apply fM)
   all_goals((try apply vM);(try simp only[vq]at*);try omega)
 ·have:j=ls.length:=by omega
  subst this
  repeat'((conv=>whnf);first|(intro hq;(try simp only[vw]at hq);try first|exact absurd hq (by decide)|exfalso;omega)|apply aI|with_reducible exact vM rfl|exact⟨⟩|apply nM|apply fM)
  all_goals((try apply vM);(try simp only[vq]at*);try omega)
  rw[hL];rw[hL]at hgo;exact o8 hgo
theorem Pv (c:Int) (ls:List (List Int)) (sum:Int) (gv:List Int) (s:St) (h:bO c ls sum s):
 mM Tryz.prog 180 [] [.ip (.pv [.int .i64 0]) 0,.ip (.pv [.int .i64 ls.length]) 0,.ip (.pv [bdV c ls sum gv s]) 0,rlV bS false true 176] 1 (aZ 5 bS s sum ls 0 ls.length):=by
 refine kJ (md:=1) (rf:=[]) mixed ak Tryz.func180 (by rfl) (by rfl) (by rfl) fun G go b hY=>⟨_,eZ,?_⟩
 obtain⟨L,hL⟩:∃L,L=aZ 5 bS s sum ls 0 ls.length:=⟨_,rfl⟩;rw[←hL]at hY⊢;have W:Walk Tryz.prog none jX tab.get AJ (rH b 1 G go L):=⟨aK,mixed,ak,eZ,hY _ _⟩;have hcl:=h.cl;have hdl:=h.dl;have hc1:=h.c1;have hms:=bQ s.cs;have hll:=h.ll
 repeat'((conv=>whnf);first|intro _|apply aI|with_reducible exact vM rfl|exact⟨⟩|apply nM|apply fM)
 all_goals((try apply vM);(try simp only[vq]at*);try omega)
 conv=>whnf
 refine aM (X:=Nat) (fun j=>j≤ls.length∧GoTo go L (aZ 5 bS s sum ls 0 j).length) (fun j=>[(6,.rp 2 0)]) (fun j=>[(0,.ext G (aZ 5 bS s sum ls 0 j)),(2,.cells (.pv [.int .i64 (0+(j:Int))]) false)]) (fun j=>ls.length-j) 0 W (by rfl) ⟨by omega,.zero⟩ ?_ ?_
 ·repeat'((conv=>whnf);first|intro _|apply aI|with_reducible exact vM rfl|exact⟨⟩|apply nM|apply fM)
  all_goals((try apply vM);(try simp only[vq]at*);try omega)
  all_goals rfl
 intro j ⟨hj,hgo⟩;by_cases hlt:j<ls.length
 ·have e2:aZ 5 bS s sum ls 0 (j+1)=aZ 5 bS s sum ls 0 j++bA 5 bS s sum ls (0+(j:Int)) s.cs.length:=by unfold aZ;rw[jm]
  have hln:=h.ln j hlt;have hlen:=hln.len;have ejt:(0+(j:Int)).toNat=j:=by omega
  repeat'((conv=>whnf);first|(intro hq;(try simp only[vw]at hq);try first|exact absurd hq (by decide)|exfalso;omega)|apply aI|with_reducible exact vM rfl|exact⟨⟩|apply nM|apply fM)
  all_goals((try apply vM);(try simp only[vq]at*);try omega)
  conv=>whnf
  refine aM (X:=Nat) (fun i=>i≤s.cs.length∧GoTo go L (aZ 5 bS s sum ls 0 j++bA 5 bS s sum ls (0+(j:Int)) i).length) (fun i=>[(22,.int .i64 i)]) (fun i=>[(0,.ext G (aZ 5 bS s sum ls 0 j++bA 5 bS s sum ls (0+(j:Int)) i))]) (fun i=>s.cs.length-i) 0 W (by rfl) ⟨by omega,by simpa [bA]using hgo⟩ ?_ ?_
  ·repeat'((conv=>whnf);first|intro _|apply aI|with_reducible exact vM rfl|exact⟨⟩|apply nM|apply fM)
   all_goals((try apply vM);(try simp only[vq]at*);try omega)
   all_goals(simp[bA])
  intro i ⟨hi,hgo2⟩;by_cases hlt2:i<s.cs.length
  ·have hm:(ms s.cs).getD i 0=(mk (s.cd i):Nat):=eP hlt2
   have hA:=(h.asc _ hlt2).1;have hAc:=(h.asc _ hlt2).2;have e1:bA 5 bS s sum ls (0+(j:Int)) (i+1)=bA 5 bS s sum ls (0+(j:Int)) i++dG 5 bS s sum (ls.getD (0+(j:Int)).toNat []) (0+(j:Int)) i:=by unfold bA;rw[jm]
   repeat'((conv=>whnf);first|(intro hq;(try simp only[vw]at hq);try first|exact absurd hq (by decide)|exfalso;omega)|apply aI|with_reducible exact vM rfl|exact⟨⟩|apply nM|apply fM)
   all_goals((try apply vM);(try simp only[vq]at*);try omega)
   all_goals(try first|omega|(rw[ejt];omega))
   ·have hce:dG 5 bS s sum (ls.getD (0+(j:Int)).toNat []) (0+(j:Int)) i=[]:=by unfold dG;rw[show decide ((i:Int)∈(ls.getD (0+(j:Int)).toNat []))=false by apply decide_eq_false;assumption];cases s.dc i<;>rfl
    rw[hce,agN]at e1;refine⟨i+1,[],⟨⟨by omega,by rw[e1];exact hgo2⟩,by omega⟩,?_⟩
    rw[e1]
    repeat'((conv=>whnf);first|intro _|apply aI|with_reducible exact vM rfl|exact⟨⟩|apply nM|apply fM)
    all_goals((try apply vM);(try simp only[vq]at*);try omega)
   ·have hcc:(s.dc i||(lnG 5&&!decide ((i:Int)∈(ls.getD (0+(j:Int)).toNat []))))=false:=by rw[show s.dc i=false by assumption,show decide ((i:Int)∈(ls.getD (0+(j:Int)).toNat []))=true by apply decide_eq_true;assumption];rfl
    have hce:dG 5 bS s sum (ls.getD (0+(j:Int)).toNat []) (0+(j:Int)) i=cK 5 bS s sum (ls.getD (0+(j:Int)).toNat []) (0+(j:Int)) i (s.cd i).length:=by unfold dG;rw[hcc];rfl
    rw[hce]at e1;have hsp:∀t,t<(s.cd i).length→jst 5 s sum (ls.getD (0+(j:Int)).toNat []) i ((s.cd i).getD t 0)=true→∃B,L=(aZ 5 bS s sum ls 0 j++bA 5 bS s sum ls (0+(j:Int)) i++cK 5 bS s sum (ls.getD (0+(j:Int)).toNat []) (0+(j:Int)) i t)++ddV bS i ((s.cd i).getD t 0) (0+(j:Int))::B:=fun t ht hh=>by
     rw[hL];exact nE (g:=5) (nm:=bS) (s:=s) (sum:=sum) (ls:=ls) (fr:=0) (m:=ls.length) (j:=j) (i:=i) (t:=t) hlt hlt2 ht hcc hh
    have hpos:∀t,t≤(s.cd i).length→(∀t',t'<t→(!jst 5 s sum (ls.getD (0+(j:Int)).toNat []) i ((s.cd i).getD t' 0)||go ((aZ 5 bS s sum ls 0 j++bA 5 bS s sum ls (0+(j:Int)) i++cK 5 bS s sum (ls.getD (0+(j:Int)).toNat []) (0+(j:Int)) i t')++[ddV bS i ((s.cd i).getD t' 0) (0+(j:Int))]))=true)→GoTo go L (aZ 5 bS s sum ls 0 j++bA 5 bS s sum ls (0+(j:Int)) i++cK 5 bS s sum (ls.getD (0+(j:Int)).toNat []) (0+(j:Int)) i t).length:=by
     intro t;induction t with
     |zero=>intro _ _;rw[fQ,agN];exact hgo2
     |succ t ih=>
      intro ht hall;have g0:=ih (by omega) fun t' h'=>hall t' (by omega)
      have g1:=hall t (by omega)
      rw[fT (by omega)]
      split
      ·rename_i hh
       rw[hh]at g1;obtain⟨B,hB⟩:=hsp t (by omega) hh
       rw[←ag5];exact oZ hB g0 (by simpa using g1)
      ·rw[agN];exact g0
    rw[hm];conv=>whnf
    refine gU aK mixed ak eZ (fun r=>hY r _) (fs:=[]) (cs:=[.ip (.pv [.int .u32 (mk (s.cd i):Nat)]) 0]) ((s.cd i).map (PV.int .i64)) (fun t=>(!jst 5 s sum (ls.getD (0+(j:Int)).toNat []) i ((s.cd i).getD t 0)||go ((aZ 5 bS s sum ls 0 j++bA 5 bS s sum ls (0+(j:Int)) i++cK 5 bS s sum (ls.getD (0+(j:Int)).toNat []) (0+(j:Int)) i t)++[ddV bS i ((s.cd i).getD t 0) (0+(j:Int))]))) (fun t=>[(0,.ext G (aZ 5 bS s sum ls 0 j++bA 5 bS s sum ls (0+(j:Int)) i++cK 5 bS s sum (ls.getD (0+(j:Int)).toNat []) (0+(j:Int)) i t))]) (by rfl) (by rfl) (by rfl) (jH (s.cd i) hA) (by rfl) (by rfl) (by rfl) (by rfl) ?_ ?_ ?_
    ·repeat'((conv=>whnf);first|intro _|apply aI|with_reducible exact vM rfl|exact⟨⟩|apply nM|apply fM)
     all_goals((try apply vM);(try simp only[vq]at*);try omega)
     all_goals(rw[fQ,agN])
    ·intro hall
     rw[af0]at hall⊢;have g9:=hpos _ (aea _) hall
     repeat'((conv=>whnf);first|intro _|apply aI|with_reducible exact vM rfl|exact⟨⟩|apply nM|apply fM)
     all_goals((try apply vM);(try simp only[vq]at*);try omega)
     refine⟨i+1,[],⟨⟨by omega,by rw[e1,←ag5];exact g9⟩,by omega⟩,?_⟩
     rw[e1,←ag5]
     repeat'((conv=>whnf);first|intro _|apply aI|with_reducible exact vM rfl|exact⟨⟩|apply nM|apply fM)
     all_goals((try apply vM);(try simp only[vq]at*);try omega)
    ·intro t x hx hall lp
     obtain⟨ht,rfl⟩:=oq hx;have hxC:=bL ht;have hxr:=hA.rng _ hxC;have hxc:=hAc _ hxC;have g0:=hpos t (by omega) hall
     have hs1:=hsp t ht;have cs1:=fT (g:=5) (nm:=bS) (s:=s) (sum:=sum) (l:=(ls.getD (0+(j:Int)).toNat [])) (k:=(0+(j:Int))) ht
     repeat'((conv=>whnf);first|apply Exists.intro (s)|(intro hq;(try simp only[vw]at hq);try first|exact absurd hq (by decide)|exfalso;omega)|apply aI|with_reducible exact vM rfl|exact⟨⟩|apply nM|apply fM)
     all_goals((try apply vM);(try simp only[vq]at*);try omega)
     all_goals(try omega)
     ·exact⟨h,by omega,by omega,by omega⟩
     ·obtain⟨B,hB⟩:=hs1 (by assumption)
      exact qD hB g0
     ·rw[show jst 5 s sum (ls.getD (0+(j:Int)).toNat []) i ((s.cd i).getD t 0)=true by assumption]
      assumption
     ·obtain⟨B,hB⟩:=hs1 (by assumption)
      exact o7 hB g0 (by assumption)
     ·have q1:jst 5 s sum (ls.getD (0+(j:Int)).toNat []) i ((s.cd i).getD t 0)=true:=by assumption
      have q2:go ((aZ 5 bS s sum ls 0 j++bA 5 bS s sum ls (0+(j:Int)) i++cK 5 bS s sum (ls.getD (0+(j:Int)).toNat []) (0+(j:Int)) i t)++[ddV bS i ((s.cd i).getD t 0) (0+(j:Int))])=true:=by assumption
      refine⟨[],?_⟩;rw[cs1,if_pos q1,←ag5]
      repeat'((conv=>whnf);first|intro _|apply aI|with_reducible exact vM rfl|exact⟨⟩|apply nM|apply fM)
      all_goals((try apply vM);(try simp only[vq]at*);try omega)
      all_goals(try first|(rw[q1,q2];rfl)|rfl)
     ·have q1:jst 5 s sum (ls.getD (0+(j:Int)).toNat []) i ((s.cd i).getD t 0)=false:=by assumption
      refine⟨[],?_⟩;rw[cs1,if_neg (by rw[q1];decide),agN]
      repeat'((conv=>whnf);first|intro _|apply aI|with_reducible exact vM rfl|exact⟨⟩|apply nM|apply fM)
      all_goals((try apply vM);(try simp only[vq]at*);try omega)
      all_goals(try(rw[q1];rfl))
   ·have hce:dG 5 bS s sum (ls.getD (0+(j:Int)).toNat []) (0+(j:Int)) i=[]:=by unfold dG;rw[show s.dc i=true from hq];rfl
    rw[hce,agN]at e1;refine⟨i+1,[],⟨⟨by omega,by rw[e1];exact hgo2⟩,by omega⟩,?_⟩
    rw[e1]
    repeat'((conv=>whnf);first|intro _|apply aI|with_reducible exact vM rfl|exact⟨⟩|apply nM|apply fM)
    all_goals((try apply vM);(try simp only[vq]at*);try omega)
  ·have:i=s.cs.length:=by omega
   subst this;rw[←e2]at hgo2⊢
   repeat'((conv=>whnf);first|(intro hq;(try simp only[vw]at hq);try first|exact absurd hq (by decide)|exfalso;omega)|apply aI|with_reducible exact vM rfl|exact⟨⟩|apply nM|apply fM)
   all_goals((try apply vM);(try simp only[vq]at*);try omega)
   refine⟨j+1,[(21,2)],⟨⟨by omega,hgo2⟩,by omega⟩,?_⟩
   repeat'((conv=>whnf);first|intro _|apply aI|with_reducible exact vM rfl|exact⟨⟩|apply nM|apply fM)
   all_goals((try apply vM);(try simp only[vq]at*);try omega)
 ·have:j=ls.length:=by omega
  subst this
  repeat'((conv=>whnf);first|(intro hq;(try simp only[vw]at hq);try first|exact absurd hq (by decide)|exfalso;omega)|apply aI|with_reducible exact vM rfl|exact⟨⟩|apply nM|apply fM)
  all_goals((try apply vM);(try simp only[vq]at*);try omega)
  rw[hL];rw[hL]at hgo;exact o8 hgo
structure Dd where
 g:Nat
 y:Int
 x:Int
 k:Int
abbrev uV (d:Dd):PV:=ddV (nmG d.g) d.y d.x d.k
def frG (g:Nat):Int:=if lnG g then 0 else-1
def mG (g:Nat) (ls:List (List Int)):Nat:=if lnG g then ls.length else 1
def uW (g:Nat) (s:St) (sum:Int) (l:List Int) (k:Int) (i:Nat):List Dd:=
 if s.dc i||(lnG g&&!decide ((i:Int)∈l))then []else((s.cd i).filter fun x=>jst g s sum l i x).map fun x=>⟨g,i,x,k⟩
def gH (g:Nat) (s:St) (sum:Int) (ls:List (List Int)):List Dd:=
 (ael (mG g ls)).flatMap fun j:Nat=>(ael s.cs.length).flatMap fun i=>uW g s sum (ls.getD (frG g+(j:Int)).toNat []) (frG g+(j:Int)) i
theorem Yj (g:Nat) (s:St) (sum:Int) (l:List Int) (k:Int) (i:Nat):dG g (nmG g) s sum l k i=(uW g s sum l k i).map uV:=by
 unfold dG uW;split
 ·rfl
 ·unfold cK;rw[af5,List.map_map];rfl
theorem Yk (g:Nat) (s:St) (sum:Int) (ls:List (List Int)):aZ g (nmG g) s sum ls (frG g) (mG g ls)=(gH g s sum ls).map uV:=by
 unfold aZ gH bA;rw[ag6];congr 1;funext j;rw[ag6];congr 1;funext i;exact Yj _ _ _ _ _ _
theorem FV {g:Nat} {s:St} {sum:Int} {ls:List (List Int)} {d:Dd}:d∈gH g s sum ls↔
 d.g=g∧(0≤d.y∧d.y<s.cs.length)∧(if lnG g then(0≤d.k∧d.k<ls.length)∧d.y∈ls.getD d.k.toNat []else d.k= -1)∧okJ g s sum (ls.getD d.k.toNat []) d.y d.x=true:=by
 unfold gH;rw[ag7];constructor
 ·rintro⟨j,hj,hd⟩
  rw[ag7]at hd;obtain⟨i,hi,hd⟩:=hd;have hj:=afY.1 hj;have hi:=afY.1 hi;unfold uW at hd;split at hd
  ·simp at hd
  ·rename_i hc
   obtain⟨x,hx,rfl⟩:=agQ.1 hd;obtain⟨hx,hJ⟩:=agh.1 hx;have hc:(s.dc i||(lnG g&&!decide ((i:Int)∈ls.getD (frG g+(j:Int)).toNat [])))=false:=by
    cases h:(s.dc i||(lnG g&&!decide ((i:Int)∈ls.getD (frG g+(j:Int)).toNat [])))with
    |false=>rfl
    |true=>exact absurd h hc
   rw[Bool.or_eq_false_iff]at hc;refine⟨rfl,⟨by simp,by simp;omega⟩,?_,?_⟩
   ·cases hl:lnG g with
    |true=>
     rw[hl]at hc;simp only[mG,frG,hl,if_true]at hj⊢;refine⟨⟨by omega,by omega⟩,?_⟩
     have:=hc.2;simp only[frG,hl,if_true,agO,Bool.not_eq_false',decide_eq_true_eq]at this;exact this
    |false=>
     simp only[mG,frG,hl]at hj⊢;simp at hj⊢;omega
   ·unfold okJ
    simp only[afg];rw[hc.1,decide_eq_true hx,hJ];rfl
 ·rintro⟨h1,⟨h2,h3⟩,h4,h5⟩
  unfold okJ at h5;simp only[aeA,ag8,decide_eq_true_eq]at h5;obtain⟨a1,a2,a3⟩:=h5;have e:((d.y.toNat:Nat):Int)=d.y:=by omega
  cases hl:lnG g with
  |true=>
   rw[hl]at h4;simp only[if_true]at h4;refine⟨d.k.toNat,afY.2 (by simp only[mG,hl,if_true];omega),?_⟩
   rw[ag7];refine⟨d.y.toNat,afY.2 (by omega),?_⟩
   have ek:(frG g+((d.k.toNat:Nat):Int))=d.k:=by simp only[frG,hl,if_true];omega
   rw[ek];unfold uW;rw[a1,hl,e,decide_eq_true h4.2];simp only[Bool.not_true,agR,ag9];exact agQ.2 ⟨d.x,agh.2 ⟨a2,a3⟩,by subst h1;rfl⟩
  |false=>
   rw[hl]at h4;simp only[Bool.false_eq_true,if_false]at h4;refine⟨0,afY.2 (by simp[mG,hl]),?_⟩
   rw[ag7];refine⟨d.y.toNat,afY.2 (by omega),?_⟩
   have ek:(frG g+((0:Nat):Int))=d.k:=by simp only[frG,hl];rw[h4];rfl
   rw[ek];unfold uW;rw[a1,hl,e];simp only[agn,ag9];exact agQ.2 ⟨d.x,agh.2 ⟨a2,a3⟩,by subst h1;rfl⟩
def iH (s:St) (sum:Int) (ls:List (List Int)):Nat→Option Dd
 |0=>none
 |n+1=>match iH s sum ls n with
  |some d=>some d
  |none=>(gH (n+1) s sum ls).head?
theorem FW {s:St} {sum:Int} {ls:List (List Int)} {d:Dd}:∀{n:Nat},iH s sum ls n=some d→∃g,1≤g∧g≤n∧d∈gH g s sum ls:=by
 intro n;induction n with
 |zero=>intro h;cases h
 |succ n ih=>
  intro h;unfold iH at h;split at h
  ·rename_i d' h1
   cases h
   obtain⟨g,g1,g2,g3⟩:=ih h1;exact⟨g,g1,by omega,g3⟩
  ·exact⟨n+1,by omega,by omega,List.mem_of_head? h⟩
theorem acp {s:St} {sum:Int} {ls:List (List Int)}:∀{n:Nat},iH s sum ls n=none↔∀g,1≤g→g≤n→gH g s sum ls=[]:=by
 intro n;induction n with
 |zero=>exact⟨fun _ g h1 h2=>by omega,fun _=>rfl⟩
 |succ n ih=>
  unfold iH;constructor
  ·intro h g h1 h2
   split at h
   ·cases h
   ·rename_i hn
    by_cases e:g=n+1
    ·subst e
     cases hL:gH (n+1) s sum ls with
     |nil=>rfl
     |cons a l=>rw[hL]at h;cases h
    ·exact ih.1 hn g h1 (by omega)
  ·intro h
   rw[ih.2 fun g h1 h2=>h g h1 (by omega),h (n+1) (by omega) (by omega)]
   rfl
def AL (g:Nat):Bool:=g≤3
def fnG:Nat→Nat
 |1=>172
 |2=>173
 |3=>174
 |4=>175
 |_=>176
def toG (g:Nat) (ls:List (List Int)):Int:=if lnG g then ls.length else 0
noncomputable def ac8:CPT:=aA 130 (aB nC) noC
theorem Yl:aW Tryz.prog ac8:=aj (au l7) aD
abbrev itV (g:Nat) (c:Int) (ls:List (List Int)) (sum:Int) (gv:List Int) (s:St):PV:=.fn (.func 180) [] [.ip (.pv [.int .i64 (frG g)]) 0,.ip (.pv [.int .i64 (toG g ls)]) 0,.ip (.pv [bdV c ls sum gv s]) 0,rlV (nmG g) (AL g) (lnG g) (fnG g)]
theorem FX (g:Nat) (hg:1≤g∧g≤5) (c:Int) (ls:List (List Int)) (sum:Int) (gv:List Int) (s:St) (h:bO c ls sum s):
 mM Tryz.prog 180 [] [.ip (.pv [.int .i64 (frG g)]) 0,.ip (.pv [.int .i64 (toG g ls)]) 0,.ip (.pv [bdV c ls sum gv s]) 0,rlV (nmG g) (AL g) (lnG g) (fnG g)] 1 ((gH g s sum ls).map uV):=by
 rw[←Yk];obtain rfl|rfl|rfl|rfl|rfl:g=1∨g=2∨g=3∨g=4∨g=5:=by omega
 ·exact Po c ls sum gv s h
 ·exact Pp c ls sum gv s h
 ·exact Pq c ls sum gv s h
 ·exact Pt c ls sum gv s h
 ·exact Pv c ls sum gv s h
theorem R9 (c:Int) (ls:List (List Int)) (sum:Int) (gv:List Int) (s:St) (g:Nat) (hg:1≤g∧g≤5):aF Tryz.prog 134 [bdV c ls sum gv s,.int .i64 (g:Int)] (itV g c ls sum gv s):=by
 have hte:=uL;obtain rfl|rfl|rfl|rfl|rfl:g=1∨g=2∨g=3∨g=4∨g=5:=by omega
 all_goals
  refine av (md:=1) (rf:=[]) mixed ak Yl Tryz.func134 (by rfl) (by rfl) (by rfl) ?_
  repeat'((conv=>whnf);first|(intro hq;(try simp only[vw]at hq);try first|exact absurd hq (by decide)|exfalso;omega)|apply aI|with_reducible exact vM rfl|exact⟨⟩|apply nM|apply fM)
  all_goals((try apply vM);(try simp only[vq]at*);try omega)
  all_goals first|exact Sup.of rfl|(rw[hte];decide)|decide|skip
def DJ:PSp:=fun xs K=>match xs with
 | [.ip (.pv [.int .i64 c,.isl (.rows .i64 ls) .none,.int .i64 sum,.isl (.ints .i64 gv) .none,.isl (.ints .u32 M) .none,.isl (.bools D) .none]) 0,.int .i64 g]=>∃(s:St) (n:Nat),VC (M=ms s.cs∧D=s.ds∧g=n∧1≤n∧n≤5)∧K (itV n c ls sum gv s)
 |_=>False
theorem JF:POK Tryz.prog 134 DJ:=by
 intro xs K hk;unfold DJ at hk;split at hk
 ·obtain⟨s,n,⟨rfl,rfl,rfl,h⟩,hk⟩:=hk
  exact⟨_,hk,R9 _ _ _ _ s n h⟩
 ·exact hk.elim
noncomputable def ac9:CPT:=aA 134 (aB DJ) noC
theorem AP:aW Tryz.prog ac9:=aj (au JF) aD
def aaY (o:Option Dd):PV:=match o with
 |some d=>.tup [uV d,.bp true]
 |none=>.tup [ddV rY 0 0 0,.bp false]
theorem Ym {s:St} {sum:Int} {ls:List (List Int)} {d:Dd} {i:Nat} (h0:iH s sum ls i=none) (h1:(gH (i+1) s sum ls).head? =some d):∀n,i+1≤n→iH s sum ls n=some d:=by
 intro n hn;induction n with
 |zero=>omega
 |succ n ih=>
  unfold iH;by_cases e:i=n
  ·subst e;rw[h0];exact h1
  ·rw[ih (by omega)]
theorem Pw (p:PV) (b:Bool):Sup (bF [p,PV.bool b]) (PV.tup [p,.bp b]):=⟨fun hr=>by
 cases hr with
 |tup _ _ vs hl hh=>
  refine .tup _ _ _ hl fun i hi=>?_;have:=hh i hi;obtain rfl|rfl:i=0∨i=1:=by simp at hi;omega
  ·exact this
  ·simp only[aC]at this⊢
   generalize vs.getD 1 undef=v1 at this
   cases this;exact .bp _ _⟩
theorem MB (c:Int) (ls:List (List Int)) (sum:Int) (gv:List Int) (s:St) (h:bO c ls sum s) (n:Nat) (hn:n≤5):aF Tryz.prog 92 [bdV c ls sum gv s,.int .i64 (n:Int)] (aaY (iH s sum ls n)):=by
 refine av (md:=1) (rf:=[]) mixed ak AP Tryz.func92 (by rfl) (by rfl) (by rfl) ?_
 repeat'((conv=>whnf);first|(intro hq;(try simp only[vw]at hq);try first|exact absurd hq (by decide)|exfalso;omega)|apply aI|with_reducible exact vM rfl|exact⟨⟩|apply nM|apply fM)
 all_goals((try apply vM);(try simp only[vq]at*);try omega)
 conv=>whnf
 refine aM (X:=Nat) (fun i=>i≤n∧iH s sum ls i=none) (fun i=>[(6,.int .i64 ((i:Int)+1))]) (fun i=>[]) (fun i=>n-i) 0 ⟨aK,mixed,ak,AP,aQ⟩ (by rfl) ⟨by omega,rfl⟩ ?_ ?_
 ·repeat'((conv=>whnf);first|intro _|apply aI|with_reducible exact vM rfl|exact⟨⟩|apply nM|apply fM)
  all_goals((try apply vM);(try simp only[vq]at*);try omega)
 intro i ⟨hi,hok⟩;by_cases hlt:i<n
 ·repeat'((conv=>whnf);first|apply Exists.intro (s)|apply Exists.intro (i+1)|(intro hq;(try simp only[vw]at hq);try first|exact absurd hq (by decide)|exfalso;omega)|apply aI|with_reducible exact vM rfl|exact⟨⟩|apply nM|apply fM)
  all_goals((try apply vM);(try simp only[vq]at*);try omega)
  conv=>whnf
  refine gU aK mixed ak AP (fun r=>aQ) (fs:=[]) (cs:=[.ip (.pv [.int .i64 (frG (i+1))]) 0,.ip (.pv [.int .i64 (toG (i+1) ls)]) 0,.ip (.pv [bdV c ls sum gv s]) 0,rlV (nmG (i+1)) (AL (i+1)) (lnG (i+1)) (fnG (i+1))]) ((gH (i+1) s sum ls).map uV) (fun _=>false) (fun _=>[]) (by rfl) (by rfl) (by rfl) (FX (i+1) (by omega) c ls sum gv s h) (by rfl) (by rfl) (by rfl) (by rfl) ?_ ?_ ?_
  ·repeat'((conv=>whnf);first|intro _|apply aI|with_reducible exact vM rfl|exact⟨⟩|apply nM|apply fM)
   all_goals((try apply vM);(try simp only[vq]at*);try omega)
  ·intro hall
   have hE:gH (i+1) s sum ls=[]:=by
    cases hL:gH (i+1) s sum ls with
    |nil=>rfl
    |cons d l=>rw[hL]at hall;exact absurd (hall 0 (by simp)) (by decide)
   repeat'((conv=>whnf);first|(intro hq;(try simp only[vw]at hq);try first|exact absurd hq (by decide)|exfalso;omega)|apply aI|with_reducible exact vM rfl|exact⟨⟩|apply nM|apply fM)
   all_goals((try apply vM);(try simp only[vq]at*);try omega)
   refine⟨i+1,[],⟨⟨by omega,?_⟩,by omega⟩,?_⟩
   ·unfold iH;rw[hok,hE];rfl
   repeat'((conv=>whnf);first|intro _|apply aI|with_reducible exact vM rfl|exact⟨⟩|apply nM|apply fM)
   all_goals((try apply vM);(try simp only[vq]at*);try omega)
  ·intro t x hx hall lp
   have ht:t=0:=by
    rcases Nat.eq_zero_or_pos t with h0|h0
    ·exact h0
    ·exact absurd (hall 0 h0) (by decide)
   subst ht;rw[ae7]at hx;cases hL:gH (i+1) s sum ls with
   |nil=>rw[hL]at hx;cases hx
   |cons d l=>
    rw[hL]at hx;cases hx
    rw[Ym hok (by rw[hL];rfl) n (by omega)]
    repeat'((conv=>whnf);first|(intro hq;(try simp only[vw]at hq);try first|exact absurd hq (by decide)|exfalso;omega)|apply aI|with_reducible exact vM rfl|exact⟨⟩|apply nM|apply fM)
    all_goals((try apply vM);(try simp only[vq]at*);try omega)
    exact Pw _ _
 ·have:i=n:=by omega
  subst this;rw[hok]
  repeat'((conv=>whnf);first|(intro hq;(try simp only[vw]at hq);try first|exact absurd hq (by decide)|exfalso;omega)|apply aI|with_reducible exact vM rfl|exact⟨⟩|apply nM|apply fM)
  all_goals((try apply vM);(try simp only[vq]at*);try omega)
  exact Pw _ _
def qE:PSp:=fun xs K=>match xs with
 | [.ip (.pv [.int .i64 c,.isl (.rows .i64 ls) .none,.int .i64 sum,.isl (.ints .i64 gv) .none,.isl (.ints .u32 M) .none,.isl (.bools D) .none]) 0,.int .i64 g]=>∃(s:St) (o:Option Dd),VC (M=ms s.cs∧D=s.ds∧(0≤g∧g≤5)∧bO c ls sum s∧iH s sum ls g.toNat=o)∧K (aaY o)
 |_=>False
theorem uX:POK Tryz.prog 92 qE:=by
 intro xs K hk;unfold qE at hk;split at hk
 ·obtain⟨s,o,⟨rfl,rfl,hg,h,rfl⟩,hk⟩:=hk
  rename_i g;obtain⟨n,rfl⟩:∃n:Nat,g=n:=⟨g.toNat,by omega⟩
  rw[afg]at hk;exact⟨_,hk,MB _ _ _ _ s h n (by omega)⟩
 ·exact hk.elim
structure dR (c:Int) (ls:List (List Int)) (sum:Int) (gv:List Int):Prop where
 c1:1≤c∧c≤16
 ll:1≤ls.length∧ls.length≤128
 ln:∀i,i<ls.length→aaM c (ls.getD i [])
 sm: -999999999≤sum∧sum≤999999999
 gl:(gv.length:Int)=c
 gr:∀x∈gv,0≤x∧x≤c
 gd:∀i j,i<j→j<gv.length→0<gv.getD j 0→gv.getD i 0≠gv.getD j 0
def frL (c:Int) (l:List Int):List Int:=((ael c.toNat).map fun i:Nat=>(i:Int)+1).filter fun y=>!decide (y∈l)
theorem AQ {c:Int} {l:List Int} {x:Int} (hc:0≤c):x∈frL c l↔(1≤x∧x≤c)∧x∉l:=by
 unfold frL;rw[agh,agQ];constructor
 ·rintro⟨⟨i,hi,rfl⟩,h⟩
  have:=afY.1 hi;exact⟨by omega,by simpa using h⟩
 ·rintro⟨h,h2⟩
  exact⟨⟨(x-1).toNat,afY.2 (by omega),by omega⟩,by simpa using h2⟩
theorem JG {c:Int} {l:List Int} (hc:1≤c∧c≤16):Asc (frL c l):=by
 refine⟨?_,fun x hx=>?_⟩
 ·unfold frL
  refine List.Pairwise.filter _ ?_;rw[List.pairwise_map];exact List.Pairwise.imp (fun h=>by omega) List.pairwise_lt_range
 ·have:=(AQ (by omega)).1 hx;omega
theorem Yn (c:Int) (l:List Int) (x:Int):dQ (frL c l) x=frL c (l++[x]):=by
 unfold dQ frL;rw[List.filter_filter];congr 1
 funext y
 simp[aep,Bool.and_comm]
theorem Sb {c:Int} {l:List Int} {x:Int} (h:x≤0):frL c (l++[x])=frL c l:=by
 unfold frL;refine List.filter_congr fun y hy=>?_;obtain⟨i,_,rfl⟩:=agQ.1 hy;have:¬((i:Int)+1=x):=by omega
 simp[this]
def nK (c:Int) (gv:List Int) (l:List Int):List (List Int):=l.map fun x=>if 0<x then [x]else frL c gv
def nL (l:List Int):List Bool:=l.map fun x=>decide (0<x)
def bgn (c:Int) (gv:List Int):St:=⟨nK c gv gv,nL gv⟩
theorem uY {c:Int} {ls:List (List Int)} {sum:Int} {gv:List Int} (h:dR c ls sum gv):bO c ls sum (bgn c gv):=by
 have hc:=h.c1;have hg:=h.gl;have hat:∀i,i<gv.length→(bgn c gv).cd i=if 0<gv.getD i 0 then [gv.getD i 0]else frL c gv:=fun i hi=>by
  simp[bgn,nK,St.cd,aeo,hi]
 have hdt:∀i,i<gv.length→(bgn c gv).dc i=decide (0<gv.getD i 0):=fun i hi=>by
  simp[bgn,nL,St.dc,aeo,hi]
 have hl:(bgn c gv).cs.length=gv.length:=by simp[bgn,nK]
 refine⟨hc,h.ll,h.ln,h.sm,by rw[hl];exact hg,by simp[bgn,nL];exact hg,fun i hi=>?_,fun i hi hd=>?_⟩
 ·rw[hl]at hi
  rw[hat i hi];have hm:=h.gr _ (bL hi);split
  ·exact⟨.one (by omega),fun x hx=>by rw[agL.1 hx];omega⟩
  ·exact⟨JG hc,fun x hx=>((AQ (by omega)).1 hx).1.2⟩
 ·rw[hl]at hi
  rw[hdt i hi,decide_eq_true_eq]at hd;rw[hat i hi,if_pos hd];rfl
theorem bP {α:Type} {l:List α} {i:Nat} (h:l.length=i):agH (i-0) (agI 0 l)=l:=by rw[List.drop_zero,Nat.sub_zero,←h,af5]
theorem MC (c:Int) (ls:List (List Int)) (sum:Int) (gv:List Int) (h:dR c ls sum gv):
 gL Tryz.prog 86 [pzV c ls sum gv] [] [.rp 0 0] (bdO c ls sum gv (bgn c gv) gv.length):=by
 have hc:=h.c1;have hg:=h.gl;have hsb:=gQ (c+1).toNat (by omega)
 have ham:=x9 hc;have hfr0:((ael c.toNat).map fun i:Nat=>(i:Int)+1)=frL c []:=by unfold frL;simp;rw[aha.2 (fun _ _=>rfl)]
 rw[hfr0]at ham;refine bG (md:=1) (rf:=[53,61]) mixed ak aD 0 [(1,0),(20,1),(21,2)] Tryz.func86 (by rfl) (by rfl) (by rfl) ?_
 repeat'((conv=>whnf);first|(intro hq;(try simp only[vw]at hq);try first|exact absurd hq (by decide)|exfalso;omega)|apply aI|with_reducible exact vM rfl|exact⟨⟩|apply nM|apply fM)
 all_goals((try apply vM);(try simp only[vq]at*);try omega)
 all_goals(try omega)
 conv=>whnf
 refine aM (X:=Nat) (fun i=>i≤gv.length) (fun i=>[(22,.int .i64 i),(4,.int .u32 (mk (frL c (gv.take i)):Nat))]) (fun i=>[]) (fun i=>gv.length-i) 0 ⟨aK,mixed,ak,aD,aQ⟩ (by rfl) (by omega) ?_ ?_
 ·repeat'((conv=>whnf);first|intro _|apply aI|with_reducible exact vM rfl|exact⟨⟩|apply nM|apply fM)
  all_goals((try apply vM);(try simp only[vq]at*);try omega)
  all_goals exact ham
 intro i hi;by_cases hlt:i<gv.length
 ·have hx:=h.gr _ (bL hlt)
  have hsx:=gQ (gv.getD i 0).toNat (by omega)
  have hdel:=qz (JG (l:=gv.take i) hc).inM (show 0≤gv.getD i 0∧gv.getD i 0≤31 by omega)
  rw[Yn,←dF hlt]at hdel
  repeat'((conv=>whnf);first|(intro hq;(try simp only[vw]at hq);try first|exact absurd hq (by decide)|exfalso;omega)|apply aI|with_reducible exact vM rfl|exact⟨⟩|apply nM|apply fM)
  all_goals((try apply vM);(try simp only[vq]at*);try omega)
  all_goals(try omega)
  ·refine⟨i+1,[],⟨by omega,by omega⟩,?_⟩
   repeat'((conv=>whnf);first|intro _|apply aI|with_reducible exact vM rfl|exact⟨⟩|apply nM|apply fM)
   all_goals((try apply vM);(try simp only[vq]at*);try omega)
   all_goals exact hdel
  ·refine⟨i+1,[],⟨by omega,by omega⟩,?_⟩
   rw[dF hlt,Sb (by omega)]
   repeat'((conv=>whnf);first|intro _|apply aI|with_reducible exact vM rfl|exact⟨⟩|apply nM|apply fM)
   all_goals((try apply vM);(try simp only[vq]at*);try omega)
 ·have:i=gv.length:=by omega
  subst this;rw[af5]
  repeat'((conv=>whnf);first|(intro hq;(try simp only[vw]at hq);try first|exact absurd hq (by decide)|exfalso;omega)|apply aI|with_reducible exact vM rfl|exact⟨⟩|apply nM|apply fM)
  all_goals((try apply vM);(try simp only[vq]at*);try omega)
  conv=>whnf
  refine xw (X:=Nat) (fun i=>1≤i∧i≤gv.length) (fun i=>[(36,.int .i64 i)]) (fun i=>[(1,.cells (.pv [.int .i64 c,.isl (.rows .i64 ls) .none,.int .i64 sum,.isl (.ints .i64 gv) .none,.rsl 20 0 i,.rsl 21 0 i]) false),(20,.cells (.ints .u32 (ms (nK c gv (gv.take i)))) false),(21,.cells (.bools (nL (gv.take i))) false)]) (fun i=>gv.length-i) gv.length ⟨aK,mixed,ak,aD,aQ⟩ (by rfl) ?_ ?_
  ·have hx:0≤gv.getD (agt 0) 0∧gv.getD (agt 0) 0≤c:=h.gr _ (bL (show 0<gv.length by omega))
   have hsx:=gQ (gv.getD (agt 0) 0).toNat (by omega)
   have e0:gv.take 1=[gv.getD (agt 0) 0]:=dF (l:=gv) (i:=0) (by omega)
   have ec:∀q:List Int,(if 0<gv.getD (agt 0) 0 then [gv.getD (agt 0) 0]else frL c gv)=q→ms (nK c gv (gv.take 1))=[((mk q:Nat):Int)]:=fun q hq=>by rw[e0,←hq];rfl
   have ed:nL (gv.take 1)=[decide (0<gv.getD (agt 0) 0)]:=by rw[e0];rfl
   have hone:(1:Int)*2 ^ (gv.getD (agt 0) 0).toNat=((mk [gv.getD (agt 0) 0]:Nat):Int):=by rw[mk_one,agb];norm_cast
   repeat'((conv=>whnf);first|(intro hq;(try simp only[vw]at hq);try first|exact absurd hq (by decide)|exfalso;omega)|apply aI|with_reducible exact vM rfl|exact⟨⟩|apply nM|apply fM)
   all_goals((try apply vM);(try simp only[vq]at*);try omega)
   all_goals(try omega)
   ·refine⟨1,[(3,20),(5,21)],⟨⟨by omega,by omega⟩,by omega⟩,?_⟩
    rw[ec _ (if_pos hq),ed]
    repeat'((conv=>whnf);first|intro _|apply aI|with_reducible exact vM rfl|exact⟨⟩|apply nM|apply fM)
    all_goals((try apply vM);(try simp only[vq]at*);try omega)
    all_goals first|(rw[hone];done)|(rw[hone])|skip
   ·refine⟨1,[(3,20),(5,21)],⟨⟨by omega,by omega⟩,by omega⟩,?_⟩
    rw[ec _ (if_neg hq),ed]
    repeat'((conv=>whnf);first|intro _|apply aI|with_reducible exact vM rfl|exact⟨⟩|apply nM|apply fM)
    all_goals((try apply vM);(try simp only[vq]at*);try omega)
  ·intro i ⟨hi1,hi2⟩
   have hbl:(ms (nK c gv (gv.take i))).length=i∧(nL (gv.take i)).length=i:=by
    constructor
    ·rw[bQ];unfold nK;rw[af0,ae0];omega
    ·unfold nL;rw[af0,ae0];omega
   by_cases hlt:i<gv.length
   ·have hx:=h.gr _ (bL hlt)
    have hsx:=gQ (gv.getD i 0).toNat (by omega)
    have e0:=dF hlt;have ec:∀q:List Int,(if 0<gv.getD i 0 then [gv.getD i 0]else frL c gv)=q→ms (nK c gv (gv.take (i+1)))=ms (nK c gv (gv.take i))++[((mk q:Nat):Int)]:=fun q hq=>by
     rw[e0,←hq];unfold nK ms;rw[af4,af4];rfl
    have ed:nL (gv.take (i+1))=nL (gv.take i)++[decide (0<gv.getD i 0)]:=by rw[e0];unfold nL;rw[af4];rfl
    have hone:(1:Int)*2 ^ (gv.getD i 0).toNat=((mk [gv.getD i 0]:Nat):Int):=by rw[mk_one,agb];norm_cast
    repeat'((conv=>whnf);first|(intro hq;(try simp only[vw]at hq);try first|exact absurd hq (by decide)|exfalso;omega)|apply aI|with_reducible exact vM rfl|exact⟨⟩|apply nM|apply fM)
    all_goals((try apply vM);(try simp only[vq]at*);try omega)
    all_goals(try omega)
    ·refine⟨i+1,[(3,20),(5,21)],⟨⟨by omega,by omega⟩,by omega⟩,?_⟩
     rw[ec _ (if_pos hq),ed]
     repeat'((conv=>whnf);first|intro _|apply aI|with_reducible exact vM rfl|exact⟨⟩|apply nM|apply fM)
     all_goals((try apply vM);(try simp only[vq]at*);try omega)
     all_goals first|rw[bP hbl.1,hone]|rw[bP hbl.2]
    ·refine⟨i+1,[(3,20),(5,21)],⟨⟨by omega,by omega⟩,by omega⟩,?_⟩
     rw[ec _ (if_neg hq),ed]
     repeat'((conv=>whnf);first|intro _|apply aI|with_reducible exact vM rfl|exact⟨⟩|apply nM|apply fM)
     all_goals((try apply vM);(try simp only[vq]at*);try omega)
     all_goals first|rw[bP hbl.1]|rw[bP hbl.2]
   ·have:i=gv.length:=by omega
    subst this;rw[af5]at*
    repeat'((conv=>whnf);first|(intro hq;(try simp only[vw]at hq);try first|exact absurd hq (by decide)|exfalso;omega)|apply aI|with_reducible exact vM rfl|exact⟨⟩|apply nM|apply fM)
    all_goals((try apply vM);(try simp only[vq]at*);try omega)
    all_goals skip
def uZ:LSp:=fun xs objs K=>match xs,objs with
 | [.agg [.int .i64 c,.isl (.rows .i64 ls) .none,.int .i64 sum,.isl (.ints .i64 gv) .none]],[]=>VC (dR c ls sum gv)∧K [.rp 0 0] (bdO c ls sum gv (bgn c gv) gv.length)
 |_,_=>False
theorem yj:LOK Tryz.prog 86 uZ:=by
 intro xs objs K hk;unfold uZ at hk;split at hk
 ·exact⟨_,_,hk.2,MC _ _ _ _ hk.1.get⟩
 ·exact hk.elim
theorem wP {l:List Int} {k i:Nat} (hk:k<i) (hi:i≤l.length):l.getD k 0∈l.take i:=by
 rw[iG];exact⟨k,by rw[ae0];omega,by simp[aeo,List.getElem?_take,hk]⟩
theorem JH {c:Int} {ls:List (List Int)} {sum:Int} {gv:List Int}:rX c ls sum gv=if gG c ls≠0 then gG c ls else if sum< -999999999∨999999999<sum then 3 else if(gv.length:Int)≠c then 2 else 0:=by
 unfold rX;simp only[aG]
 (repeat' split)<;>simp_all
noncomputable def ada:CPT:=aA 51 (aB Au) noC
theorem AU:aW Tryz.prog ada:=aj (au Pd) aD
theorem Sc (c:Int) (ls:List (List Int)) (sum:Int) (gv:List Int) (h:bH ls) (hg:gv.length≤5000):aF Tryz.prog 18 [pzV c ls sum gv] (.int .i64 (pzE c ls sum gv)):=by
 obtain⟨E,hE⟩:∃E,rX c ls sum gv=E:=⟨_,rfl⟩;have hE0:=JH (c:=c) (ls:=ls) (sum:=sum) (gv:=gv);unfold pzE;rw[hE]at hE0⊢;refine av (md:=1) (rf:=[]) mixed ak AU Tryz.func18 (by rfl) (by rfl) (by rfl) ?_
 repeat'((conv=>whnf);first|(intro hq;(try simp only[vw]at hq);try first|exact absurd hq (by decide)|exfalso;omega)|apply aI|with_reducible exact vM rfl|exact⟨⟩|apply nM|apply fM)
 all_goals((try apply vM);(try simp only[vq]at*);try omega)
 all_goals first|exact h|skip
 ·rw[if_pos hq]at hE0
  rw[hE0,if_pos hq];exact Sup.of rfl
 ·rename_i h1 h2
  rw[if_neg h1,if_pos (.inr hq)]at hE0;rw[hE0];exact Sup.of rfl
 ·rename_i h1 h2 h3
  rw[if_neg h1,if_neg (by omega),if_pos hq]at hE0
  rw[hE0];exact Sup.of rfl
 rotate_left
 ·rename_i h1
  rw[if_neg h1,if_pos (.inl hq)]at hE0;rw[hE0];exact Sup.of rfl
 rename_i h1 h2 h3;rw[if_neg h1,if_neg (by omega),if_neg hq]at hE0
 rw[hE0,if_neg (by simp)]
 conv=>whnf
 refine aM (X:=Nat) (fun i=>i≤gv.length∧∀j,j<i→gvE c gv j=0) (fun i=>[(4,.int .i64 i)]) (fun i=>[]) (fun i=>gv.length-i) 0 ⟨aK,mixed,ak,AU,aQ⟩ (by rfl) ⟨by omega,fun j hj=>by omega⟩ ?_ ?_
 ·repeat'((conv=>whnf);first|intro _|apply aI|with_reducible exact vM rfl|exact⟨⟩|apply nM|apply fM)
  all_goals((try apply vM);(try simp only[vq]at*);try omega)
 intro i ⟨hi,hok⟩;by_cases hlt:i<gv.length
 ·have eS:gvE c gv i=if gv.getD i 0<0∨c<gv.getD i 0 then 3 else if 0<gv.getD i 0∧gv.getD i 0∈gv.take i then 9 else 0:=rfl
  have fin:∀e,gvE c gv i=e→e≠0→cO (gvE c gv) gv.length=e:=fun e a1 a2=>(dY hlt (by rw[a1];exact a2) hok).trans a1
  have nxt:gvE c gv i=0→∀j,j<i+1→gvE c gv j=0:=fun a j hj=>by
   by_cases e:j=i
   ·subst e;exact a
   ·exact hok j (by omega)
  repeat'((conv=>whnf);first|(intro hq;(try simp only[vw]at hq);try first|exact absurd hq (by decide)|exfalso;omega)|apply aI|with_reducible exact vM rfl|exact⟨⟩|apply nM|apply fM)
  all_goals((try apply vM);(try simp only[vq]at*);try omega)
  ·refine Sup.of (congrArg (PV.int .i64) (fin _ ?_ ?_).symm)
   ·rw[eS,if_pos (.inr hq)]
   ·omega
  ·conv=>whnf
   refine aM (X:=Nat) (fun k=>k≤i∧(0<gv.getD i 0→gv.getD i 0∉gv.take k)) (fun k=>[(5,.int .i64 k)]) (fun k=>[]) (fun k=>i-k) 0 ⟨aK,mixed,ak,AU,aQ⟩ (by rfl) ⟨by omega,fun _=>by simp⟩ ?_ ?_
   ·repeat'((conv=>whnf);first|intro _|apply aI|with_reducible exact vM rfl|exact⟨⟩|apply nM|apply fM)
    all_goals((try apply vM);(try simp only[vq]at*);try omega)
   intro k ⟨hk,hok2⟩;by_cases hlk:k<i
   ·repeat'((conv=>whnf);first|(intro hq;(try simp only[vw]at hq);try first|exact absurd hq (by decide)|exfalso;omega)|apply aI|with_reducible exact vM rfl|exact⟨⟩|apply nM|apply fM)
    all_goals((try apply vM);(try simp only[vq]at*);try omega)
    ·refine Sup.of (congrArg (PV.int .i64) (fin _ ?_ ?_).symm)
     ·rw[eS,if_neg (by omega),if_pos ⟨by assumption,by rw[←hq];exact wP hlk hi⟩]
     ·omega
    ·refine⟨k+1,[],⟨⟨by omega,fun h hm=>?_⟩,by omega⟩,?_⟩
     ·rcases(nJ gv _ k (by omega)).1 hm with h1|h1
      ·exact hok2 h h1
      ·exact hq h1.symm
     repeat'((conv=>whnf);first|intro _|apply aI|with_reducible exact vM rfl|exact⟨⟩|apply nM|apply fM)
     all_goals((try apply vM);(try simp only[vq]at*);try omega)
    ·refine⟨k+1,[],⟨⟨by omega,fun h hm=>absurd h hq⟩,by omega⟩,?_⟩
     repeat'((conv=>whnf);first|intro _|apply aI|with_reducible exact vM rfl|exact⟨⟩|apply nM|apply fM)
     all_goals((try apply vM);(try simp only[vq]at*);try omega)
   ·have:k=i:=by omega
    subst this
    repeat'((conv=>whnf);first|(intro hq;(try simp only[vw]at hq);try first|exact absurd hq (by decide)|exfalso;omega)|apply aI|with_reducible exact vM rfl|exact⟨⟩|apply nM|apply fM)
    all_goals((try apply vM);(try simp only[vq]at*);try omega)
    refine⟨k+1,[],⟨⟨by omega,nxt ?_⟩,by omega⟩,?_⟩
    ·rw[eS,if_neg (by omega),if_neg (fun h=>hok2 h.1 h.2)]
    repeat'((conv=>whnf);first|intro _|apply aI|with_reducible exact vM rfl|exact⟨⟩|apply nM|apply fM)
    all_goals((try apply vM);(try simp only[vq]at*);try omega)
  ·refine Sup.of (congrArg (PV.int .i64) (fin _ ?_ ?_).symm)
   ·rw[eS,if_pos (.inl hq)]
   ·omega
 ·have:gv.length=i:=by omega
  rw[fO (n:=gv.length) (by rw[this];exact hok)]
  repeat'((conv=>whnf);first|intro _|apply aI|with_reducible exact vM rfl|exact⟨⟩|apply nM|apply fM)
  all_goals((try apply vM);(try simp only[vq]at*);try omega)
  exact Sup.of rfl
def ME:PSp:=fun xs K=>match xs with
 | [.agg [.int .i64 c,.isl (.rows .i64 ls) .none,.int .i64 sum,.isl (.ints .i64 gv) .none]]=>VC (bH ls∧gv.length≤5000)∧K (.int .i64 (pzE c ls sum gv))
 |_=>False
theorem Px:POK Tryz.prog 18 ME:=by
 intro xs K h;unfold ME at h;split at h
 ·exact⟨_,h.2,Sc _ _ _ _ h.1.get.1 h.1.get.2⟩
 ·exact h.elim
def AV (p:List Int) (i:Nat):Int:=if p.getD i 0<0∨p.length≤p.getD i 0∨p.getD i 0∈p.take i then 14 else 0
def rZ (e1:Int) (p:List Int):Int:=if 256<p.length then e1 else cO (AV p) p.length
def jT (p:List Int) (i:Nat):List Bool:=(ael p.length).map fun x:Nat=>decide ((x:Int)∈p.take i)
theorem Py (p:List Int) (i:Nat):(jT p i).length=p.length:=by simp[jT]
theorem Sd (p:List Int) (i:Nat) (x:Int) (h:0≤x∧x<p.length):(jT p i).getD x.toNat false=decide (x∈p.take i):=by
 have:x.toNat<p.length:=by omega
 simp[jT,aeo,this,show max x 0=x by omega]
theorem MF (p:List Int):List.replicate p.length false=jT p 0:=by
 refine agW (by simp[jT]) fun j h1 h2=>by simp[jT]
theorem MG (p:List Int) (i:Nat) (hi:i<p.length) (h:0≤p.getD i 0∧p.getD i 0<p.length):(jT p i).set (p.getD i 0).toNat true=jT p (i+1):=by
 refine agW (by simp[jT]) fun j h1 h2=>?_
 rw[agX];have hj:j<p.length:=by simpa [jT]using h1
 simp only[jT,agY,agZ,nJ p _ i hi];by_cases e:(p.getD i 0).toNat=j
 ·rw[if_pos e];exact(decide_eq_true (.inr (by omega))).symm
 ·rw[if_neg e]
  have:¬((j:Int)=p.getD i 0):=by omega
  simp only[this,or_false]
theorem Pz (p:List Int) (hp:p.length≤5000):aF Tryz.prog 123 [.isl (.ints .i64 p) .none] (.int .i64 (rZ 5 p)):=by
 unfold rZ;refine av (md:=1) (rf:=[]) mixed ak aD Tryz.func123 (by rfl) (by rfl) (by rfl) ?_
 repeat'((conv=>whnf);first|(intro hq;(try simp only[vw]at hq);try first|exact absurd hq (by decide)|exfalso;omega)|apply aI|with_reducible exact vM rfl|exact⟨⟩|apply nM|apply fM)
 all_goals((try apply vM);(try simp only[vq]at*);try omega)
 ·rw[if_pos (by omega)];exact Sup.of rfl
 rw[if_neg (by omega)]
 conv=>whnf
 refine aM (X:=Nat) (fun i=>i≤p.length∧∀j,j<i→AV p j=0) (fun i=>[(14,.int .i64 i)]) (fun i=>[(0,.cells (.bools (jT p i)) false)]) (fun i=>p.length-i) 0 ⟨aK,mixed,ak,aD,aQ⟩ (by rfl) ⟨by omega,fun j hj=>by omega⟩ ?_ ?_
 ·repeat'((conv=>whnf);first|intro _|apply aI|with_reducible exact vM rfl|exact⟨⟩|apply nM|apply fM)
  all_goals((try apply vM);(try simp only[vq]at*);try omega)
  all_goals exact MF p
 intro i ⟨hi,hok⟩;have hsl:=Py p i;by_cases hlt:i<p.length
 ·have eS:AV p i=if p.getD i 0<0∨p.length≤p.getD i 0∨p.getD i 0∈p.take i then 14 else 0:=rfl
  have eA:=Sd p i (p.getD i 0);have fin:∀e,AV p i=e→e≠0→cO (AV p) p.length=e:=fun e a1 a2=>(dY hlt (by rw[a1];exact a2) hok).trans a1
  repeat'((conv=>whnf);first|(intro hq;(try simp only[vw]at hq);try first|exact absurd hq (by decide)|exfalso;omega)|apply aI|with_reducible exact vM rfl|exact⟨⟩|apply nM|apply fM)
  all_goals((try apply vM);(try simp only[vq]at*);try omega)
  all_goals(try(rw[hsl];omega))
  ·rw[eA (by omega),decide_eq_true_eq]at hq
   refine Sup.of (congrArg (PV.int .i64) (fin _ ?_ (by omega)).symm)
   rw[eS,if_pos (.inr (.inr hq))]
  ·rw[eA (by omega),decide_eq_false_iff_not]at hq
   refine⟨i+1,[],⟨⟨by omega,fun j hj=>?_⟩,by omega⟩,?_⟩
   ·by_cases e:j=i
    ·subst e;rw[eS,if_neg (by rintro(h|h|h);omega;omega;exact hq h)]
    ·exact hok j (by omega)
   repeat'((conv=>whnf);first|intro _|apply aI|with_reducible exact vM rfl|exact⟨⟩|apply nM|apply fM)
   all_goals((try apply vM);(try simp only[vq]at*);try omega)
   all_goals exact MG p i hlt (by omega)
  ·refine Sup.of (congrArg (PV.int .i64) (fin _ ?_ (by omega)).symm)
   rw[eS,if_pos (.inr (.inl hq))]
  ·refine Sup.of (congrArg (PV.int .i64) (fin _ ?_ (by omega)).symm)
   rw[eS,if_pos (.inl hq)]
 ·have:p.length=i:=by omega
  rw[fO (n:=p.length) (by rw[this];exact hok)]
  repeat'((conv=>whnf);first|(intro hq;(try simp only[vw]at hq);try first|exact absurd hq (by decide)|exfalso;omega)|apply aI|with_reducible exact vM rfl|exact⟨⟩|apply nM|apply fM)
  all_goals((try apply vM);(try simp only[vq]at*);try omega)
  exact Sup.of rfl
def MH:PSp:=fun xs K=>match xs with
 | [.isl (.ints .i64 p) .none]=>VC (p.length≤5000)∧K (.int .i64 (rZ 5 p))
 |_=>False
theorem Yo:POK Tryz.prog 123 MH:=by
 intro xs K h;unfold MH at h;split at h
 ·exact⟨_,h.2,Pz _ h.1.get⟩
 ·exact h.elim
theorem JI {l:List Int} {i:Nat} (h:i<l.length):l.getD i 0=l[i]:=by rw[aeo,aev h];rfl
theorem qo {l:List Int} (h:∀k,0<k→k<l.length→l.getD (k-1) 0<l.getD k 0):l.Pairwise (·< ·):=by
 have key:∀d i,i+d+1<l.length→l.getD i 0<l.getD (i+d+1) 0:=by
  intro d;induction d with
  |zero=>intro i hi;have:=h (i+1) (by omega) hi;simpa using this
  |succ d ih=>
   intro i hi;have h1:=ih i (by omega)
   have h2:=h (i+(d+1)+1) (by omega) hi
   rw[show i+(d+1)+1-1=i+d+1 by omega]at h2
   omega
 rw[List.pairwise_iff_getElem];intro i j hi hj hij;have:=key (j-i-1) i (by omega)
 rw[show i+(j-i-1)+1=j by omega,JI hi,JI hj]at this
 exact this
theorem FY {l:List Int} {c:Int} (hp:l.Pairwise (·< ·)) (hr:∀x∈l,0≤x∧x<c) (hc:0≤c):(l.length:Int)≤c:=by
 have:=Fj l (-1) (c-1) hp (fun x hx=>by have:=hr x hx;omega) (by omega)
 omega
theorem dR.of {c:Int} {ls:List (List Int)} {sum:Int} {gv:List Int} (h:pzE c ls sum gv=0):dR c ls sum gv:=by
 unfold pzE at h;have h0:rX c ls sum gv=0:=by
  by_cases e:rX c ls sum gv=0
  ·exact e
  ·rw[if_pos e]at h;exact h
 rw[if_neg (by rw[h0];simp)]at h
 have hg:=fP h;rw[JH]at h0;have hb:gG c ls=0:=by
  by_cases e:gG c ls=0
  ·exact e
  ·rw[if_pos e]at h0;exact h0
 rw[if_neg (by rw[hb];simp)]at h0
 have hs:¬(sum< -999999999∨999999999<sum):=fun e=>by rw[if_pos e]at h0;cases h0
 rw[if_neg hs]at h0;have hl:(gv.length:Int)=c:=by
  by_cases e:(gv.length:Int)=c
  ·exact e
  ·rw[if_pos e]at h0;cases h0
 unfold gG at hb;simp only[aG]at hb;have hsy:iX c ls=0:=by
  by_cases e:iX c ls=0
  ·exact e
  ·rw[if_neg e]at hb;exact absurd hb e
 rw[if_pos hsy]at hb;have hc16:¬16<c:=fun e=>by rw[if_pos e]at hb;simp at hb
 rw[if_neg hc16,if_pos rfl]at hb;have hls:ls.length≠0:=fun e=>by rw[if_pos e]at hb;simp at hb
 unfold iX at hsy;have hcr:¬(c<1∨256<c):=fun e=>by rw[if_pos e]at hsy;cases hsy
 rw[if_neg hcr]at hsy;have hln:¬128<ls.length:=fun e=>by rw[if_pos e]at hsy;cases hsy
 rw[if_neg hln]at hsy;have hlE:=fP hsy;refine⟨by omega,by omega,fun i hi=>?_,by omega,hl,fun x hx=>?_,fun i j hij hj hpos e=>?_⟩
 ·have hL:=hlE i hi
  unfold iW at hL;have hne:¬(ls.getD i []).length=0:=fun e=>by rw[if_pos e]at hL;cases hL
  rw[if_neg hne]at hL;have hst:cO (bT c (ls.getD i [])) (ls.getD i []).length=0:=by
   by_cases e:cO (bT c (ls.getD i [])) (ls.getD i []).length=0
   ·exact e
   ·rw[if_pos e]at hL;exact hL
  have hst:=fP hst;have hk:∀k,k<(ls.getD i []).length→(0≤(ls.getD i []).getD k 0∧(ls.getD i []).getD k 0<c)∧(0<k→(ls.getD i []).getD (k-1) 0<(ls.getD i []).getD k 0):=fun k hk=>by
   have:=hst k hk;unfold bT at this;have h1:¬((ls.getD i []).getD k 0<0∨c≤(ls.getD i []).getD k 0):=fun e=>by rw[if_pos e]at this;cases this
   rw[if_neg h1]at this;refine⟨by omega,fun h0=>?_⟩
   have h2:¬(0<k∧(ls.getD i []).getD k 0≤(ls.getD i []).getD (k-1) 0):=fun e=>by rw[if_pos e]at this;cases this
   omega
  have hr:∀x∈ls.getD i [],0≤x∧x<c:=fun x hx=>by
   obtain⟨k,h1,rfl⟩:=(iG _ x).1 hx;exact(hk k h1).1
  have hp:=qo fun k h0 h1=>(hk k h1).2 h0;have:=FY hp hr (by omega)
  exact⟨by omega,by omega,hr,hp⟩
 ·obtain⟨i,h1,rfl⟩:=(iG _ x).1 hx
  have:=hg i h1;unfold gvE at this;have h2:¬(gv.getD i 0<0∨c<gv.getD i 0):=fun e=>by rw[if_pos e]at this;cases this
  omega
 ·have:=hg j hj
  unfold gvE at this;have h2:¬(gv.getD j 0<0∨c<gv.getD j 0):=fun e=>by rw[if_pos e]at this;cases this
  rw[if_neg h2,if_pos ⟨hpos,by rw[←e];exact wP hij (by omega)⟩]at this
  cases this
def StI (s:St):Prop:=∀i j,i<s.cs.length→j<s.cs.length→i≠j→s.dc i=true→hd0 (s.cd i)∉s.cd j
theorem pq {l:List Int} {x y:Int}:y∈dQ l x↔y∈l∧y≠x:=by unfold dQ;rw[agh];simp
theorem Ci {l:List Int} {x:Int} (h:x∉l):dQ l x=l:=by
 unfold dQ;rw[aha];intro y hy;have:y≠x:=fun e=>h (e▸hy);simp[this]
theorem AX {g:Nat} {s:St} {y x:Int}:(apl g s y x).cs.length=s.cs.length∧(apl g s y x).ds.length=s.ds.length:=by
 unfold apl;split<;>simp
theorem aaZ {g:Nat} {s:St} {y x:Int} (hy:y.toNat<s.ds.length) (i:Nat):(apl g s y x).dc i=if g≤3∧i=y.toNat then true else s.dc i:=by
 unfold apl St.dc;by_cases hg:g≤3
 ·rw[if_pos hg]
  by_cases e:i=y.toNat
  ·subst e;simp[hg,aeo,hy]
  ·rw[if_neg (fun h=>e h.2)]
   simp[aeo,aeQ (Ne.symm e)]
 ·rw[if_neg hg,if_neg (fun h=>hg h.1)]
theorem aa0 {g:Nat} {s:St} {y x:Int} (hy:y.toNat<s.cs.length) (i:Nat) (hi:i<s.cs.length):(apl g s y x).cd i=if g≤3 then(if i=y.toNat then [x]else dQ (s.cd i) x)else if i=y.toNat then dQ (s.cd i) x else s.cd i:=by
 unfold apl St.cd;by_cases hg:g≤3
 ·rw[if_pos hg,if_pos hg]
  by_cases e:i=y.toNat
  ·subst e;simp[aeo,hy]
  ·rw[if_neg e]
   simp[aeo,aeQ (Ne.symm e),ahb (Ne.symm e),hi]
 ·rw[if_neg hg,if_neg hg]
  by_cases e:i=y.toNat
  ·subst e;simp[aeo,hy]
  ·rw[if_neg e]
   simp[aeo,aeQ (Ne.symm e),ahb (Ne.symm e),hi]
theorem FZ {c:Int} {ls:List (List Int)} {sum:Int} {s:St} (h:bO c ls sum s) (hI:StI s) {g:Nat} {y x:Int} (hy:0≤y∧y<c) (hx:1≤x∧x≤c) (hd:s.dc y.toNat=false) (hm:x∈s.cd y.toNat):
 bO c ls sum (apl g s y x)∧StI (apl g s y x):=by
 have hc:=h.c1;obtain⟨hyc,hyd⟩:=h.at hy;have hln:=AX (g:=g) (s:=s) (y:=y) (x:=x);have cdi:=fun i hi=>aa0 (g:=g) (x:=x) hyc i hi;have dci:=fun i=>aaZ (g:=g) (s:=s) (x:=x) hyd i;have hnot:∀i,i<s.cs.length→s.dc i=true→x∉s.cd i:=fun i hi hdi hxi=>by
  have h1:=h.dec i hi hdi;obtain⟨z,hz⟩:=List.length_eq_one_iff.1 h1;rw[hz,agL]at hxi;have hne:i≠y.toNat:=fun e=>by rw[e,hd]at hdi;cases hdi
  have:=hI i y.toNat hi hyc hne hdi;rw[hz]at this;exact this (by rw[hxi]at hm;exact hm)
 refine⟨⟨hc,h.ll,h.ln,h.sm,by rw[hln.1];exact h.cl,by rw[hln.2];exact h.dl,fun i hi=>?_,fun i hi hdi=>?_⟩,fun i j hi hj hij hdi=>?_⟩
 ·rw[hln.1]at hi
  rw[cdi i hi];have hA:=h.asc i hi;split
  ·split
   ·exact⟨.one (by omega),fun z hz=>by rw[agL.1 hz];omega⟩
   ·exact⟨hA.1.out x,fun z hz=>hA.2 z (pq.1 hz).1⟩
  ·split
   ·exact⟨hA.1.out x,fun z hz=>hA.2 z (pq.1 hz).1⟩
   ·exact hA
 ·rw[hln.1]at hi
  rw[dci i]at hdi;rw[cdi i hi];split
  ·rename_i hg
   split
   ·rfl
   ·rename_i hne
    rw[if_neg (fun e=>hne e.2)]at hdi;rw[Ci (hnot i hi hdi)];exact h.dec i hi hdi
  ·rename_i hg
   rw[if_neg (fun e=>hg e.1)]at hdi;split
   ·rename_i e
    rw[e,hd]at hdi;cases hdi
   ·exact h.dec i hi hdi
 ·rw[hln.1]at hi hj
  rw[dci i]at hdi;rw[cdi i hi,cdi j hj];by_cases hg:g≤3
  ·rw[if_pos hg,if_pos hg]
   by_cases ei:i=y.toNat
   ·rw[if_pos ei,if_neg (fun e=>hij (ei.trans e.symm))]
    exact fun hz=>(pq.1 hz).2 rfl
   ·rw[if_neg (fun e=>ei e.2)]at hdi
    rw[if_neg ei,Ci (hnot i hi hdi)];have h1:=hI i j hi hj hij hdi;by_cases ej:j=y.toNat
    ·rw[if_pos ej,agL]
     have h2:=h.dec i hi hdi;have h3:=vZ (l:=s.cd i) (by omega)
     exact fun e=>hnot i hi hdi (e▸h3)
    ·rw[if_neg ej]
     exact fun hz=>h1 (pq.1 hz).1
  ·rw[if_neg hg,if_neg hg]
   rw[if_neg (fun e=>hg e.1)]at hdi;have ei:i≠y.toNat:=fun e=>by rw[e,hd]at hdi;cases hdi
   rw[if_neg ei];have h1:=hI i j hi hj hij hdi;split
   ·exact fun hz=>h1 (pq.1 hz).1
   ·exact h1
theorem PD {c:Int} {gv:List Int} {i:Nat} (hi:i<gv.length):(bgn c gv).cd i=if 0<gv.getD i 0 then [gv.getD i 0]else frL c gv:=by
 simp[bgn,nK,St.cd,aeo,hi]
theorem aa1 {c:Int} {gv:List Int} {i:Nat} (hi:i<gv.length):(bgn c gv).dc i=decide (0<gv.getD i 0):=by
 simp[bgn,nL,St.dc,aeo,hi]
theorem jU {c:Int} {gv:List Int}:(bgn c gv).cs.length=gv.length∧(bgn c gv).ds.length=gv.length:=by simp[bgn,nK,nL]
theorem AY {c:Int} {ls:List (List Int)} {sum:Int} {gv:List Int} (h:dR c ls sum gv):StI (bgn c gv):=by
 have hc:=h.c1;intro i j hi hj hij hd;rw[jU.1]at hi hj;rw[aa1 hi,decide_eq_true_eq]at hd;rw[PD hi,if_pos hd,PD hj];have e:hd0 [gv.getD i 0]=gv.getD i 0:=rfl;rw[e];split
 ·rename_i hp
  rw[agL];intro he;rcases Nat.lt_or_ge i j with h1|h1
  ·exact h.gd i j h1 hj hp he
  ·exact h.gd j i (by omega) hi hd he.symm
 ·intro hm
  exact((AQ (by omega)).1 hm).2 (bL hi)
def u6:List Bool→Nat
 | []=>0
 |b::r=>(if b then 0 else 1)+u6 r
def j5:List (List Int)→Nat
 | []=>0
 |l::r=>l.length+j5 r
def muS (s:St):Nat:=j5 s.cs+u6 s.ds
theorem Si:∀(l:List Bool) (i:Nat),i<l.length→l.getD i false=false→u6 (l.set i true)+1=u6 l:=by
 intro l;induction l with
 |nil=>intro i hi;simp at hi
 |cons b r ih=>
  intro i hi hb;cases i with
  |zero=>simp at hb;subst hb;simp[u6];omega
  |succ i=>
   have:=ih i (by simpa using hi) (by simpa using hb)
   simp only[ahc,u6];omega
theorem F3:∀(l:List (List Int)) (i:Nat) (x:List Int),i<l.length→j5 (l.set i x)+(l.getD i []).length=j5 l+x.length:=by
 intro l;induction l with
 |nil=>intro i x hi;simp at hi
 |cons b r ih=>
  intro i x hi;cases i with
  |zero=>simp[j5];omega
  |succ i=>
   have:=ih i x (by simpa using hi)
   simp only[ahc,j5,List.getD_cons_succ];omega
theorem F4 (l:List Int) (x:Int):(dQ l x).length≤l.length:=agM _ _
theorem JJ {l:List Int} {x:Int} (h:x∈l):(dQ l x).length<l.length:=by
 unfold dQ;rw[List.length_filter_lt_length_iff_exists];exact⟨x,h,by simp⟩
theorem Sj (f:List Int→List Int) (hf:∀l,(f l).length≤l.length):∀l,j5 (l.map f)≤j5 l:=by
 intro l;induction l with
 |nil=>exact aea _
 |cons a r ih=>simp only[aen,j5];have:=hf a;omega
theorem aa2 {g:Nat} {s:St} {y x:Int} (hy:y.toNat<s.cs.length) (hyd:y.toNat<s.ds.length) (hd:s.dc y.toNat=false) (hm:x∈s.cd y.toNat):muS (apl g s y x)<muS s:=by
 unfold muS apl;split
 ·have h1:=Si s.ds y.toNat hyd hd
  have h2:=F3 (s.cs.map fun l=>dQ l x) y.toNat [x] (by simpa using hy)
  have h3:((s.cs.map fun l=>dQ l x).getD y.toNat [])=dQ (s.cd y.toNat) x:=by unfold St.cd;simp[aeo,hy]
  have h4:j5 (s.cs.map fun l=>dQ l x)+1≤j5 s.cs:=by
   have key:∀(l:List (List Int)) (i:Nat),i<l.length→x∈l.getD i []→j5 (l.map fun l=>dQ l x)+1≤j5 l:=by
    intro l;induction l with
    |nil=>intro i hi;simp at hi
    |cons a r ih=>
     intro i hi hx;simp only[aen,j5];cases i with
     |zero=>
      have q1:=JJ (l:=a) (x:=x) (by simpa using hx)
      have q2:=Sj (fun l=>dQ l x) (fun l=>F4 l x) r;omega
     |succ i=>
      have q1:=F4 a x;have q2:=ih i (by simpa using hi) (by simpa using hx)
      omega
   exact key s.cs y.toNat hy hm
  simp only[List.length_singleton]at h2;simp only;omega
 ·have h2:=F3 s.cs y.toNat (dQ (s.cd y.toNat) x) hy
  have h3:=JJ hm;unfold St.cd at h2 h3⊢;simp only;omega
theorem aa3 {c:Int} {ls:List (List Int)} {sum:Int} {s:St} (h:bO c ls sum s):muS s≤272:=by
 have hc:=h.c1;have hcl:=h.cl;have hdl:=h.dl;have h1:∀(l:List (List Int)),(∀a∈l,a.length≤16)→j5 l≤16*l.length:=by
  intro l;induction l with
  |nil=>intro _;exact aea _
  |cons a r ih=>
   intro hl;have:=hl a (by simp)
   have:=ih fun b hb=>hl b (by simp[hb])
   simp only[j5,ad4];omega
 have h2:∀(l:List Bool),u6 l≤l.length:=by
  intro l;induction l with
  |nil=>exact aea _
  |cons a r ih=>simp only[u6,ad4];split<;>omega
 have h3:=h1 s.cs fun a ha=>by
  obtain⟨j,hj,rfl⟩:=aeu ha;have:=Ap (h.asc j hj).1;unfold St.cd at this;rw[aeo,aev hj]at this;exact this
 have h4:=h2 s.ds;unfold muS;omega
def pz (c:Int) (ls:List (List Int)) (sum:Int) (n:Nat):Nat→St→List Dd→List Dd × St × Int
 |0,s,l=>(l,s,0)
 |f+1,s,l=>if brk c ls sum s then([],s,21)else if don s then(l,s,0)else match iH s sum ls n with
  |none=>(l,s,23)
  |some d=>pz c ls sum n f (apl d.g s d.y d.x) (l++[d])
def sol (c:Int) (ls:List (List Int)) (sum:Int) (gv:List Int) (n:Nat):List Dd × St × Int:=pz c ls sum n 273 (bgn c gv) []
theorem PE {c:Int} {ls:List (List Int)} {sum:Int} {s:St} (h:bO c ls sum s) {n:Nat} (hn:n≤5) {d:Dd} (hf:iH s sum ls n=some d):
 l9 c ls (nmG d.g) d.y d.x d.k∧aP (nmG d.g)=d.g∧s.dc d.y.toNat=false∧d.x∈s.cd d.y.toNat:=by
 obtain⟨g,g1,g2,hm⟩:=FW hf;rw[FV]at hm;obtain⟨h1,h2,h3,h4⟩:=hm;have hcl:=h.cl;have hg:aP (nmG d.g)=d.g:=by
  rw[h1];have:=pV;obtain rfl|rfl|rfl|rfl|rfl:g=1∨g=2∨g=3∨g=4∨g=5:=by omega
  all_goals first|exact this.1|exact this.2.1|exact this.2.2.1|exact this.2.2.2.1|exact this.2.2.2.2
 unfold okJ at h4;simp only[aeA,ag8,decide_eq_true_eq]at h4;have hA:=h.asc d.y.toNat (by omega)
 refine⟨⟨by rw[hg];omega,by omega,?_,?_⟩,hg,h4.1,h4.2.1⟩
 ·have:=hA.1.rng _ h4.2.1;have:=hA.2 _ h4.2.1;omega
 ·rw[hg,h1]
  cases hl:lnG g with
  |true=>rw[hl]at h3;exact .inr (.inr h3.1)
  |false=>
   obtain rfl|rfl|rfl|rfl|rfl:g=1∨g=2∨g=3∨g=4∨g=5:=by omega
   all_goals first|(cases hl;done)|exact .inl rfl|exact .inr (.inl rfl)
def u7:LSp:=fun xs objs K=>match xs,objs with
 | [.rp 0 0,.agg [.str r,.int .i64 y,.int .i64 x,.int .i64 k]],[.cells (.pv [.int .i64 c,.isl (.rows .i64 ls) .none,.int .i64 sum,.isl (.ints .i64 gv) .none,.rsl 1 0 n,.rsl 2 0 m]) false,.cells (.ints .u32 M) false,.cells (.bools D) false]=>
  ∃s:St,VC (M=ms s.cs∧D=s.ds∧bO c ls sum s∧n=s.cs.length∧m=n∧l9 c ls r y x k)∧K [] (bdO c ls sum gv (apl (aP r).toNat s y x) n)
 |_,_=>False
theorem yt:LOK Tryz.prog 128 u7:=by
 intro xs objs K hk;unfold u7 at hk;split at hk
 ·obtain⟨s,⟨rfl,rfl,h,h1,rfl,h2⟩,hk⟩:=hk
  exact⟨_,_,hk,Mv _ _ _ _ s _ h h1 _ _ _ _ h2⟩
 ·exact hk.elim
abbrev ddC (d:Dd):List PV:=[.str (nmG d.g),.int .i64 d.y,.int .i64 d.x,.int .i64 d.k]
def dd0:Dd:=⟨0,0,0,0⟩
abbrev dlC (l:List Dd):CL:=.genr 4 l.length fun i=>ddC (l.getD i dd0)
theorem PG (l:List Dd) (t:Tok):Sup (.isl (.recs 4 (l.map ddC)) t) (.isl (dlC l) .none):=⟨fun{S w ι v} hr=>by
 have hn:(CL.recs 4 (l.map ddC)).ncell=(dlC l).ncell:=by simp[CL.ncell]
 have hc:(CL.recs 4 (l.map ddC)).cnt=(dlC l).cnt:=by simp[CL.cnt]
 have hg:∀j,j<(dlC l).ncell→(CL.recs 4 (l.map ddC)).get j=(dlC l).get j:=fun j hj=>by
  simp only[CL.ncell]at hj;have:j / 4<l.length:=by omega
  simp only[CL.get];rw[aeo,ae7,aeo,aev this];rfl
 cases hr with
 |islnil _ _ _ h=>exact .islnil _ _ _ (by rw[←hc];exact h)
 |isl _ _ _ b off cap h1 h2 h3 h4 h5=>
  rw[hc];exact .isl _ _ _ _ _ _ (by rw[←hc];exact h1) (fun j hj=>h2 j (by rw[hn];exact hj)) (fun j hj=>by rw[←hg j hj];exact h3 j (by rw[hn];exact hj)) (fun h=>by cases h) (fun k h=>by cases h)⟩
theorem AZ {us ws:List PV} (hl:us.length=ws.length) (h:∀i,i<us.length→Sup (aC us i) (aC ws i)):Sup (.tup us) (.tup ws):=⟨fun hr=>by
 cases hr with
 |tup _ _ vs hv hh=>exact .tup _ _ _ (hl.symm.trans hv) fun i hi=>(h i (by omega)).get (hh i (by omega))⟩
theorem mg (p:PV):Sup p p:=⟨fun h=>h⟩
def r9 (c:Int) (ls:List (List Int)) (sum:Int) (gv:List Int) (r:List Dd × St × Int):PV:=
 if r.2.2=21 then .tup [.isl (dlC []) .none,.nilp,.int .i64 21]else .tup [.isl (dlC r.1) .none,bdV c ls sum gv r.2.1,.int .i64 r.2.2]
noncomputable def adb:CPT:=aA 86 (dP [] uZ) (aA 90 (gM (nY brk)) (aA 91 (gM (nY fun _ _ _ s=>don s)) (aA 92 (gM qE) (aA 128 (dP [] u7) noC))))
theorem JK:aW Tryz.prog adb:=aj (cu [] yj) (aj (eB uR) (aj (eB JB) (aj (eB uX) (aj (cu [] yt) aD))))
structure SoX where
 f:Nat
 s:St
 l:List Dd
theorem MI (c:Int) (ls:List (List Int)) (sum:Int) (gv:List Int) (h:dR c ls sum gv) (n:Nat) (hn:n≤5):aF Tryz.prog 99 [pzV c ls sum gv,.int .i64 (n:Int)] (r9 c ls sum gv (sol c ls sum gv n)):=by
 have hgl:=h.gl;refine eD (md:=1) (rf:=[]) mixed ak JK Tryz.func99 (by rfl) (by rfl) (by rfl) ?_
 repeat'((conv=>whnf);first|intro _|apply aI|with_reducible exact vM rfl|exact⟨⟩|apply nM|apply fM)
 all_goals((try apply vM);(try simp only[vq]at*);try omega)
 conv=>whnf
 refine aM (X:=SoX) (fun x=>bO c ls sum x.s∧StI x.s∧muS x.s<x.f∧x.s.cs.length=gv.length∧x.l.length≤273-x.f∧x.f≤273∧pz c ls sum n x.f x.s x.l=sol c ls sum gv n)
  (fun x=>[(8,.isl (.recs 4 (x.l.map ddC)) (.own 20))]) (fun x=>[(2,.cells (.ints .u32 (ms x.s.cs)) false),(3,.cells (.bools x.s.ds) false),(20,.tok 4 x.l.length)]) (fun x=>x.f) ⟨273,bgn c gv,[]⟩ ⟨aK,mixed,ak,JK,aQ⟩ (by rfl) ?_ ?_ ?_
 ·have:=uY h
  exact⟨this,AY h,by have:=aa3 this;show muS (bgn c gv)<273;omega,jU.1,by simp,by simp,rfl⟩
 ·repeat'((conv=>whnf);first|intro _|apply aI|with_reducible exact vM rfl|exact⟨⟩|apply nM|apply fM)
  all_goals((try apply vM);(try simp only[vq]at*);try omega)
  all_goals skip
 rintro⟨f,s,l⟩ ⟨hB,hI,hmu,hlen,hl,hf,hsol⟩
 simp only at hB hI hmu hlen hl hf hsol⊢;cases f with
 |zero=>omega
 |succ f=>
  have hfin:∀r,sol c ls sum gv n=r→∀p,Sup p (r9 c ls sum gv r)→Sup p (r9 c ls sum gv (sol c ls sum gv n)):=fun r hr p hp=>by rw[hr];exact hp
  have t1:agH (gv.length-0) (agI 0 (ms s.cs))=ms s.cs:=bP (by rw[bQ];exact hlen)
  have hdl:s.ds.length=gv.length:=by have:=hB.cl;have:=hB.dl;omega
  have t2:agH (gv.length-0) (agI 0 s.ds)=s.ds:=bP hdl;have hml:=bQ s.cs;have s1:(CL.ints .u32 (ms s.cs)).sub 0 gv.length=.ints .u32 (ms s.cs):=congrArg (CL.ints .u32) t1;have s2:(CL.bools s.ds).sub 0 gv.length=.bools s.ds:=congrArg CL.bools t2;have rok:∀e,e≠21→Sup (bF ([PV.isl (CL.recs 4 (List.map ddC l)) Tok.none]++PV.ip (CL.pv [PV.int IntKind.i64 c,PV.isl (CL.rows IntKind.i64 ls) Tok.none,PV.int IntKind.i64 sum,PV.isl (CL.ints IntKind.i64 gv) Tok.none,PV.isl ((CL.ints IntKind.u32 (ms s.cs)).sub 0 gv.length) Tok.none,PV.isl ((CL.bools s.ds).sub 0 gv.length) Tok.none]) 0::([PV.int IntKind.i64 e]++[]))) (r9 c ls sum gv (l,s,e)):=fun e he=>by
   rw[s1,s2];unfold r9;rw[if_neg he];refine AZ rfl fun i hi=>?_;obtain rfl|rfl|rfl:i=0∨i=1∨i=2:=by simp at hi;omega
   ·exact PG l .none
   ·exact mg _
   ·exact mg _
  have rin:Sup (bF ([PV.nils]++([PV.nilp]++([PV.int IntKind.i64 21]++[])))) (r9 c ls sum gv ([],s,21)):=by
   unfold r9;rw[if_pos rfl];all_goals(refine Sup.via ?_;repeat'((conv=>whnf);first|intro _|apply aI|with_reducible exact vM rfl|exact⟨⟩|apply nM|apply fM);all_goals((try apply vM);(try simp only[vq]at*);try omega);all_goals(try(simp[CL.sub];done)))
  unfold pz at hsol;cases ho:iH s sum ls n with
  |none=>
   rw[ho]at hsol
   repeat'((conv=>whnf);first|apply Exists.intro (s)|apply Exists.intro (none)|(intro hq;(try simp only[vw]at hq);try first|exact absurd hq (by decide)|exfalso;omega)|apply aI|with_reducible exact vM rfl|exact⟨⟩|apply nM|apply fM)
   all_goals((try apply vM);(try simp only[vq]at*);try omega)
   all_goals(try omega)
   all_goals(try first|exact⟨t1,t2,hB⟩|exact⟨t1,t2,⟨by omega,by omega⟩,hB,ho⟩)
   ·exact hfin ([],s,21) (by rw[←hsol,if_pos ‹brk c ls sum s=true›]) _ rin
   ·exact hfin (l,s,0) (by rw[←hsol,if_neg (by rw[‹brk c ls sum s=false›];simp),if_pos ‹don s=true›]) _ (rok 0 (by omega))
   ·exact hfin (l,s,23) (by rw[←hsol,if_neg (by rw[‹brk c ls sum s=false›];simp),if_neg (by rw[‹don s=false›];simp)]) _ (rok 23 (by omega))
  |some d=>
   rw[ho]at hsol;obtain⟨o1,o2,o3,o4⟩:=PE hB hn ho;obtain⟨b1,b2⟩:=FZ hB hI (g:=d.g) o1.y o1.x o3 o4;have hyl:=hB.at o1.y;have b3:=aa2 (g:=d.g) hyl.1 hyl.2 o3 o4;have b4:=AX (g:=d.g) (s:=s) (y:=d.y) (x:=d.x);have hgn:(aP (nmG d.g)).toNat=d.g:=by rw[o2];rfl
   repeat'((conv=>whnf);first|apply Exists.intro (s)|apply Exists.intro (some d)|(intro hq;(try simp only[vw]at hq);try first|exact absurd hq (by decide)|exfalso;omega)|apply aI|with_reducible exact vM rfl|exact⟨⟩|apply nM|apply fM)
   all_goals((try apply vM);(try simp only[vq]at*);try omega)
   all_goals(try omega)
   all_goals(try first|exact⟨t1,t2,hB⟩|exact⟨t1,t2,⟨by omega,by omega⟩,hB,ho⟩|rfl|(rw[af0];done)|(simp only[afu,af0,ad4,adY];omega))
   ·exact hfin ([],s,21) (by rw[←hsol,if_pos ‹brk c ls sum s=true›]) _ rin
   ·exact hfin (l,s,0) (by rw[←hsol,if_neg (by rw[‹brk c ls sum s=false›];simp),if_pos ‹don s=true›]) _ (rok 0 (by omega))
   ·rw[afu,af0];show _+1≤_;omega
   ·exact⟨hB,by omega,o1⟩
   ·refine⟨⟨f,apl d.g s d.y d.x,l++[d]⟩,[],⟨⟨b1,b2,by simp only;omega,by simp only;omega,by simp only[afu,ad4,adY];omega,by simp only;omega,?_⟩,by simp only;omega⟩,?_⟩
    ·rw[←hsol,if_neg (by rw[‹brk c ls sum s=false›];simp),if_neg (by rw[‹don s=false›];simp)]
    ·simp only
     repeat'((conv=>whnf);first|intro _|apply aI|with_reducible exact vM rfl|exact⟨⟩|apply nM|apply fM)
     all_goals((try apply vM);(try simp only[vq]at*);try omega)
     all_goals first|rw[hgn]|(rw[af4];rfl)|(rw[afu];rfl)|rfl
theorem Yp {c:Int} {ls:List (List Int)} {sum:Int} {n:Nat} (hn:n≤5):∀(f:Nat) (s:St) (l:List Dd),bO c ls sum s→StI s→bO c ls sum (pz c ls sum n f s l).2.1∧StI (pz c ls sum n f s l).2.1:=by
 intro f;induction f with
 |zero=>exact fun s l h h2=>⟨h,h2⟩
 |succ f ih=>
  intro s l h h2;unfold pz;split
  ·exact⟨h,h2⟩
  ·split
   ·exact⟨h,h2⟩
   ·split
    ·exact⟨h,h2⟩
    ·rename_i d hd
     obtain⟨o1,o2,o3,o4⟩:=PE h hn hd;obtain⟨b1,b2⟩:=FZ h h2 (g:=d.g) o1.y o1.x o3 o4;exact ih _ _ b1 b2
theorem aa4 {c:Int} {ls:List (List Int)} {sum:Int} {gv:List Int} (h:dR c ls sum gv) {n:Nat} (hn:n≤5):bO c ls sum (sol c ls sum gv n).2.1∧StI (sol c ls sum gv n).2.1:=Yp hn _ _ _ (uY h) (AY h)
def Vy (c:Int) (ls:List (List Int)) (sum:Int) (gv:List Int) (o:Option (List Dd × St × Int)):PV:=match o with
 |none=>.tup [.isl (dlC []) .none,.nilp,.int .i64 21]
 |some r=>.tup [.isl (dlC r.1) .none,bdV c ls sum gv r.2.1,.int .i64 r.2.2]
def jq (r:List Dd × St × Int):Option (List Dd × St × Int):=if r.2.2=21 then none else some r
theorem Sk (c:Int) (ls:List (List Int)) (sum:Int) (gv:List Int) (r:List Dd × St × Int):r9 c ls sum gv r=Vy c ls sum gv (jq r):=by
 unfold r9 jq;split<;>rfl
def zK:PSp:=fun xs K=>match xs with
 | [.agg [.int .i64 c,.isl (.rows .i64 ls) .none,.int .i64 sum,.isl (.ints .i64 gv) .none],.int .i64 g]=>∃o:Option (List Dd × St × Int),VC (dR c ls sum gv∧(0≤g∧g≤5)∧jq (sol c ls sum gv g.toNat)=o)∧K (Vy c ls sum gv o)
 |_=>False
theorem F5:POK Tryz.prog 99 zK:=by
 intro xs K hk;unfold zK at hk;split at hk
 ·obtain⟨o,⟨h,hg,rfl⟩,hk⟩:=hk
  rename_i g;obtain⟨n,rfl⟩:∃n:Nat,g=n:=⟨g.toNat,by omega⟩
  rw[afg,←Sk]at hk;exact⟨_,hk,MI _ _ _ _ h n (by omega)⟩
 ·exact hk.elim
noncomputable def ade:CPT:=aA 22 (aB kC) (aA 86 (dP [] uZ) (aA 87 (vX FI) (aA 88 (aB fZ) (aA 89 (aB eO) (aA 90 (gM (nY brk)) (aA 91 (gM (nY fun _ _ _ s=>don s)) (aA 92 (gM qE) (aA 98 (aB ny) (aA 99 (aB zK) noC)))))))))
theorem fB:aW Tryz.prog ade:=aj (au jJ) (aj (cu [] yj) (aj (rO RO) (aj (au fA) (aj (au eY) (aj (eB uR) (aj (eB JB) (aj (eB uX) (aj (au qj) (aj (au F5) aD)))))))))
def noS:St:=⟨[],[]⟩
def vg (c:Int) (ls:List (List Int)) (sum:Int) (gv:List Int):St:=if pzE c ls sum gv=0 then bgn c gv else noS
theorem MJ (c:Int) (ls:List (List Int)) (sum:Int) (gv:List Int) (h:bH ls) (hg:gv.length≤5000):aF Tryz.prog 20 [pzV c ls sum gv] (.tup [stV (vg c ls sum gv),.int .i64 (pzE c ls sum gv)]):=by
 by_cases he:pzE c ls sum gv=0
 ·have hp:=dR.of he
  have hb:=uY hp;have hl:=hp.gl;have e1:vg c ls sum gv=bgn c gv:=by unfold vg;rw[if_pos he]
  rw[e1,he];have t1:agH (gv.length-0) (agI 0 (ms (bgn c gv).cs))=ms (bgn c gv).cs:=bP (by rw[bQ];exact jU.1)
  have t2:agH (gv.length-0) (agI 0 (bgn c gv).ds)=(bgn c gv).ds:=bP jU.2;have hml:=bQ (bgn c gv).cs;have hbl:=jU (c:=c) (gv:=gv);refine av (md:=1) (rf:=[]) mixed ak fB Tryz.func20 (by rfl) (by rfl) (by rfl) ?_
  repeat'((conv=>whnf);first|apply Exists.intro (bgn c gv)|(intro hq;(try simp only[vw]at hq);try first|exact absurd hq (by decide)|exfalso;omega)|apply aI|with_reducible exact vM rfl|exact⟨⟩|apply nM|apply fM)
  all_goals((try apply vM);(try simp only[vq]at*);try omega)
  ·exact⟨h,hg⟩
  ·exact⟨t1,t2,hb⟩
  ·exact Sup.of rfl
 ·have e1:vg c ls sum gv=noS:=by unfold vg;rw[if_neg he]
  rw[e1];refine av (md:=1) (rf:=[]) mixed ak fB Tryz.func20 (by rfl) (by rfl) (by rfl) ?_
  repeat'((conv=>whnf);first|(intro hq;(try simp only[vw]at hq);try first|exact absurd hq (by decide)|exfalso;omega)|apply aI|with_reducible exact vM rfl|exact⟨⟩|apply nM|apply fM)
  all_goals((try apply vM);(try simp only[vq]at*);try omega)
  ·exact⟨h,hg⟩
  ·unfold noS;all_goals(refine Sup.via ?_;repeat'((conv=>whnf);first|intro _|apply aI|with_reducible exact vM rfl|exact⟨⟩|apply nM|apply fM);all_goals((try apply vM);(try simp only[vq]at*);try omega);all_goals(try(simp[CL.sub];done)))
def ddO (o:Option Dd):PV:=match o with
 |some d=>uV d
 |none=>ddV rY 0 0 0
def sj (c:Int) (ls:List (List Int)) (sum:Int) (gv:List Int):Option Dd × Int:=
 if pzE c ls sum gv≠0 then(none,pzE c ls sum gv)else if brk c ls sum (bgn c gv)then(none,21)else if don (bgn c gv)then(none,29)else match iH (bgn c gv) sum ls 5 with
  |none=>(none,23)
  |some d=>(some d,0)
theorem PI (c:Int) (ls:List (List Int)) (sum:Int) (gv:List Int) (h:bH ls) (hg:gv.length≤5000):aF Tryz.prog 21 [pzV c ls sum gv] (.tup [ddO (sj c ls sum gv).1,.int .i64 (sj c ls sum gv).2]):=by
 by_cases he:pzE c ls sum gv=0
 ·have hp:=dR.of he
  have hb:=uY hp;have hl:=hp.gl;have t1:agH (gv.length-0) (agI 0 (ms (bgn c gv).cs))=ms (bgn c gv).cs:=bP (by rw[bQ];exact jU.1)
  have t2:agH (gv.length-0) (agI 0 (bgn c gv).ds)=(bgn c gv).ds:=bP jU.2;have hml:=bQ (bgn c gv).cs;have hbl:=jU (c:=c) (gv:=gv);have e1:sj c ls sum gv=if brk c ls sum (bgn c gv)then(none,(21:Int))else if don (bgn c gv)then(none,(29:Int))else match iH (bgn c gv) sum ls 5 with
   |none=>(none,(23:Int))
   |some d=>(some d,(0:Int)):=by unfold sj;rw[if_neg (by rw[he];simp)]
  cases hbk:brk c ls sum (bgn c gv)with
  |true=>
   rw[hbk,if_pos rfl]at e1;rw[e1];refine av (md:=1) (rf:=[]) mixed ak fB Tryz.func21 (by rfl) (by rfl) (by rfl) ?_
   repeat'((conv=>whnf);first|apply Exists.intro (bgn c gv)|(intro hq;(try simp only[vw]at hq);try first|exact absurd hq (by decide)|exfalso;omega)|apply aI|with_reducible exact vM rfl|exact⟨⟩|apply nM|apply fM)
   all_goals((try apply vM);(try simp only[vq]at*);try omega)
   all_goals first|exact⟨h,hg⟩|exact⟨t1,t2,hb⟩|(exfalso;simp[aG,hbk]at hq;done)|(exact Sup.of (by simp[bF,aG,ddO,hbk];done))|exact Sup.of rfl|skip
  |false=>
   rw[hbk,if_neg (by simp)]at e1
   cases hdn:don (bgn c gv)with
   |true=>
    rw[hdn,if_pos rfl]at e1;rw[e1];refine av (md:=1) (rf:=[]) mixed ak fB Tryz.func21 (by rfl) (by rfl) (by rfl) ?_
    repeat'((conv=>whnf);first|apply Exists.intro (bgn c gv)|(intro hq;(try simp only[vw]at hq);try first|exact absurd hq (by decide)|exfalso;omega)|apply aI|with_reducible exact vM rfl|exact⟨⟩|apply nM|apply fM)
    all_goals((try apply vM);(try simp only[vq]at*);try omega)
    all_goals first|exact⟨h,hg⟩|exact⟨t1,t2,hb⟩|(exfalso;simp[aG,hbk,hdn]at hq;done)|(exact Sup.of (by simp[bF,aG,ddO,hbk,hdn];done))|exact Sup.of rfl|skip
   |false=>
    rw[hdn,if_neg (by simp)]at e1
    cases ho:iH (bgn c gv) sum ls 5 with
    |none=>
     rw[ho]at e1;rw[e1];refine av (md:=1) (rf:=[]) mixed ak fB Tryz.func21 (by rfl) (by rfl) (by rfl) ?_
     repeat'((conv=>whnf);first|apply Exists.intro (bgn c gv)|apply Exists.intro (none)|(intro hq;(try simp only[vw]at hq);try first|exact absurd hq (by decide)|exfalso;omega)|apply aI|with_reducible exact vM rfl|exact⟨⟩|apply nM|apply fM)
     all_goals((try apply vM);(try simp only[vq]at*);try omega)
     all_goals first|exact⟨h,hg⟩|exact⟨t1,t2,hb⟩|exact⟨t1,t2,⟨by omega,by omega⟩,hb,ho⟩|(exfalso;simp[aG,hbk,hdn]at hq;done)|(exact Sup.of (by simp[bF,aG,ddO,hbk,hdn];done))|exact Sup.of rfl|skip
    |some d=>
     rw[ho]at e1;rw[e1];refine av (md:=1) (rf:=[]) mixed ak fB Tryz.func21 (by rfl) (by rfl) (by rfl) ?_
     repeat'((conv=>whnf);first|apply Exists.intro (bgn c gv)|apply Exists.intro (some d)|(intro hq;(try simp only[vw]at hq);try first|exact absurd hq (by decide)|exfalso;omega)|apply aI|with_reducible exact vM rfl|exact⟨⟩|apply nM|apply fM)
     all_goals((try apply vM);(try simp only[vq]at*);try omega)
     all_goals first|exact⟨h,hg⟩|exact⟨t1,t2,hb⟩|exact⟨t1,t2,⟨by omega,by omega⟩,hb,ho⟩|(exfalso;simp[aG,hbk,hdn]at hq;done)|(exact Sup.of (by simp[bF,aG,ddO,hbk,hdn];done))|exact Sup.of rfl|skip
 ·have e1:sj c ls sum gv=(none,pzE c ls sum gv):=by unfold sj;rw[if_pos he]
  rw[e1];refine av (md:=1) (rf:=[]) mixed ak fB Tryz.func21 (by rfl) (by rfl) (by rfl) ?_
  repeat'((conv=>whnf);first|(intro hq;(try simp only[vw]at hq);try first|exact absurd hq (by decide)|exfalso;omega)|apply aI|with_reducible exact vM rfl|exact⟨⟩|apply nM|apply fM)
  all_goals((try apply vM);(try simp only[vq]at*);try omega)
  ·exact⟨h,hg⟩
  ·exact Sup.of rfl
def su (c:Int) (ls:List (List Int)) (sum:Int) (gv:List Int) (g:Int):List Dd × St × Int:=
 if aG [pzE c ls sum gv,fH g]≠0 then([],noS,aG [pzE c ls sum gv,fH g])else if(sol c ls sum gv g.toNat).2.2=21 then([],noS,21)else sol c ls sum gv g.toNat
abbrev aa5 (r:List Dd × St × Int):PV:=.tup [.isl (dlC r.1) .none,stV r.2.1,.int .i64 r.2.2]
theorem PK (e:Int):Sup (bF [PV.nils,PV.agg [PV.nils,PV.nils],PV.int IntKind.i64 e]) (aa5 ([],noS,e)):=by
 unfold noS;all_goals(refine Sup.via ?_;repeat'((conv=>whnf);first|intro _|apply aI|with_reducible exact vM rfl|exact⟨⟩|apply nM|apply fM);all_goals((try apply vM);(try simp only[vq]at*);try omega);all_goals(try(simp[CL.sub];done)))
theorem mh {a b:Int} (h:aG [a,b]=0):a=0∧b=0:=by
 simp only[aG]at h;split at h
 ·split at h
  ·exact⟨‹_›,‹_›⟩
  ·exact absurd h ‹_›
 ·exact absurd h ‹_›
theorem PL {g:Int} (h:fH g=0):1≤g∧g≤5:=by
 unfold fH at h;by_cases e:g<1∨5<g
 ·rw[if_pos e]at h;cases h
 ·omega
theorem zL (c:Int) (ls:List (List Int)) (sum:Int) (gv:List Int) (g:Int) (h:bH ls) (hg:gv.length≤5000):aF Tryz.prog 30 [pzV c ls sum gv,.int .i64 g] (aa5 (su c ls sum gv g)):=by
 by_cases he:aG [pzE c ls sum gv,fH g]=0
 ·obtain⟨a1,a2⟩:=mh he
  have hp:=dR.of a1;have hgr:=PL a2;have e1:su c ls sum gv g=if(sol c ls sum gv g.toNat).2.2=21 then([],noS,21)else sol c ls sum gv g.toNat:=by unfold su;rw[if_neg (by rw[he];simp)]
  have hsb:=(aa4 hp (show g.toNat≤5 by omega)).1
  by_cases h21:(sol c ls sum gv g.toNat).2.2=21
  ·rw[if_pos h21]at e1
   rw[e1];have hso:jq (sol c ls sum gv g.toNat)=none:=by unfold jq;rw[if_pos h21]
   refine av (md:=1) (rf:=[]) mixed ak fB Tryz.func30 (by rfl) (by rfl) (by rfl) ?_
   repeat'((conv=>whnf);first|apply Exists.intro (none)|(intro hq;(try simp only[vw]at hq);try first|exact absurd hq (by decide)|exfalso;omega)|apply aI|with_reducible exact vM rfl|exact⟨⟩|apply nM|apply fM)
   all_goals((try apply vM);(try simp only[vq]at*);try omega)
   ·exact⟨h,hg⟩
   ·exact⟨hp,⟨by omega,by omega⟩,hso⟩
   ·exact PK 21
  ·rw[if_neg h21]at e1
   rw[e1];have hso:jq (sol c ls sum gv g.toNat)=some (sol c ls sum gv g.toNat):=by unfold jq;rw[if_neg h21]
   obtain⟨rr,hr⟩:∃r,sol c ls sum gv g.toNat=r:=⟨_,rfl⟩;rw[hr]at h21 hsb⊢;refine av (md:=1) (rf:=[]) mixed ak fB Tryz.func30 (by rfl) (by rfl) (by rfl) ?_
   repeat'((conv=>whnf);first|apply Exists.intro (some rr)|apply Exists.intro (rr.2.1)|(intro hq;(try simp only[vw]at hq);try first|exact absurd hq (by decide)|exfalso;omega)|apply aI|with_reducible exact vM rfl|exact⟨⟩|apply nM|apply fM)
   all_goals((try apply vM);(try simp only[vq]at*);try omega)
   all_goals first|exact⟨h,hg⟩|exact⟨hp,⟨by omega,by omega⟩,by rw[hso,hr]⟩|(exfalso;exact h21 hq)|exact hsb|exact⟨rfl,rfl,hsb⟩|exact Sup.of rfl
 ·have e1:su c ls sum gv g=([],noS,aG [pzE c ls sum gv,fH g]):=by unfold su;rw[if_pos he]
  rw[e1];refine av (md:=1) (rf:=[]) mixed ak fB Tryz.func30 (by rfl) (by rfl) (by rfl) ?_
  repeat'((conv=>whnf);first|(intro hq;(try simp only[vw]at hq);try first|exact absurd hq (by decide)|exfalso;omega)|apply aI|with_reducible exact vM rfl|exact⟨⟩|apply nM|apply fM)
  all_goals((try apply vM);(try simp only[vq]at*);try omega)
  ·exact⟨h,hg⟩
  ·exact PK _
def sD (c:Int) (ls:List (List Int)) (sum:Int) (gv:List Int):Nat→Nat→Nat
 |0,g=>g
 |f+1,g=>if(sol c ls sum gv g).2.2=0 then g else sD c ls sum gv f (g+1)
def gW (c:Int) (ls:List (List Int)) (sum:Int) (gv:List Int):Int × List Dd × Int:=
 if(sol c ls sum gv 5).2.2≠0 then(0,[],(sol c ls sum gv 5).2.2)else((sD c ls sum gv 4 1:Nat),(sol c ls sum gv (sD c ls sum gv 4 1)).1,0)
theorem PN {c:Int} {ls:List (List Int)} {sum:Int} {gv:List Int}:∀(f g k:Nat),(∀j,g≤j→j<k→(sol c ls sum gv j).2.2≠0)→(sol c ls sum gv k).2.2=0→g≤k→k≤g+f→sD c ls sum gv f g=k:=by
 intro f;induction f with
 |zero=>intro g k _ _ h1 h2;show g=k;omega
 |succ f ih=>
  intro g k hn hk h1 h2;unfold sD;by_cases e:g=k
  ·subst e;rw[if_pos hk]
  ·rw[if_neg (hn g (by omega) (by omega))]
   exact ih (g+1) k (fun j hj hk'=>hn j (by omega) hk') hk (by omega) (by omega)
theorem Il (c:Int) (ls:List (List Int)) (sum:Int) (gv:List Int) (hp:dR c ls sum gv):
 aF Tryz.prog 100 [pzV c ls sum gv] (.tup [.int .i64 (gW c ls sum gv).1,.isl (dlC (gW c ls sum gv).2.1) .none,.int .i64 (gW c ls sum gv).2.2]):=by
 have sn:∀e:Int,Sup (bF [PV.int IntKind.i64 0,PV.nils,PV.int IntKind.i64 e]) (.tup [.int .i64 0,.isl (dlC []) .none,.int .i64 e]):=fun e=>by all_goals(refine Sup.via ?_;repeat'((conv=>whnf);first|intro _|apply aI|with_reducible exact vM rfl|exact⟨⟩|apply nM|apply fM);all_goals((try apply vM);(try simp only[vq]at*);try omega);all_goals(try(simp[CL.sub];done)))
 obtain⟨r5,h5⟩:∃r,sol c ls sum gv 5=r:=⟨_,rfl⟩;by_cases h21:r5.2.2=21
 ·have hso:jq (sol c ls sum gv 5)=none:=by unfold jq;rw[h5,if_pos h21]
  have hgr:gW c ls sum gv=(0,[],21):=by unfold gW;rw[h5,if_pos (by rw[h21];simp),h21]
  rw[hgr];refine av (md:=1) (rf:=[]) mixed ak fB Tryz.func100 (by rfl) (by rfl) (by rfl) ?_
  repeat'((conv=>whnf);first|apply Exists.intro (none)|(intro hq;(try simp only[vw]at hq);try first|exact absurd hq (by decide)|exfalso;omega)|apply aI|with_reducible exact vM rfl|exact⟨⟩|apply nM|apply fM)
  all_goals((try apply vM);(try simp only[vq]at*);try omega)
  ·exact⟨hp,⟨by omega,by omega⟩,hso⟩
  ·exact sn 21
 ·have hso:jq (sol c ls sum gv 5)=some r5:=by unfold jq;rw[h5,if_neg h21]
  by_cases h50:r5.2.2=0
  ·skip
   refine av (md:=1) (rf:=[]) mixed ak fB Tryz.func100 (by rfl) (by rfl) (by rfl) ?_
   repeat'((conv=>whnf);first|apply Exists.intro (some r5)|(intro hq;(try simp only[vw]at hq);try first|exact absurd hq (by decide)|exfalso;omega)|apply aI|with_reducible exact vM rfl|exact⟨⟩|apply nM|apply fM)
   all_goals((try apply vM);(try simp only[vq]at*);try omega)
   ·exact⟨hp,⟨by omega,by omega⟩,hso⟩
   conv=>whnf
   refine aM (X:=Nat) (fun g=>(1≤g∧g≤5)∧∀j,1≤j→j<g→(sol c ls sum gv j).2.2≠0) (fun g=>[(8,.int .i64 (g:Int))]) (fun g=>[]) (fun g=>6-g) 1 ⟨aK,mixed,ak,fB,aQ⟩ (by rfl) ⟨by omega,fun j h1 h2=>by omega⟩ ?_ ?_
   ·repeat'((conv=>whnf);first|intro _|apply aI|with_reducible exact vM rfl|exact⟨⟩|apply nM|apply fM)
    all_goals((try apply vM);(try simp only[vq]at*);try omega)
   intro g ⟨hg,hok⟩;obtain⟨rg,hrg⟩:∃r,sol c ls sum gv g=r:=⟨_,rfl⟩;have nxt:rg.2.2≠0→(g+1≤5∧∀j,1≤j→j<g+1→(sol c ls sum gv j).2.2≠0):=fun h0=>by
    have:g≠5:=fun e=>by subst e;rw[←hrg,h5]at h0;exact h0 h50
    refine⟨by omega,fun j h1 h2=>?_⟩
    by_cases e:j=g
    ·subst e;rw[hrg];exact h0
    ·exact hok j h1 (by omega)
   by_cases hg21:rg.2.2=21
   ·have hso2:jq (sol c ls sum gv g)=none:=by unfold jq;rw[hrg,if_pos hg21]
    repeat'((conv=>whnf);first|apply Exists.intro (none)|(intro hq;(try simp only[vw]at hq);try first|exact absurd hq (by decide)|exfalso;omega)|apply aI|with_reducible exact vM rfl|exact⟨⟩|apply nM|apply fM)
    all_goals((try apply vM);(try simp only[vq]at*);try omega)
    ·exact⟨hp,⟨by omega,by omega⟩,hso2⟩
    obtain⟨n1,n2⟩:=nxt (by rw[hg21];simp)
    refine⟨g+1,[],⟨⟨⟨by omega,n1⟩,n2⟩,by omega⟩,?_⟩
    repeat'((conv=>whnf);first|intro _|apply aI|with_reducible exact vM rfl|exact⟨⟩|apply nM|apply fM)
    all_goals((try apply vM);(try simp only[vq]at*);try omega)
   ·have hso2:jq (sol c ls sum gv g)=some rg:=by unfold jq;rw[hrg,if_neg hg21]
    repeat'((conv=>whnf);first|apply Exists.intro (some rg)|(intro hq;(try simp only[vw]at hq);try first|exact absurd hq (by decide)|exfalso;omega)|apply aI|with_reducible exact vM rfl|exact⟨⟩|apply nM|apply fM)
    all_goals((try apply vM);(try simp only[vq]at*);try omega)
    ·exact⟨hp,⟨by omega,by omega⟩,hso2⟩
    ·have hgn:=PN (c:=c) (ls:=ls) (sum:=sum) (gv:=gv) 4 1 g hok (by rw[hrg];exact hq) hg.1 (by omega)
     have hgr:gW c ls sum gv=(((g:Nat):Int),rg.1,0):=by unfold gW;rw[h5,if_neg (by rw[h50];simp),hgn,hrg]
     rw[hgr];exact Sup.of (by simp only[bF];rw[hq])
    ·obtain⟨n1,n2⟩:=nxt hq
     refine⟨g+1,[],⟨⟨⟨by omega,n1⟩,n2⟩,by omega⟩,?_⟩
     repeat'((conv=>whnf);first|intro _|apply aI|with_reducible exact vM rfl|exact⟨⟩|apply nM|apply fM)
     all_goals((try apply vM);(try simp only[vq]at*);try omega)
  ·have hgr:gW c ls sum gv=(0,[],r5.2.2):=by unfold gW;rw[h5,if_pos h50]
   rw[hgr];refine av (md:=1) (rf:=[]) mixed ak fB Tryz.func100 (by rfl) (by rfl) (by rfl) ?_
   repeat'((conv=>whnf);first|apply Exists.intro (some r5)|(intro hq;(try simp only[vw]at hq);try first|exact absurd hq (by decide)|exfalso;omega)|apply aI|with_reducible exact vM rfl|exact⟨⟩|apply nM|apply fM)
   all_goals((try apply vM);(try simp only[vq]at*);try omega)
   ·exact⟨hp,⟨by omega,by omega⟩,hso⟩
   ·exact sn _
def A8:PSp:=fun xs K=>match xs with
 | [.agg [.int .i64 c,.isl (.rows .i64 ls) .none,.int .i64 sum,.isl (.ints .i64 gv) .none]]=>VC (dR c ls sum gv)∧K (.tup [.int .i64 (gW c ls sum gv).1,.isl (dlC (gW c ls sum gv).2.1) .none,.int .i64 (gW c ls sum gv).2.2])
 |_=>False
theorem PO:POK Tryz.prog 100 A8:=by
 intro xs K hk;unfold A8 at hk;split at hk
 ·exact⟨_,hk.2,Il _ _ _ _ hk.1.get⟩
 ·exact hk.elim
noncomputable def adf:CPT:=aA 22 (aB kC) (aA 100 (aB A8) (aA 101 (aB kS) noC))
theorem oD:aW Tryz.prog adf:=aj (au jJ) (aj (au PO) (aj (au kT) aD))
def kK (c:Int) (ls:List (List Int)) (sum:Int) (gv:List Int):Int × List Dd × Int:=if pzE c ls sum gv≠0 then(0,[],pzE c ls sum gv)else gW c ls sum gv
theorem MK (c:Int) (ls:List (List Int)) (sum:Int) (gv:List Int) (h:bH ls) (hg:gv.length≤5000):aF Tryz.prog 31 [pzV c ls sum gv] (.tup [.int .i64 (kK c ls sum gv).1,.int .i64 (kK c ls sum gv).2.2]):=by
 by_cases he:pzE c ls sum gv=0
 ·have e1:kK c ls sum gv=gW c ls sum gv:=by unfold kK;rw[if_neg (by rw[he];simp)]
  rw[e1];refine av (md:=1) (rf:=[]) mixed ak oD Tryz.func31 (by rfl) (by rfl) (by rfl) ?_
  repeat'((conv=>whnf);first|(intro hq;(try simp only[vw]at hq);try first|exact absurd hq (by decide)|exfalso;omega)|apply aI|with_reducible exact vM rfl|exact⟨⟩|apply nM|apply fM)
  all_goals((try apply vM);(try simp only[vq]at*);try omega)
  all_goals first|exact⟨h,hg⟩|exact dR.of he|exact Sup.of rfl|skip
 ·have e1:kK c ls sum gv=(0,[],pzE c ls sum gv):=by unfold kK;rw[if_pos he]
  rw[e1];refine av (md:=1) (rf:=[]) mixed ak oD Tryz.func31 (by rfl) (by rfl) (by rfl) ?_
  repeat'((conv=>whnf);first|(intro hq;(try simp only[vw]at hq);try first|exact absurd hq (by decide)|exfalso;omega)|apply aI|with_reducible exact vM rfl|exact⟨⟩|apply nM|apply fM)
  all_goals((try apply vM);(try simp only[vq]at*);try omega)
  all_goals first|exact⟨h,hg⟩|exact Sup.of rfl|skip
def jL (l:List Dd):List Int:=(ael 5).map fun g=>((l.filter fun d=>decide (d.g=g+1)).length:Int)
theorem PS (l:List Dd) (d:Dd) (h:1≤d.g∧d.g≤5):(jL l).set (d.g-1) ((jL l).getD (d.g-1) 0+1)=jL (l++[d]):=by
 refine agW (by simp[jL]) fun j h1 h2=>?_
 have hj:j<5:=by simpa [jL]using h2
 rw[agX];simp only[jL,agY,agZ,ag2,ag3,ag4,afu];by_cases e:d.g-1=j
 ·rw[if_pos e]
  subst e;simp[aeo,show d.g-1<5 by omega,show d.g-1+1=d.g by omega]
 ·rw[if_neg e]
  simp[show¬d.g=j+1 by omega]
theorem aa6 {c:Int} {ls:List (List Int)} {sum:Int} {n:Nat}:∀(f:Nat) (s:St) (l:List Dd),(∀d∈l,1≤d.g∧d.g≤n)→∀d∈(pz c ls sum n f s l).1,1≤d.g∧d.g≤n:=by
 intro f;induction f with
 |zero=>exact fun s l h=>h
 |succ f ih=>
  intro s l h;unfold pz;split
  ·intro d hd;simp at hd
  ·split
   ·exact h
   ·split
    ·exact h
    ·rename_i d hd
     refine ih _ _ fun d' hd'=>?_;rcases aep.1 hd' with h1|h1
     ·exact h d' h1
     ·rw[agL.1 h1]
      obtain⟨g,g1,g2,g3⟩:=FW hd;rw[(FV.1 g3).1];exact⟨g1,g2⟩
theorem aa7 {c:Int} {ls:List (List Int)} {sum:Int} {gv:List Int}:∀d∈(gW c ls sum gv).2.1,1≤d.g∧d.g≤5:=by
 intro d hd;unfold gW at hd;split at hd
 ·simp at hd
 ·have:=aa6 (n:=sD c ls sum gv 4 1) 273 _ [] (fun d h=>by simp at h) d hd
  have hb:∀f g,sD c ls sum gv f g≤g+f:=by
   intro f;induction f with
   |zero=>intro g;exact aea _
   |succ f ih=>intro g;unfold sD;split;omega;have:=ih (g+1);omega
  have:=hb 4 1;omega
theorem Sl {c:Int} {ls:List (List Int)} {sum:Int} {n:Nat}:∀(f:Nat) (s:St) (l:List Dd),(pz c ls sum n f s l).1.length≤l.length+f:=by
 intro f;induction f with
 |zero=>exact fun s l=>aea _
 |succ f ih=>
  intro s l;unfold pz;split
  ·simp
  ·split
   ·simp only;omega
   ·split
    ·simp only;omega
    ·have:=ih (apl ‹Dd›.g s ‹Dd›.y ‹Dd›.x) (l++[‹Dd›])
     rw[afu]at this;simp only[ad4,adY]at this;omega
theorem Sm {c:Int} {ls:List (List Int)} {sum:Int} {gv:List Int}:(gW c ls sum gv).2.1.length≤273:=by
 unfold gW;split
 ·simp
 ·have:=Sl (c:=c) (ls:=ls) (sum:=sum) (n:=sD c ls sum gv 4 1) 273 (bgn c gv) []
  rw[adY,Nat.zero_add]at this;exact this
theorem Yq (l:List Dd) (i:Nat):0≤(jL l).getD i 0∧(jL l).getD i 0≤l.length:=by
 by_cases hi:i<5
 ·have:(jL l).getD i 0=((l.filter fun d=>decide (d.g=i+1)).length:Int):=by simp[jL,aeo,hi]
  rw[this];have:=agM (fun d:Dd=>decide (d.g=i+1)) l;omega
 ·have:(jL l).getD i 0=0:=by simp[jL,aeo,hi]
  rw[this];omega
def F6 (c:Int) (ls:List (List Int)) (sum:Int) (gv:List Int):List Int:=if(kK c ls sum gv).2.2≠0 then []else jL (kK c ls sum gv).2.1
theorem aa8 {g:Nat} (h:1≤g∧g≤5):aP (nmG g)=g:=by
 have:=pV;obtain rfl|rfl|rfl|rfl|rfl:g=1∨g=2∨g=3∨g=4∨g=5:=by omega
 all_goals first|exact this.1|exact this.2.1|exact this.2.2.1|exact this.2.2.2.1|exact this.2.2.2.2
theorem MN (c:Int) (ls:List (List Int)) (sum:Int) (gv:List Int) (h:bH ls) (hg:gv.length≤5000):aF Tryz.prog 32 [pzV c ls sum gv] (.tup [.isl (.ints .i64 (F6 c ls sum gv)) .none,.int .i64 (kK c ls sum gv).2.2]):=by
 have sn:∀e:Int,Sup (bF [PV.nils,PV.int IntKind.i64 e]) (.tup [.isl (.ints .i64 []) .none,.int .i64 e]):=fun e=>by all_goals(refine Sup.via ?_;repeat'((conv=>whnf);first|intro _|apply aI|with_reducible exact vM rfl|exact⟨⟩|apply nM|apply fM);all_goals((try apply vM);(try simp only[vq]at*);try omega);all_goals(try(simp[CL.sub];done)))
 by_cases he:pzE c ls sum gv=0
 ·have e1:kK c ls sum gv=gW c ls sum gv:=by unfold kK;rw[if_neg (by rw[he];simp)]
  unfold F6;rw[e1];have hgg:=aa7 (c:=c) (ls:=ls) (sum:=sum) (gv:=gv);obtain⟨l,hF⟩:∃l,(gW c ls sum gv).2.1=l:=⟨_,rfl⟩;rw[hF]at hgg;have hl3:l.length≤273:=by rw[←hF];exact Sm
  by_cases h0:(gW c ls sum gv).2.2=0
  ·rw[if_neg (by rw[h0];simp),hF]
   refine av (md:=1) (rf:=[]) mixed ak oD Tryz.func32 (by rfl) (by rfl) (by rfl) ?_
   repeat'((conv=>whnf);first|(intro hq;(try simp only[vw]at hq);try first|exact absurd hq (by decide)|exfalso;omega)|apply aI|with_reducible exact vM rfl|exact⟨⟩|apply nM|apply fM)
   all_goals((try apply vM);(try simp only[vq]at*);try omega)
   all_goals first|exact⟨h,hg⟩|exact dR.of he|skip
   rw[hF];conv=>whnf
   refine aM (X:=Nat) (fun i=>i≤l.length) (fun i=>[(28,.int .i64 i)]) (fun i=>[(9,.cells (.ints .i64 (jL (l.take i))) false)]) (fun i=>l.length-i) 0 ⟨aK,mixed,ak,oD,aQ⟩ (by rfl) (by omega) ?_ ?_
   ·repeat'((conv=>whnf);first|intro _|apply aI|with_reducible exact vM rfl|exact⟨⟩|apply nM|apply fM)
    all_goals((try apply vM);(try simp only[vq]at*);try omega)
    all_goals rfl
   intro i hi;have hsl:(jL (l.take i)).length=5:=by simp[jL]
   have hbd:=Yq (l.take i);have hli:(l.take i).length≤273:=by rw[ae0];omega
   by_cases hlt:i<l.length
   ·have hd:=hgg (l.getD i dd0) (by rw[aeo,aev hlt];exact agr _)
    have hgn:=aa8 hd;obtain⟨dg,hdg⟩:∃g:Int,g=((l.getD i dd0).g:Nat):=⟨_,rfl⟩;have hbi:=hbd (dg-1).toNat;have ht1:l.take (i+1)=l.take i++[l.getD i dd0]:=by rw[af3,aeo,aev hlt];rfl
    have hsu:=PS (l.take i) (l.getD i dd0) hd;rw[←ht1,show(l.getD i dd0).g-1=(dg-1).toNat by omega]at hsu
    repeat'((conv=>whnf);first|apply Exists.intro (dg)|(intro hq;(try simp only[vw]at hq);try first|exact absurd hq (by decide)|exfalso;omega)|apply aI|with_reducible exact vM rfl|exact⟨⟩|apply nM|apply fM)
    all_goals((try apply vM);(try simp only[vq]at*);try omega)
    all_goals(try first|omega|rfl|(rw[hgn];exact hdg.symm))
    refine⟨i+1,[],⟨by omega,by omega⟩,?_⟩
    repeat'((conv=>whnf);first|intro _|apply aI|with_reducible exact vM rfl|exact⟨⟩|apply nM|apply fM)
    all_goals((try apply vM);(try simp only[vq]at*);try omega)
    all_goals(try exact hsu)
   ·have:i=l.length:=by omega
    subst this;rw[af5]at*
    repeat'((conv=>whnf);first|(intro hq;(try simp only[vw]at hq);try first|exact absurd hq (by decide)|exfalso;omega)|apply aI|with_reducible exact vM rfl|exact⟨⟩|apply nM|apply fM)
    all_goals((try apply vM);(try simp only[vq]at*);try omega)
    all_goals(try(rw[hsl];decide))
    rw[h0];refine Sup.of ?_;show PV.tup [.isl (.ints .i64 (agH (agt 5-0) (agI 0 (jL l)))) .none,.int .i64 0]=_;rw[bP (by rw[hsl];rfl)]
  ·rw[if_pos h0]
   refine av (md:=1) (rf:=[]) mixed ak oD Tryz.func32 (by rfl) (by rfl) (by rfl) ?_
   repeat'((conv=>whnf);first|(intro hq;(try simp only[vw]at hq);try first|exact absurd hq (by decide)|exfalso;omega)|apply aI|with_reducible exact vM rfl|exact⟨⟩|apply nM|apply fM)
   all_goals((try apply vM);(try simp only[vq]at*);try omega)
   all_goals first|exact⟨h,hg⟩|exact dR.of he|exact sn _|skip
 ·have e1:kK c ls sum gv=(0,[],pzE c ls sum gv):=by unfold kK;rw[if_pos he]
  have e2:F6 c ls sum gv=[]:=by unfold F6;rw[e1,if_pos he]
  rw[e1,e2];refine av (md:=1) (rf:=[]) mixed ak oD Tryz.func32 (by rfl) (by rfl) (by rfl) ?_
  repeat'((conv=>whnf);first|(intro hq;(try simp only[vw]at hq);try first|exact absurd hq (by decide)|exfalso;omega)|apply aI|with_reducible exact vM rfl|exact⟨⟩|apply nM|apply fM)
  all_goals((try apply vM);(try simp only[vq]at*);try omega)
  all_goals first|exact⟨h,hg⟩|exact sn _|skip
end Go.Eng.YtcechbdgokjmgaaGreatDoor
