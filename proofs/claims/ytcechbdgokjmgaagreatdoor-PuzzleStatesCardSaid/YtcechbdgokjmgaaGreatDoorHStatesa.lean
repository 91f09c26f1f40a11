/- Contracts of functions that the law calls, and what the law says of them. Conditions stand in them. -/
import Derived.Test.YtcechbdgokjmgaaGreatDoorBg
open Bool renaming false_or→agE,not_false→aeV,true_and→agO,not_true→aeW,false_and→agn,and_false→agR,or_true→aje
open Int renaming toNat_zero→ahk,toNat→agt
open List renaming length_filter_le→agM,length_take→ae0,length_append→afu,append_nil→agN,take_length→af5,foldl_append→agq,eq_nil_of_length_eq_zero→aja,any_eq_true→agC,any_append→ajb,mem_filter→agh,any_eq_false→agD,length_singleton→ajc,take→agH,drop→agI,nil_append→ajd,all_eq_false→ahh,mem_range→afY,all_eq_true→afI,filter_cons→ag3,filter_nil→ag4,take_add_one→af3,getD_eq_getElem?_getD→aeo,getElem?_eq_getElem→aev,range→ael,length_set→aeP,getElem_set_ne→ahb,getElem_of_mem→aeu,getElem?_eq_none→ajf
open Nat renaming le_trans→afW,eq_zero_or_pos→aee,le_refl→aea,mul_one→aeL
namespace Go.Eng.YtcechbdgokjmgaaGreatDoor
open Go.Proofs
set_option linter.unusedSimpArgs false
set_option linter.unusedVariables false
set_option maxHeartbeats 0
set_option maxRecDepth 100000
theorem ah5 (c:Int) (ls:List (List Int)) (sum:Int) (gv:List Int) (s:St) (h:bO c ls sum s) (k b:Int) (hk:0≤k∧k<ls.length):
 aF Tryz.prog 96 [pzV c ls sum gv,stV s,.int .i64 k,.int .i64 b] (.isl (.ints .i64 (opn s (ls.getD k.toNat []) b)) .none):=by
 have hln:=h.ln k.toNat (by omega)
 have hll:=hln.len;have hcl:=h.cl;have hdl:=h.dl;refine av (md:=1) (rf:=[]) mixed ak aD Tryz.func96 (by rfl) (by rfl) (by rfl) ?_
 repeat'((conv=>whnf);first|intro _|apply aI|with_reducible exact vM rfl|exact⟨⟩|apply nM|apply fM)
 all_goals((try apply vM);(try simp only[vq]at*);try omega)
 conv=>whnf
 refine aM (X:=Nat) (fun i=>i≤(ls.getD k.toNat []).length) (fun i=>[(11,.int .i64 i),(9,.isl (.ints .i64 (opn s ((ls.getD k.toNat []).take i) b)) (.own 5))]) (fun i=>[(5,.tok 1 (opn s ((ls.getD k.toNat []).take i) b).length)]) (fun i=>(ls.getD k.toNat []).length-i) 0 ⟨aK,mixed,ak,aD,aQ⟩ (by rfl) (by omega) ?_ ?_
 ·repeat'((conv=>whnf);first|intro _|apply aI|with_reducible exact vM rfl|exact⟨⟩|apply nM|apply fM)
  all_goals((try apply vM);(try simp only[vq]at*);try omega)
  all_goals rfl
 intro i hi;by_cases hlt:i<(ls.getD k.toNat []).length
 ·have hx:=hln.rng ((ls.getD k.toNat []).getD i 0) (bL hlt)
  have hxs:=h.at hx;have ho:(opn s ((ls.getD k.toNat []).take i) b).length≤16:=afW (agM _ _) (by rw[ae0];omega)
  have e1:=XF s ((ls.getD k.toNat []).take i) ((ls.getD k.toNat []).getD i 0) b;rw[←dF hlt]at e1
  repeat'((conv=>whnf);first|(intro hq;(try simp only[vw]at hq);try first|exact absurd hq (by decide)|exfalso;omega)|apply aI|with_reducible exact vM rfl|exact⟨⟩|apply nM|apply fM)
  all_goals((try apply vM);(try simp only[vq]at*);try omega)
  all_goals(try(first|omega|(rw[afu,List.length_cons,List.length_nil];omega)))
  ·rename_i hd
   have hd:s.dc ((ls.getD k.toNat []).getD i 0).toNat=false:=hd;rw[hd,if_pos (by simpa using hq)]at e1
   refine⟨i+1,[],⟨by omega,by omega⟩,?_⟩
   rw[e1,afu]
   repeat'((conv=>whnf);first|intro _|apply aI|with_reducible exact vM rfl|exact⟨⟩|apply nM|apply fM)
   all_goals((try apply vM);(try simp only[vq]at*);try omega)
  ·rename_i hd
   have hd:s.dc ((ls.getD k.toNat []).getD i 0).toNat=false:=hd;rw[hd,if_neg (by simpa using hq),agN]at e1
   refine⟨i+1,[],⟨by omega,by omega⟩,?_⟩
   rw[e1]
   repeat'((conv=>whnf);first|intro _|apply aI|with_reducible exact vM rfl|exact⟨⟩|apply nM|apply fM)
   all_goals((try apply vM);(try simp only[vq]at*);try omega)
  ·have hd:s.dc ((ls.getD k.toNat []).getD i 0).toNat=true:=hq
   rw[hd,if_neg (by simp),agN]at e1
   refine⟨i+1,[],⟨by omega,by omega⟩,?_⟩
   rw[e1]
   repeat'((conv=>whnf);first|intro _|apply aI|with_reducible exact vM rfl|exact⟨⟩|apply nM|apply fM)
   all_goals((try apply vM);(try simp only[vq]at*);try omega)
 ·have:i=(ls.getD k.toNat []).length:=by omega
  subst this;rw[af5]
  repeat'((conv=>whnf);first|intro _|apply aI|with_reducible exact vM rfl|exact⟨⟩|apply nM|apply fM)
  all_goals((try apply vM);(try simp only[vq]at*);try omega)
  exact Sup.of rfl
theorem ah6 (c:Int) (ls:List (List Int)) (sum:Int) (gv:List Int) (s:St) (h:bO c ls sum s) (k:Int) (hk:0≤k∧k<ls.length):
 aF Tryz.prog 97 [pzV c ls sum gv,stV s,.int .i64 k] (.int .i64 (rst s sum (ls.getD k.toNat []))):=by
 have hln:=h.ln k.toNat (by omega)
 have hsm:=h.sm;have hll:=hln.len;have hcl:=h.cl;have hdl:=h.dl;have hb:=Fh h hln.rng;refine av (md:=1) (rf:=[]) mixed ak aD Tryz.func97 (by rfl) (by rfl) (by rfl) ?_
 repeat'((conv=>whnf);first|intro _|apply aI|with_reducible exact vM rfl|exact⟨⟩|apply nM|apply fM)
 all_goals((try apply vM);(try simp only[vq]at*);try omega)
 conv=>whnf
 refine aM (X:=Nat) (fun i=>i≤(ls.getD k.toNat []).length) (fun i=>[(9,.int .i64 i),(7,.int .i64 (rst s sum ((ls.getD k.toNat []).take i)))]) (fun i=>[]) (fun i=>(ls.getD k.toNat []).length-i) 0 ⟨aK,mixed,ak,aD,aQ⟩ (by rfl) (by omega) ?_ ?_
 ·repeat'((conv=>whnf);first|intro _|apply aI|with_reducible exact vM rfl|exact⟨⟩|apply nM|apply fM)
  all_goals((try apply vM);(try simp only[vq]at*);try omega)
  all_goals rfl
 intro i hi;by_cases hlt:i<(ls.getD k.toNat []).length
 ·have hx:=hln.rng ((ls.getD k.toNat []).getD i 0) (bL hlt)
  have hxs:=h.at hx;have hbi:=hb i (by omega)
  have e2:=Je s sum ((ls.getD k.toNat []).take i) ((ls.getD k.toNat []).getD i 0);rw[←dF hlt]at e2;have h8:s.dc ((ls.getD k.toNat []).getD i 0).toNat=true→(s.cs.getD ((ls.getD k.toNat []).getD i 0).toNat []).length=1:=h.dec _ hxs.1;have h9:s.dc ((ls.getD k.toNat []).getD i 0).toNat=true→1≤(s.cs.getD ((ls.getD k.toNat []).getD i 0).toNat []).getD 0 0∧(s.cs.getD ((ls.getD k.toNat []).getD i 0).toNat []).getD 0 0≤16:=fun hd=>by have:=h.num hx hd;exact⟨this.1,this.2.1⟩
  repeat'((conv=>whnf);first|(intro hq;(try simp only[vw]at hq);try first|exact absurd hq (by decide)|exfalso;omega)|apply aI|with_reducible exact vM rfl|exact⟨⟩|apply nM|apply fM)
  all_goals((try apply vM);(try simp only[vq]at*);try omega)
  all_goals(try simp only[ahk])
  all_goals(try(have k8:=h8 (by assumption);have k9:=h9 (by assumption);omega))
  ·have hd:s.dc ((ls.getD k.toNat []).getD i 0).toNat=true:=hq
   rw[hd,if_pos rfl]at e2;refine⟨i+1,[],⟨by omega,by omega⟩,?_⟩
   rw[e2]
   repeat'((conv=>whnf);first|intro _|apply aI|with_reducible exact vM rfl|exact⟨⟩|apply nM|apply fM)
   all_goals((try apply vM);(try simp only[vq]at*);try omega)
  ·have hd:s.dc ((ls.getD k.toNat []).getD i 0).toNat=false:=hq
   rw[hd,if_neg (by simp)]at e2
   refine⟨i+1,[],⟨by omega,by omega⟩,?_⟩
   rw[e2]
   repeat'((conv=>whnf);first|intro _|apply aI|with_reducible exact vM rfl|exact⟨⟩|apply nM|apply fM)
   all_goals((try apply vM);(try simp only[vq]at*);try omega)
 ·have:i=(ls.getD k.toNat []).length:=by omega
  subst this;rw[af5]
  repeat'((conv=>whnf);first|intro _|apply aI|with_reducible exact vM rfl|exact⟨⟩|apply nM|apply fM)
  all_goals((try apply vM);(try simp only[vq]at*);try omega)
  exact Sup.of rfl
def ahv (s:St) (o:List Int) (x:Int):Bool:=!(o.any fun y=>decide (s.cd y.toNat=[]))&&(decide (xQ s o≤x)&&decide (x≤xR s o))
theorem aiK (s:St) (sum:Int) (l:List Int) (c x:Int):xS s sum l c x=!ahv s (opn s l c) (rst s sum l-x):=by
 unfold xS ahv;cases(opn s l c).any fun y=>decide (s.cd y.toNat=[])
 ·simp only[agE,aeV,agO,Bool.not_and]
  congr 1
  ·rw[←decide_not];congr 1;simp
  ·rw[←decide_not];congr 1;simp
 ·simp
theorem ahS (s:St) (o:List Int) (y:Int):xQ s (o++[y])=xQ s o+hd0 (s.cd y.toNat):=by unfold xQ;rw[agq];rfl
theorem ahT (s:St) (o:List Int) (y:Int):xR s (o++[y])=xR s o+ls0 (s.cd y.toNat):=by unfold xR;rw[agq];rfl
structure ahU (c:Int) (ls:List (List Int)) (sum:Int) (s:St) (o:List Int) (x:Int):Prop where
 bd:bO c ls sum s
 rng:∀y∈o,0≤y∧y<c
 len:o.length≤16
 x: -2000000000≤x∧x≤2000000000
theorem ah2 {c:Int} {ls:List (List Int)} {sum:Int} {s:St} (h:bO c ls sum s) (o:List Int) (ho:∀y∈o,0≤y∧y<c):∀i,i≤o.length→0≤xQ s (o.take i)∧xQ s (o.take i)≤16*i∧0≤xR s (o.take i)∧xR s (o.take i)≤16*i:=by
 intro i;induction i with
 |zero=>intro _;simp[xQ,xR]
 |succ i ih=>
  intro hi;have h1:=ih (by omega)
  have hy:=ho (o.getD i 0) (bL (by omega))
  have hA:=(h.asc _ (h.at hy).1).1;have h2:0≤hd0 (s.cd (o.getD i 0).toNat)∧hd0 (s.cd (o.getD i 0).toNat)≤16:=by
   rcases aee (s.cd (o.getD i 0).toNat).length with e|e
   ·rw[aja e];simp[hd0]
   ·have:=hA.rng _ (vZ e);omega
  have h3:0≤ls0 (s.cd (o.getD i 0).toNat)∧ls0 (s.cd (o.getD i 0).toNat)≤16:=by
   rcases aee (s.cd (o.getD i 0).toNat).length with e|e
   ·rw[aja e];simp[ls0]
   ·have:=hA.rng _ (Ag e);omega
  rw[dF (by omega),ahS,ahT]
  omega
theorem aio (c:Int) (ls:List (List Int)) (sum:Int) (s:St) (o:List Int) (x:Int) (h:ahU c ls sum s o x):aF Tryz.prog 135 [stV s,.isl (.ints .i64 o) .none,.int .i64 x] (.bp (ahv s o x)):=by
 have hb:=h.bd;have hcl:=hb.cl;have hdl:=hb.dl;have hlen:=h.len;have hx:=h.x;refine av (md:=1) (rf:=[]) mixed ak aD Tryz.func135 (by rfl) (by rfl) (by rfl) ?_
 repeat'((conv=>whnf);first|intro _|apply aI|with_reducible exact vM rfl|exact⟨⟩|apply nM|apply fM)
 all_goals((try apply vM);(try simp only[vq]at*);try omega)
 conv=>whnf
 refine aM (X:=Nat) (fun i=>i≤o.length∧(o.take i).any (fun y=>decide (s.cd y.toNat=[]))=false) (fun i=>[(9,.int .i64 i),(7,.int .i64 (xQ s (o.take i))),(8,.int .i64 (xR s (o.take i)))]) (fun i=>[]) (fun i=>o.length-i) 0 ⟨aK,mixed,ak,aD,aQ⟩ (by rfl) ⟨by omega,by simp⟩ ?_ ?_
 ·repeat'((conv=>whnf);first|intro _|apply aI|with_reducible exact vM rfl|exact⟨⟩|apply nM|apply fM)
  all_goals((try apply vM);(try simp only[vq]at*);try omega)
  all_goals rfl
 intro i ⟨hi,hok⟩;by_cases hlt:i<o.length
 ·have hy:=h.rng (o.getD i 0) (bL hlt)
  have hys:=hb.at hy;have hA:=(hb.asc _ hys.1).1;have h16:=Ap hA;have s1:=ah2 hb o h.rng i (by omega)
  have s2:=ah2 hb o h.rng (i+1) (by omega)
  have e1:xQ s (o.take (i+1))=xQ s (o.take i)+hd0 (s.cd (o.getD i 0).toNat):=by rw[dF hlt,ahS]
  have e2:xR s (o.take (i+1))=xR s (o.take i)+ls0 (s.cd (o.getD i 0).toNat):=by rw[dF hlt,ahT]
  have k16:(s.cs.getD (o.getD i 0).toNat []).length≤16:=h16;have f1:(s.cs.getD (o.getD i 0).toNat []).getD 0 0=hd0 (s.cd (o.getD i 0).toNat):=rfl;have f2:(s.cs.getD (o.getD i 0).toNat []).getD (((s.cs.getD (o.getD i 0).toNat []).length:Int)-1).toNat 0=ls0 (s.cd (o.getD i 0).toNat):=by
   rw[show(((s.cs.getD (o.getD i 0).toNat []).length:Int)-1).toNat=(s.cs.getD (o.getD i 0).toNat []).length-1 by omega];rfl
  repeat'((conv=>whnf);first|(intro hq;(try simp only[vw]at hq);try first|exact absurd hq (by decide)|exfalso;omega)|apply aI|with_reducible exact vM rfl|exact⟨⟩|apply nM|apply fM)
  all_goals((try apply vM);(try simp only[vq]at*);try omega)
  all_goals(try simp only[ahk])
  all_goals(try rw[f1])
  all_goals(try rw[f2])
  all_goals(try omega)
  ·have hn:s.cd (o.getD i 0).toNat=[]:=aja (show(s.cs.getD (o.getD i 0).toNat []).length=0 by omega)
   have:ahv s o x=false:=by
    unfold ahv;rw[agC.2 ⟨o.getD i 0,bL hlt,decide_eq_true hn⟩];rfl
   rw[this];exact dK false
  ·have hn:s.cd (o.getD i 0).toNat≠[]:=fun e=>by
    have:(s.cs.getD (o.getD i 0).toNat []).length=0:=by rw[show s.cs.getD (o.getD i 0).toNat []=[]from e];rfl
    omega
   refine⟨i+1,[],⟨⟨by omega,?_⟩,by omega⟩,?_⟩
   ·rw[dF hlt,ajb,hok,List.any_cons,decide_eq_false hn];rfl
   rw[e1,e2]
   repeat'((conv=>whnf);first|intro _|apply aI|with_reducible exact vM rfl|exact⟨⟩|apply nM|apply fM)
   all_goals((try apply vM);(try simp only[vq]at*);try omega)
   all_goals(try rw[f2])
 ·have:i=o.length:=by omega
  subst this;rw[af5]at*;have hB:ahv s o x=(decide (xQ s o≤x)&&decide (x≤xR s o)):=by unfold ahv;rw[hok];rfl
  repeat'((conv=>whnf);first|intro _|apply aI|with_reducible exact vM rfl|exact⟨⟩|apply nM|apply fM)
  all_goals((try apply vM);(try simp only[vq]at*);try omega)
  ·rename_i h1
   rw[hB,decide_eq_true h1];exact Sup.of rfl
  ·rename_i h1
   rw[hB,decide_eq_false h1];exact dK false
def ah7:PSp:=fun xs K=>match xs with
 | [.agg [.isl (.rows .i64 CS) .none,.isl (.bools DS) .none],.isl (.ints .i64 o) .none,.int .i64 x]=>VC (∃c ls sum,ahU c ls sum ⟨CS,DS⟩ o x)∧K (.bp (ahv ⟨CS,DS⟩ o x))
 |_=>False
theorem aiL:POK Tryz.prog 135 ah7:=by
 intro xs K h;unfold ah7 at h;split at h
 ·exact⟨_,h.2,(by obtain⟨c,ls,sum,h'⟩:=h.1.get;exact aio c ls sum ⟨_,_⟩ _ _ h')⟩
 ·exact h.elim
theorem ahw (r:ByteArray):aF Tryz.prog 70 [.str r] (.int .i64 (aP r)):=by
 have hn:=pV;refine av (md:=1) (rf:=[]) mixed ak aD Tryz.func70 (by rfl) (by rfl) (by rfl) ?_
 repeat'((conv=>whnf);first|intro _|apply aI|with_reducible exact vM rfl|exact⟨⟩|apply nM|apply fM)
 all_goals((try apply vM);(try simp only[vq]at*);try omega)
 conv=>whnf
 refine aM (X:=Nat) (fun i=>i≤5∧∀j,0<j→j<i+1→nmG j≠r) (fun i=>[(4,.int .i64 i)]) (fun i=>[]) (fun i=>5-i) 0 ⟨aK,mixed,ak,aD,aQ⟩ (by rfl) ⟨by omega,fun j h0 hj=>by omega⟩ ?_ ?_
 ·repeat'((conv=>whnf);first|intro _|apply aI|with_reducible exact vM rfl|exact⟨⟩|apply nM|apply fM)
  all_goals((try apply vM);(try simp only[vq]at*);try omega)
 intro i ⟨hi,hok⟩;obtain rfl|rfl|rfl|rfl|rfl|rfl:i=0∨i=1∨i=2∨i=3∨i=4∨i=5:=by omega
 ·repeat'((conv=>whnf);first|(intro hq;(try simp only[vw]at hq);try first|exact absurd hq (by decide)|exfalso;omega)|apply aI|with_reducible exact vM rfl|exact⟨⟩|apply nM|apply fM)
  all_goals((try apply vM);(try simp only[vq]at*);try omega)
  all_goals(try omega)
  ·subst hq
   refine Sup.of (congrArg (PV.int .i64) ?_);exact(hn.1:aP (nmG 1)=1).symm
  refine⟨1,[],⟨⟨by omega,fun j h0 hj=>?_⟩,by omega⟩,?_⟩
  ·by_cases e:j=1
   ·subst e;exact hq
   ·exact hok j h0 (by omega)
  repeat'((conv=>whnf);first|intro _|apply aI|with_reducible exact vM rfl|exact⟨⟩|apply nM|apply fM)
  all_goals((try apply vM);(try simp only[vq]at*);try omega)
 ·repeat'((conv=>whnf);first|(intro hq;(try simp only[vw]at hq);try first|exact absurd hq (by decide)|exfalso;omega)|apply aI|with_reducible exact vM rfl|exact⟨⟩|apply nM|apply fM)
  all_goals((try apply vM);(try simp only[vq]at*);try omega)
  all_goals(try omega)
  ·subst hq
   refine Sup.of (congrArg (PV.int .i64) ?_);exact(hn.2.1:aP (nmG 2)=2).symm
  refine⟨2,[],⟨⟨by omega,fun j h0 hj=>?_⟩,by omega⟩,?_⟩
  ·by_cases e:j=2
   ·subst e;exact hq
   ·exact hok j h0 (by omega)
  repeat'((conv=>whnf);first|intro _|apply aI|with_reducible exact vM rfl|exact⟨⟩|apply nM|apply fM)
  all_goals((try apply vM);(try simp only[vq]at*);try omega)
 ·repeat'((conv=>whnf);first|(intro hq;(try simp only[vw]at hq);try first|exact absurd hq (by decide)|exfalso;omega)|apply aI|with_reducible exact vM rfl|exact⟨⟩|apply nM|apply fM)
  all_goals((try apply vM);(try simp only[vq]at*);try omega)
  all_goals(try omega)
  ·subst hq
   refine Sup.of (congrArg (PV.int .i64) ?_);exact(hn.2.2.1:aP (nmG 3)=3).symm
  refine⟨3,[],⟨⟨by omega,fun j h0 hj=>?_⟩,by omega⟩,?_⟩
  ·by_cases e:j=3
   ·subst e;exact hq
   ·exact hok j h0 (by omega)
  repeat'((conv=>whnf);first|intro _|apply aI|with_reducible exact vM rfl|exact⟨⟩|apply nM|apply fM)
  all_goals((try apply vM);(try simp only[vq]at*);try omega)
 ·repeat'((conv=>whnf);first|(intro hq;(try simp only[vw]at hq);try first|exact absurd hq (by decide)|exfalso;omega)|apply aI|with_reducible exact vM rfl|exact⟨⟩|apply nM|apply fM)
  all_goals((try apply vM);(try simp only[vq]at*);try omega)
  all_goals(try omega)
  ·subst hq
   refine Sup.of (congrArg (PV.int .i64) ?_);exact(hn.2.2.2.1:aP (nmG 4)=4).symm
  refine⟨4,[],⟨⟨by omega,fun j h0 hj=>?_⟩,by omega⟩,?_⟩
  ·by_cases e:j=4
   ·subst e;exact hq
   ·exact hok j h0 (by omega)
  repeat'((conv=>whnf);first|intro _|apply aI|with_reducible exact vM rfl|exact⟨⟩|apply nM|apply fM)
  all_goals((try apply vM);(try simp only[vq]at*);try omega)
 ·repeat'((conv=>whnf);first|(intro hq;(try simp only[vw]at hq);try first|exact absurd hq (by decide)|exfalso;omega)|apply aI|with_reducible exact vM rfl|exact⟨⟩|apply nM|apply fM)
  all_goals((try apply vM);(try simp only[vq]at*);try omega)
  all_goals(try omega)
  ·subst hq
   refine Sup.of (congrArg (PV.int .i64) ?_);exact(hn.2.2.2.2:aP (nmG 5)=5).symm
  refine⟨5,[],⟨⟨by omega,fun j h0 hj=>?_⟩,by omega⟩,?_⟩
  ·by_cases e:j=5
   ·subst e;exact hq
   ·exact hok j h0 (by omega)
  repeat'((conv=>whnf);first|intro _|apply aI|with_reducible exact vM rfl|exact⟨⟩|apply nM|apply fM)
  all_goals((try apply vM);(try simp only[vq]at*);try omega)
 ·rw[Yh fun j h0 hj=>hok j h0 (by omega)]
  repeat'((conv=>whnf);first|(intro hq;(try simp only[vw]at hq);try first|exact absurd hq (by decide)|exfalso;omega)|apply aI|with_reducible exact vM rfl|exact⟨⟩|apply nM|apply fM)
  all_goals((try apply vM);(try simp only[vq]at*);try omega)
  exact Sup.of rfl
def ahG:PSp:=fun xs K=>match xs with
 | [.str r]=>VC (True)∧K (.int .i64 (aP r))
 |_=>False
theorem aip:POK Tryz.prog 70 ahG:=by
 intro xs K h;unfold ahG at h;split at h
 ·exact⟨_,h.2,ahw _⟩
 ·exact h.elim
def ahx:PSp:=fun xs K=>match xs with
 | [.str r]=>∃g:Int,VC (aP r=g)∧K (.int .i64 g)
 |_=>False
theorem ah8:POK Tryz.prog 70 ahx:=by
 intro xs K hk;unfold ahx at hk;split at hk
 ·obtain⟨g,⟨rfl⟩,hk⟩:=hk
  exact⟨_,hk,ahw _⟩
 ·exact hk.elim
noncomputable def ai3:CPT:=aA 70 (aB ahG) noC
theorem aiM:aW Tryz.prog ai3:=aj (au aip) aD
theorem ahQ (r:ByteArray):aF Tryz.prog 78 [.str r] (.bp (decide (aP r≤3))):=by
 refine av (md:=1) (rf:=[]) mixed ak aiM Tryz.func78 (by rfl) (by rfl) (by rfl) ?_
 repeat'((conv=>whnf);first|intro _|apply aI|with_reducible exact vM rfl|exact⟨⟩|apply nM|apply fM)
 all_goals((try apply vM);(try simp only[vq]at*);try omega)
 all_goals exact Sup.of rfl
noncomputable def ai4:CPT:=aA 70 (aB ahx) (aA 95 (aB Vv) noC)
theorem TS:aW Tryz.prog ai4:=aj (au ah8) (aj (au adP) aD)
theorem aiq (c:Int) (ls:List (List Int)) (sum:Int) (gv:List Int) (h:bH ls) (r:ByteArray) (y x k:Int):
 aF Tryz.prog 64 [pzV c ls sum gv,ddV r y x k] (.int .i64 (dL c ls r y x k)):=by
 have h4:=fun i=>h.at' i;have h2:=h.len;by_cases hg:aP r=0
 ·rw[show dL c ls r y x k=13 by unfold dL;rw[if_pos hg]]
  refine av (md:=1) (rf:=[]) mixed ak TS Tryz.func64 (by rfl) (by rfl) (by rfl) ?_
  repeat'((conv=>whnf);first|apply Exists.intro (0)|(intro hq;(try simp only[vw]at hq);try first|exact absurd hq (by decide)|exfalso;omega)|apply aI|with_reducible exact vM rfl|exact⟨⟩|apply nM|apply fM)
  all_goals((try apply vM);(try simp only[vq]at*);try omega)
  all_goals first|exact hg|exact Sup.of rfl|skip
 by_cases hy:y<0∨c≤y
 ·rw[show dL c ls r y x k=10 by unfold dL;rw[if_neg hg,if_pos hy]]
  refine av (md:=1) (rf:=[]) mixed ak TS Tryz.func64 (by rfl) (by rfl) (by rfl) ?_
  repeat'((conv=>whnf);first|apply Exists.intro (aP r)|(intro hq;(try simp only[vw]at hq);try first|exact absurd hq (by decide)|exfalso;omega)|apply aI|with_reducible exact vM rfl|exact⟨⟩|apply nM|apply fM)
  all_goals((try apply vM);(try simp only[vq]at*);try omega)
  all_goals first|(exfalso;contradiction)|exact Sup.of rfl|(exfalso;rcases hy with hy|hy<;>contradiction)|(exfalso;rcases hy with hy|hy<;>simp_all)|skip
 have hy1:¬y<0:=fun e=>hy (.inl e);have hy2:¬c≤y:=fun e=>hy (.inr e);by_cases hx:x<1∨c<x
 ·rw[show dL c ls r y x k=3 by unfold dL;rw[if_neg hg,if_neg hy,if_pos hx]]
  clear hy;refine av (md:=1) (rf:=[]) mixed ak TS Tryz.func64 (by rfl) (by rfl) (by rfl) ?_
  repeat'((conv=>whnf);first|apply Exists.intro (aP r)|(intro hq;(try simp only[vw]at hq);try first|exact absurd hq (by decide)|exfalso;omega)|apply aI|with_reducible exact vM rfl|exact⟨⟩|apply nM|apply fM)
  all_goals((try apply vM);(try simp only[vq]at*);try omega)
  all_goals first|(exfalso;contradiction)|exact Sup.of rfl|(exfalso;rcases hx with hx|hx<;>contradiction)|(exfalso;rcases hx with hx|hx<;>simp_all)|skip
 have hx1:¬x<1:=fun e=>hx (.inl e);have hx2:¬c<x:=fun e=>hx (.inr e);obtain⟨rfl,hgr⟩|⟨rfl,hgr⟩|⟨rfl,hgr⟩|⟨rfl,hgr⟩|⟨rfl,hgr⟩|hgr:=l8 r
 ·rw[show dL c ls bJ y x k=if k<0∨ls.length≤k∨y∉ls.getD k.toNat []then 10 else 0 by unfold dL;rw[if_neg (by rw[hgr];decide),if_neg hy,if_neg hx,if_neg (by rw[hgr];decide)]]
  clear hy hx hg;refine av (md:=1) (rf:=[]) mixed ak TS Tryz.func64 (by rfl) (by rfl) (by rfl) ?_
  repeat'((conv=>whnf);first|apply Exists.intro (1)|(intro hq;(try simp only[vw]at hq);try first|exact absurd hq (by decide)|exfalso;omega)|apply aI|with_reducible exact vM rfl|exact⟨⟩|apply nM|apply fM)
  all_goals((try apply vM);(try simp only[vq]at*);try omega)
  all_goals first|exact hgr|(exfalso;contradiction)|(have:=h4 k.toNat;omega)|(exact Sup.of (by simp_all[bF]))|skip
 ·rw[show dL c ls bU y x k=if k≠ -1 then 10 else 0 by unfold dL;rw[if_neg (by rw[hgr];decide),if_neg hy,if_neg hx,if_pos (by rw[hgr];decide)]]
  clear hy hx hg;refine av (md:=1) (rf:=[]) mixed ak TS Tryz.func64 (by rfl) (by rfl) (by rfl) ?_
  repeat'((conv=>whnf);first|apply Exists.intro (2)|(intro hq;(try simp only[vw]at hq);try first|exact absurd hq (by decide)|exfalso;omega)|apply aI|with_reducible exact vM rfl|exact⟨⟩|apply nM|apply fM)
  all_goals((try apply vM);(try simp only[vq]at*);try omega)
  all_goals first|exact hgr|(exfalso;contradiction)|(exact Sup.of (by simp_all[bF]))|skip
 ·rw[show dL c ls bV y x k=if k≠ -1 then 10 else 0 by unfold dL;rw[if_neg (by rw[hgr];decide),if_neg hy,if_neg hx,if_pos (by rw[hgr];decide)]]
  clear hy hx hg;refine av (md:=1) (rf:=[]) mixed ak TS Tryz.func64 (by rfl) (by rfl) (by rfl) ?_
  repeat'((conv=>whnf);first|apply Exists.intro (3)|(intro hq;(try simp only[vw]at hq);try first|exact absurd hq (by decide)|exfalso;omega)|apply aI|with_reducible exact vM rfl|exact⟨⟩|apply nM|apply fM)
  all_goals((try apply vM);(try simp only[vq]at*);try omega)
  all_goals first|exact hgr|(exfalso;contradiction)|(exact Sup.of (by simp_all[bF]))|skip
 ·rw[show dL c ls bR y x k=if k<0∨ls.length≤k∨y∉ls.getD k.toNat []then 10 else 0 by unfold dL;rw[if_neg (by rw[hgr];decide),if_neg hy,if_neg hx,if_neg (by rw[hgr];decide)]]
  clear hy hx hg;refine av (md:=1) (rf:=[]) mixed ak TS Tryz.func64 (by rfl) (by rfl) (by rfl) ?_
  repeat'((conv=>whnf);first|apply Exists.intro (4)|(intro hq;(try simp only[vw]at hq);try first|exact absurd hq (by decide)|exfalso;omega)|apply aI|with_reducible exact vM rfl|exact⟨⟩|apply nM|apply fM)
  all_goals((try apply vM);(try simp only[vq]at*);try omega)
  all_goals first|exact hgr|(exfalso;contradiction)|(have:=h4 k.toNat;omega)|(exact Sup.of (by simp_all[bF]))|skip
 ·rw[show dL c ls bS y x k=if k<0∨ls.length≤k∨y∉ls.getD k.toNat []then 10 else 0 by unfold dL;rw[if_neg (by rw[hgr];decide),if_neg hy,if_neg hx,if_neg (by rw[hgr];decide)]]
  clear hy hx hg;refine av (md:=1) (rf:=[]) mixed ak TS Tryz.func64 (by rfl) (by rfl) (by rfl) ?_
  repeat'((conv=>whnf);first|apply Exists.intro (5)|(intro hq;(try simp only[vw]at hq);try first|exact absurd hq (by decide)|exfalso;omega)|apply aI|with_reducible exact vM rfl|exact⟨⟩|apply nM|apply fM)
  all_goals((try apply vM);(try simp only[vq]at*);try omega)
  all_goals first|exact hgr|(exfalso;contradiction)|(have:=h4 k.toNat;omega)|(exact Sup.of (by simp_all[bF]))|skip
 exact absurd hgr hg
def ah9:PSp:=fun xs K=>match xs with
 | [.agg [.int .i64 c,.isl (.rows .i64 ls) .none,.int .i64 sum,.isl (.ints .i64 gv) .none],.agg [.str r,.int .i64 y,.int .i64 x,.int .i64 k]]=>VC (bH ls)∧K (.int .i64 (dL c ls r y x k))
 |_=>False
theorem aiN:POK Tryz.prog 64 ah9:=by
 intro xs K h;unfold ah9 at h;split at h
 ·exact⟨_,h.2,aiq _ _ _ _ h.1.get _ _ _ _⟩
 ·exact h.elim
theorem aiw {s:St} {y z x:Int} {r used:List Int} (hz:z∈s.cd y.toNat) (hu:z∉used) (hc:chs s r (used++[z]) (x-z)=true):chs s (y::r) used x=true:=by
 unfold chs;rw[agC];exact⟨z,agh.2 ⟨hz,by simp[hu]⟩,hc⟩
theorem air {s:St} {y x:Int} {r used:List Int} (h:∀z∈s.cd y.toNat,z∈used∨chs s r (used++[z]) (x-z)=false):chs s (y::r) used x=false:=by
 unfold chs;rw[agD];intro z hz;obtain⟨h1,h2⟩:=agh.1 hz;rcases h z h1 with h3|h3
 ·simp[h3]at h2
 ·rw[h3];simp
structure ahH (c:Int) (ls:List (List Int)) (sum:Int) (s:St) (o used:List Int) (x:Int):Prop where
 bd:bO c ls sum s
 rng:∀y∈o,0≤y∧y<c
 len:o.length+used.length≤30
 x: -2000000000+16*(o.length:Int)≤x∧x≤2000000000
def ahR (c:Int) (ls:List (List Int)) (sum:Int) (s:St) (n:Nat):PSp:=fun xs K=>match xs with
 | [.agg [.isl (.rows .i64 CS) .none,.isl (.bools DS) .none],.isl (.ints .i64 o) .none,.isl (.ints .i64 used) .none,.int .i64 x]=>VC (CS=s.cs∧DS=s.ds∧o.length<n∧ahH c ls sum s o used x)∧K (.bp (chs s o used x))
 |_=>False
theorem aix (c:Int) (ls:List (List Int)) (sum:Int) (s:St):∀n,POK Tryz.prog 136 (ahR c ls sum s n):=by
 intro n;induction n with
 |zero=>
  intro xs K hk;unfold ahR at hk;split at hk
  ·obtain⟨⟨_,_,h,_⟩,_⟩:=hk;omega
  ·exact hk.elim
 |succ n ih=>
  intro xs K hk;unfold ahR at hk;split at hk
  ·rename_i CS DS o used x
   obtain⟨⟨rfl,rfl,hn,h⟩,hk⟩:=hk;refine⟨_,hk,?_⟩;have hC:aW Tryz.prog (aA 95 (aB Vv) (aA 136 (aB (ahR c ls sum s n)) noC)):=aj (au adP) (aj (au ih) aD);have hb:=h.bd;have hcl:=hb.cl;have hlen:=h.len;have hx:=h.x;cases o with
   |nil=>
    refine av (md:=1) (rf:=[]) mixed ak hC Tryz.func136 (by rfl) (by rfl) (by rfl) ?_
    repeat'((conv=>whnf);first|(intro hq;(try simp only[vw]at hq);try first|exact absurd hq (by decide)|exfalso;omega)|apply aI|with_reducible exact vM rfl|exact⟨⟩|apply nM|apply fM)
    all_goals((try apply vM);(try simp only[vq]at*);try omega)
    all_goals first|exact Sup.of rfl|skip
   |cons y r=>
    have hy:=h.rng y (List.mem_cons_self ..);have hys:=hb.at hy;have hA:=(hb.asc _ hys.1).1;have k16:(s.cs.getD y.toNat []).length≤16:=Ap hA;have hr:=hA.rng;refine av (md:=1) (rf:=[]) mixed ak hC Tryz.func136 (by rfl) (by rfl) (by rfl) ?_
    repeat'((conv=>whnf);first|(intro hq;(try simp only[vw]at hq);try first|exact absurd hq (by decide)|exfalso;omega)|apply aI|with_reducible exact vM rfl|exact⟨⟩|apply nM|apply fM)
    all_goals((try apply vM);(try simp only[vq]at*);try omega)
    all_goals(try first|exact hy.1|(show y<(s.cs.length:Int);omega)|(show y.toNat+1≤s.cs.length;omega))
    obtain⟨L,hL⟩:∃L,s.cs.getD y.toNat []=L:=⟨_,rfl⟩;have hLd:s.cd y.toNat=L:=hL;show bI (.isl (.ints .i64 (s.cs.getD y.toNat [])) .none) _;rw[hL];conv=>whnf
    have hlr:((y::r).length:Int)=r.length+1:=by simp
    have hln:(y::r).length=r.length+1:=rfl;have hch:∀z∈L,ahH c ls sum s r (used++[z]) (x-z):=fun z hz=>by
     have:=hr z (by rw[hLd];exact hz)
     refine⟨hb,fun w hw=>h.rng w (List.mem_cons_of_mem _ hw),?_,?_⟩
     ·rw[afu,ajc];omega
     ·omega
    refine aM (X:=Nat) (fun i=>i≤L.length∧∀z∈L.take i,z∈used∨chs s r (used++[z]) (x-z)=false) (fun i=>[(10,.int .i64 i)]) (fun i=>[]) (fun i=>L.length-i) 0 ⟨aK,mixed,ak,hC,aQ⟩ (by rfl) ⟨by omega,by simp⟩ ?_ ?_
    ·repeat'((conv=>whnf);first|intro _|apply aI|with_reducible exact vM rfl|exact⟨⟩|apply nM|apply fM)
     all_goals((try apply vM);(try simp only[vq]at*);try omega)
    intro i ⟨hi,hok⟩;rw[hL]at k16;by_cases hlt:i<L.length
    ·have hz:=bL hlt
     have hzr:=hr (L.getD i 0) (by rw[hLd];exact hz)
     have tk:agH (r.length+1-agt 1) (agI (agt 1) (y::r))=r:=by
      show agH (r.length+1-1) (agI 1 (y::r))=r;simp
     have hnx:∀(hx':L.getD i 0∈used∨chs s r (used++[L.getD i 0]) (x-L.getD i 0)=false),∀z∈L.take (i+1),z∈used∨chs s r (used++[z]) (x-z)=false:=fun hx' z hz=>by
      rw[dF hlt]at hz;rcases List.mem_append.1 hz with hz|hz
      ·exact hok z hz
      ·rw[List.mem_singleton]at hz;subst hz;exact hx'
     repeat'((conv=>whnf);first|(intro hq;(try simp only[vw]at hq);try first|exact absurd hq (by decide)|exfalso;omega)|apply aI|with_reducible exact vM rfl|exact⟨⟩|apply nM|apply fM)
     all_goals((try apply vM);(try simp only[vq]at*);try omega)
     all_goals(try rw[tk]at*)
     all_goals(try rw[ajd]at*)
     all_goals(try simp only[afu,ajc])
     all_goals(try first|omega|exact⟨by omega,hch _ hz⟩)
     ·exact .inl trivial
     ·rw[aiw (by rw[hLd];exact hz) ‹_› hq];exact dK true
     ·refine⟨i+1,[],⟨⟨by omega,hnx (.inr hq)⟩,by omega⟩,?_⟩
      repeat'((conv=>whnf);first|intro _|apply aI|with_reducible exact vM rfl|exact⟨⟩|apply nM|apply fM)
      all_goals((try apply vM);(try simp only[vq]at*);try omega)
     ·refine⟨i+1,[],⟨⟨by omega,hnx (.inl hq)⟩,by omega⟩,?_⟩
      repeat'((conv=>whnf);first|intro _|apply aI|with_reducible exact vM rfl|exact⟨⟩|apply nM|apply fM)
      all_goals((try apply vM);(try simp only[vq]at*);try omega)
    have e:i=L.length:=by omega
    subst e;rw[af5]at hok;rw[air (by rw[hLd];exact hok)]
    repeat'((conv=>whnf);first|(intro hq;(try simp only[vw]at hq);try first|exact absurd hq (by decide)|exfalso;omega)|apply aI|with_reducible exact vM rfl|exact⟨⟩|apply nM|apply fM)
    all_goals((try apply vM);(try simp only[vq]at*);try omega)
    all_goals first|exact dK false|skip
  ·exact hk.elim
def aia:PSp:=fun xs K=>match xs with
 | [.agg [.isl (.rows .i64 CS) .none,.isl (.bools DS) .none],.isl (.ints .i64 o) .none,.isl (.ints .i64 used) .none,.int .i64 x]=>VC (∃c ls sum,ahH c ls sum ⟨CS,DS⟩ o used x)∧K (.bp (chs ⟨CS,DS⟩ o used x))
 |_=>False
theorem aiy:POK Tryz.prog 136 aia:=by
 intro xs K hk;unfold aia at hk;split at hk
 ·rename_i CS DS o used x
  obtain⟨⟨c,ls,sum,h⟩,hk⟩:=hk;exact aix c ls sum ⟨CS,DS⟩ (o.length+1) _ _ ⟨⟨rfl,rfl,by omega,h⟩,hk⟩
 ·exact hk.elim
structure ahV (c:Int) (ls:List (List Int)) (sum:Int) (s:St) (k:Int):Prop where
 bd:bO c ls sum s
 k:0≤k∧k<ls.length
def ahA:PSp:=fun xs K=>match xs with
 | [.agg [.int .i64 c,.isl (.rows .i64 ls) .none,.int .i64 sum,.isl (.ints .i64 gv) .none],.agg [.isl (.rows .i64 CS) .none,.isl (.bools DS) .none],.int .i64 k,.int .i64 b]=>VC (ahV c ls sum ⟨CS,DS⟩ k)∧K (.isl (.ints .i64 (opn ⟨CS,DS⟩ (ls.getD k.toNat []) b)) .none)
 |_=>False
theorem ahW:POK Tryz.prog 96 ahA:=by
 intro xs K hk;unfold ahA at hk;split at hk
 ·exact⟨_,hk.2,ah5 _ _ _ _ ⟨_,_⟩ hk.1.get.bd _ _ hk.1.get.k⟩
 ·exact hk.elim
def ahB:PSp:=fun xs K=>match xs with
 | [.agg [.int .i64 c,.isl (.rows .i64 ls) .none,.int .i64 sum,.isl (.ints .i64 gv) .none],.agg [.isl (.rows .i64 CS) .none,.isl (.bools DS) .none],.int .i64 k]=>VC (ahV c ls sum ⟨CS,DS⟩ k)∧K (.int .i64 (rst ⟨CS,DS⟩ sum (ls.getD k.toNat [])))
 |_=>False
theorem ahX:POK Tryz.prog 97 ahB:=by
 intro xs K hk;unfold ahB at hk;split at hk
 ·exact⟨_,hk.2,ah6 _ _ _ _ ⟨_,_⟩ hk.1.get.bd _ hk.1.get.k⟩
 ·exact hk.elim
noncomputable def ai5:CPT:=aA 95 (aB Vv) (aA 96 (aB ahA) (aA 97 (aB ahB) (aA 135 (aB ah7) (aA 136 (aB aia) noC))))
theorem dw:aW Tryz.prog ai5:=aj (au adP) (aj (au ahW) (aj (au ahX) (aj (au aiL) (aj (au aiy) aD))))
theorem aib (c:Int) (ls:List (List Int)) (sum:Int) (gv:List Int) (s:St) (h:bO c ls sum s) (r:ByteArray) (y x k:Int) (hd:l9 c ls r y x k):
 aF Tryz.prog 75 [pzV c ls sum gv,stV s,ddV r y x k] (.bp (okJ (aP r).toNat s sum (ls.getD k.toNat []) y x)):=by
 have hc:=h.c1;have hy:=hd.y;have hx:=hd.x;have hxs:=h.at hy;have hA:=(h.asc _ hxs.1).1;have k16:(s.cs.getD y.toNat []).length≤16:=Ap hA;have hcl:=h.cl;have hdl:=h.dl;have hsm:=h.sm;obtain⟨rfl,hg⟩|⟨rfl,hg⟩|⟨rfl,hg⟩|⟨rfl,hg⟩|⟨rfl,hg⟩|hg:=l8 r
 ·have hk:0≤k∧k<ls.length:=by
   have:=hd.k;rw[hg]at this;omega
  have hln:=h.ln k.toNat (by omega)
  have hll:=hln.len;have hb:=Fh h hln.rng (ls.getD k.toNat []).length (aea _);rw[af5]at hb;have hR:ahV c ls sum s k:=⟨h,hk⟩;have hol:(opn s (ls.getD k.toNat []) y).length≤16:=afW (agM _ _) hll;have hor:∀z∈opn s (ls.getD k.toNat []) y,0≤z∧z<c:=fun z hz=>hln.rng z (Jv hz);have hB:∃c ls sum,ahU c ls sum ⟨s.cs,s.ds⟩ (opn s (ls.getD k.toNat []) y) (rst s sum (ls.getD k.toNat [])-x):=⟨c,ls,sum,h,hor,hol,by omega,by omega⟩
  have hC:∃c ls sum,ahH c ls sum ⟨s.cs,s.ds⟩ (opn s (ls.getD k.toNat []) y) [x] (rst s sum (ls.getD k.toNat [])-x):=⟨c,ls,sum,h,hor,by rw[ajc];omega,by omega,by omega⟩
  rw[hg];have hs:(⟨s.cs,s.ds⟩:St)=s:=rfl;have hok:okJ (agt 1) s sum (ls.getD k.toNat []) y x=(!s.dc y.toNat&&(decide (x∈s.cd y.toNat)&&xO s sum (ls.getD k.toNat []) y x)):=rfl;rw[hok];by_cases hdc:s.ds.getD y.toNat false=true
  ·rw[show s.dc y.toNat=true from hdc,aeW,agn]
   refine av (md:=1) (rf:=[]) mixed ak dw Tryz.func75 (by rfl) (by rfl) (by rfl) ?_
   repeat'((conv=>whnf);first|(intro hq;(try simp only[vw]at hq);try first|exact absurd hq (by decide)|exfalso;omega)|apply aI|with_reducible exact vM rfl|exact⟨⟩|apply nM|apply fM)
   all_goals((try apply vM);(try simp only[vq]at*);try omega)
   all_goals first|omega|exact dK false|(exfalso;simp_all;done)|(rw[show(⟨s.cs,s.ds⟩:St)=s from rfl];first|omega|exact hB|exact hC)|skip
  have hdc:s.ds.getD y.toNat false=false:=by simpa using hdc
  by_cases hm:x∈s.cs.getD y.toNat []
  case neg=>
   rw[show decide (x∈s.cd y.toNat)=false from decide_eq_false hm,agn,agR];refine av (md:=1) (rf:=[]) mixed ak dw Tryz.func75 (by rfl) (by rfl) (by rfl) ?_
   repeat'((conv=>whnf);first|(intro hq;(try simp only[vw]at hq);try first|exact absurd hq (by decide)|exfalso;omega)|apply aI|with_reducible exact vM rfl|exact⟨⟩|apply nM|apply fM)
   all_goals((try apply vM);(try simp only[vq]at*);try omega)
   all_goals first|omega|exact dK false|(exfalso;simp_all;done)|(rw[show(⟨s.cs,s.ds⟩:St)=s from rfl];first|omega|exact hB|exact hC)|skip
  rw[show s.dc y.toNat=false from hdc,show decide (x∈s.cd y.toNat)=true from decide_eq_true hm,aeV,agO,agO];refine av (md:=1) (rf:=[]) mixed ak dw Tryz.func75 (by rfl) (by rfl) (by rfl) ?_
  repeat'((conv=>whnf);first|(intro hq;(try simp only[vw]at hq);try first|exact absurd hq (by decide)|exfalso;omega)|apply aI|with_reducible exact vM rfl|exact⟨⟩|apply nM|apply fM)
  all_goals((try apply vM);(try simp only[vq]at*);try omega)
  all_goals(try rw[show(⟨s.cs,s.ds⟩:St)=s from rfl])
  all_goals(try rw[show(⟨s.cs,s.ds⟩:St)=s from rfl]at hq)
  all_goals(try first|omega|exact hB|exact hC|(exfalso;exact(‹¬x∈s.cs.getD y.toNat []›) hm)|(exfalso;simp_all;done))
  ·rw[show xO s sum (ls.getD k.toNat []) y x=decide (rst s sum (ls.getD k.toNat [])-x=0) by unfold xO;rw[decide_eq_true (by omega),agO];exact decide_eq_decide.2 (by omega)]
   exact Sup.of rfl
  ·rw[show xO s sum (ls.getD k.toNat []) y x=false by unfold xO;rw[decide_eq_false (by omega),agn]]
   exact dK false
 ·rw[hg]
  have hB:True:=trivial;have hC:True:=trivial;have hs:(⟨s.cs,s.ds⟩:St)=s:=rfl;have hok:okJ (agt 2) s sum (ls.getD k.toNat []) y x=(!s.dc y.toNat&&(decide (x∈s.cd y.toNat)&&xP s y)):=rfl;rw[hok];by_cases hdc:s.ds.getD y.toNat false=true
  ·rw[show s.dc y.toNat=true from hdc,aeW,agn]
   refine av (md:=1) (rf:=[]) mixed ak dw Tryz.func75 (by rfl) (by rfl) (by rfl) ?_
   repeat'((conv=>whnf);first|(intro hq;(try simp only[vw]at hq);try first|exact absurd hq (by decide)|exfalso;omega)|apply aI|with_reducible exact vM rfl|exact⟨⟩|apply nM|apply fM)
   all_goals((try apply vM);(try simp only[vq]at*);try omega)
   all_goals first|omega|exact dK false|(exfalso;simp_all;done)|(rw[show(⟨s.cs,s.ds⟩:St)=s from rfl];first|omega|exact hB|exact hC)|skip
  have hdc:s.ds.getD y.toNat false=false:=by simpa using hdc
  by_cases hm:x∈s.cs.getD y.toNat []
  case neg=>
   rw[show decide (x∈s.cd y.toNat)=false from decide_eq_false hm,agn,agR];refine av (md:=1) (rf:=[]) mixed ak dw Tryz.func75 (by rfl) (by rfl) (by rfl) ?_
   repeat'((conv=>whnf);first|(intro hq;(try simp only[vw]at hq);try first|exact absurd hq (by decide)|exfalso;omega)|apply aI|with_reducible exact vM rfl|exact⟨⟩|apply nM|apply fM)
   all_goals((try apply vM);(try simp only[vq]at*);try omega)
   all_goals first|omega|exact dK false|(exfalso;simp_all;done)|(rw[show(⟨s.cs,s.ds⟩:St)=s from rfl];first|omega|exact hB|exact hC)|skip
  rw[show s.dc y.toNat=false from hdc,show decide (x∈s.cd y.toNat)=true from decide_eq_true hm,aeV,agO,agO];refine av (md:=1) (rf:=[]) mixed ak dw Tryz.func75 (by rfl) (by rfl) (by rfl) ?_
  repeat'((conv=>whnf);first|(intro hq;(try simp only[vw]at hq);try first|exact absurd hq (by decide)|exfalso;omega)|apply aI|with_reducible exact vM rfl|exact⟨⟩|apply nM|apply fM)
  all_goals((try apply vM);(try simp only[vq]at*);try omega)
  all_goals(try rw[show(⟨s.cs,s.ds⟩:St)=s from rfl])
  all_goals(try rw[show(⟨s.cs,s.ds⟩:St)=s from rfl]at hq)
  all_goals(try first|omega|exact hB|exact hC|(exfalso;exact(‹¬x∈s.cs.getD y.toNat []›) hm)|(exfalso;simp_all;done))
  ·rw[show xP s y=decide (((s.cs.getD y.toNat []).length:Int)=1) by unfold xP St.cd;exact decide_eq_decide.2 (by omega)]
   exact Sup.of rfl
 ·rw[hg]
  have hs:(⟨s.cs,s.ds⟩:St)=s:=rfl;have hB:True:=trivial;have hC:True:=trivial;have hok:okJ (agt 3) s sum (ls.getD k.toNat []) y x=(!s.dc y.toNat&&(decide (x∈s.cd y.toNat)&&qd s y x)):=rfl;rw[hok];by_cases hdc:s.ds.getD y.toNat false=true
  ·rw[show s.dc y.toNat=true from hdc,aeW,agn]
   refine av (md:=1) (rf:=[]) mixed ak dw Tryz.func75 (by rfl) (by rfl) (by rfl) ?_
   repeat'((conv=>whnf);first|(intro hq;(try simp only[vw]at hq);try first|exact absurd hq (by decide)|exfalso;omega)|apply aI|with_reducible exact vM rfl|exact⟨⟩|apply nM|apply fM)
   all_goals((try apply vM);(try simp only[vq]at*);try omega)
   all_goals first|omega|exact dK false|(exfalso;simp_all;done)|(rw[show(⟨s.cs,s.ds⟩:St)=s from rfl];first|omega|exact hB|exact hC)|skip
  have hdc:s.ds.getD y.toNat false=false:=by simpa using hdc
  by_cases hm:x∈s.cs.getD y.toNat []
  case neg=>
   rw[show decide (x∈s.cd y.toNat)=false from decide_eq_false hm,agn,agR];refine av (md:=1) (rf:=[]) mixed ak dw Tryz.func75 (by rfl) (by rfl) (by rfl) ?_
   repeat'((conv=>whnf);first|(intro hq;(try simp only[vw]at hq);try first|exact absurd hq (by decide)|exfalso;omega)|apply aI|with_reducible exact vM rfl|exact⟨⟩|apply nM|apply fM)
   all_goals((try apply vM);(try simp only[vq]at*);try omega)
   all_goals first|omega|exact dK false|(exfalso;simp_all;done)|(rw[show(⟨s.cs,s.ds⟩:St)=s from rfl];first|omega|exact hB|exact hC)|skip
  rw[show s.dc y.toNat=false from hdc,show decide (x∈s.cd y.toNat)=true from decide_eq_true hm,aeV,agO,agO];refine av (md:=1) (rf:=[]) mixed ak dw Tryz.func75 (by rfl) (by rfl) (by rfl) ?_
  repeat'((conv=>whnf);first|(intro hq;(try simp only[vw]at hq);try first|exact absurd hq (by decide)|exfalso;omega)|apply aI|with_reducible exact vM rfl|exact⟨⟩|apply nM|apply fM)
  all_goals((try apply vM);(try simp only[vq]at*);try omega)
  all_goals(try rw[show(⟨s.cs,s.ds⟩:St)=s from rfl])
  all_goals(try rw[show(⟨s.cs,s.ds⟩:St)=s from rfl]at hq)
  all_goals(try first|omega|exact hB|exact hC|(exfalso;exact(‹¬x∈s.cs.getD y.toNat []›) hm)|(exfalso;simp_all;done))
  conv=>whnf
  refine aM (X:=Nat) (fun i=>i≤s.cs.length∧∀j,j<i→(decide ((j:Int)=y)||!decide (x∈s.cd j))=true) (fun i=>[(7,.int .i64 i)]) (fun i=>[]) (fun i=>s.cs.length-i) 0 ⟨aK,mixed,ak,dw,aQ⟩ (by rfl) ⟨by omega,fun j hj=>by omega⟩ ?_ ?_
  ·repeat'((conv=>whnf);first|intro _|apply aI|with_reducible exact vM rfl|exact⟨⟩|apply nM|apply fM)
   all_goals((try apply vM);(try simp only[vq]at*);try omega)
  intro i ⟨hi,hall⟩;by_cases hlt:i<s.cs.length
  ·have k17:(s.cs.getD i []).length≤16:=Ap (h.asc i hlt).1
   have hno:x∈s.cs.getD i []→(i:Int)≠y→qd s y x=false:=fun h1 h2=>by
    unfold qd;rw[ahh];exact⟨i,afY.2 hlt,by rw[decide_eq_false h2,show decide (x∈s.cd i)=true from decide_eq_true h1];decide⟩
   have hnx:((i:Int)=y∨x∉s.cs.getD i [])→∀j,j<i+1→(decide ((j:Int)=y)||!decide (x∈s.cd j))=true:=fun h1 j hj=>by
    by_cases e:j=i
    ·subst e
     rcases h1 with h1|h1
     ·rw[decide_eq_true h1];rfl
     ·rw[show decide (x∈s.cd j)=false from decide_eq_false h1];simp
    ·exact hall j (by omega)
   repeat'((conv=>whnf);first|(intro hq;(try simp only[vw]at hq);try first|exact absurd hq (by decide)|exfalso;omega)|apply aI|with_reducible exact vM rfl|exact⟨⟩|apply nM|apply fM)
   all_goals((try apply vM);(try simp only[vq]at*);try omega)
   all_goals(try omega)
   ·rw[hno (by assumption) (by assumption)];exact dK false
   ·refine⟨i+1,[],⟨⟨by omega,hnx (.inr (by assumption))⟩,by omega⟩,?_⟩
    repeat'((conv=>whnf);first|intro _|apply aI|with_reducible exact vM rfl|exact⟨⟩|apply nM|apply fM)
    all_goals((try apply vM);(try simp only[vq]at*);try omega)
   ·refine⟨i+1,[],⟨⟨by omega,hnx (.inl (by omega))⟩,by omega⟩,?_⟩
    repeat'((conv=>whnf);first|intro _|apply aI|with_reducible exact vM rfl|exact⟨⟩|apply nM|apply fM)
    all_goals((try apply vM);(try simp only[vq]at*);try omega)
  have e:i=s.cs.length:=by omega
  subst e;have ht:qd s y x=true:=by
   unfold qd;rw[afI];exact fun j hj=>hall j (afY.1 hj)
  rw[ht]
  repeat'((conv=>whnf);first|(intro hq;(try simp only[vw]at hq);try first|exact absurd hq (by decide)|exfalso;omega)|apply aI|with_reducible exact vM rfl|exact⟨⟩|apply nM|apply fM)
  all_goals((try apply vM);(try simp only[vq]at*);try omega)
  all_goals first|omega|exact dK true|skip
 ·have hk:0≤k∧k<ls.length:=by
   have:=hd.k;rw[hg]at this;omega
  have hln:=h.ln k.toNat (by omega)
  have hll:=hln.len;have hb:=Fh h hln.rng (ls.getD k.toNat []).length (aea _);rw[af5]at hb;have hR:ahV c ls sum s k:=⟨h,hk⟩;have hol:(opn s (ls.getD k.toNat []) y).length≤16:=afW (agM _ _) hll;have hor:∀z∈opn s (ls.getD k.toNat []) y,0≤z∧z<c:=fun z hz=>hln.rng z (Jv hz);have hB:∃c ls sum,ahU c ls sum ⟨s.cs,s.ds⟩ (opn s (ls.getD k.toNat []) y) (rst s sum (ls.getD k.toNat [])-x):=⟨c,ls,sum,h,hor,hol,by omega,by omega⟩
  have hC:∃c ls sum,ahH c ls sum ⟨s.cs,s.ds⟩ (opn s (ls.getD k.toNat []) y) [x] (rst s sum (ls.getD k.toNat [])-x):=⟨c,ls,sum,h,hor,by rw[ajc];omega,by omega,by omega⟩
  rw[hg];have hs:(⟨s.cs,s.ds⟩:St)=s:=rfl;have hok:okJ (agt 4) s sum (ls.getD k.toNat []) y x=(!s.dc y.toNat&&(decide (x∈s.cd y.toNat)&&xS s sum (ls.getD k.toNat []) y x)):=rfl;rw[hok];by_cases hdc:s.ds.getD y.toNat false=true
  ·rw[show s.dc y.toNat=true from hdc,aeW,agn]
   refine av (md:=1) (rf:=[]) mixed ak dw Tryz.func75 (by rfl) (by rfl) (by rfl) ?_
   repeat'((conv=>whnf);first|(intro hq;(try simp only[vw]at hq);try first|exact absurd hq (by decide)|exfalso;omega)|apply aI|with_reducible exact vM rfl|exact⟨⟩|apply nM|apply fM)
   all_goals((try apply vM);(try simp only[vq]at*);try omega)
   all_goals first|omega|exact dK false|(exfalso;simp_all;done)|(rw[show(⟨s.cs,s.ds⟩:St)=s from rfl];first|omega|exact hB|exact hC)|skip
  have hdc:s.ds.getD y.toNat false=false:=by simpa using hdc
  by_cases hm:x∈s.cs.getD y.toNat []
  case neg=>
   rw[show decide (x∈s.cd y.toNat)=false from decide_eq_false hm,agn,agR];refine av (md:=1) (rf:=[]) mixed ak dw Tryz.func75 (by rfl) (by rfl) (by rfl) ?_
   repeat'((conv=>whnf);first|(intro hq;(try simp only[vw]at hq);try first|exact absurd hq (by decide)|exfalso;omega)|apply aI|with_reducible exact vM rfl|exact⟨⟩|apply nM|apply fM)
   all_goals((try apply vM);(try simp only[vq]at*);try omega)
   all_goals first|omega|exact dK false|(exfalso;simp_all;done)|(rw[show(⟨s.cs,s.ds⟩:St)=s from rfl];first|omega|exact hB|exact hC)|skip
  rw[show s.dc y.toNat=false from hdc,show decide (x∈s.cd y.toNat)=true from decide_eq_true hm,aeV,agO,agO];refine av (md:=1) (rf:=[]) mixed ak dw Tryz.func75 (by rfl) (by rfl) (by rfl) ?_
  repeat'((conv=>whnf);first|(intro hq;(try simp only[vw]at hq);try first|exact absurd hq (by decide)|exfalso;omega)|apply aI|with_reducible exact vM rfl|exact⟨⟩|apply nM|apply fM)
  all_goals((try apply vM);(try simp only[vq]at*);try omega)
  all_goals(try rw[show(⟨s.cs,s.ds⟩:St)=s from rfl])
  all_goals(try rw[show(⟨s.cs,s.ds⟩:St)=s from rfl]at hq)
  all_goals(try first|omega|exact hB|exact hC|(exfalso;exact(‹¬x∈s.cs.getD y.toNat []›) hm)|(exfalso;simp_all;done))
  ·exact⟨c,ls,sum,h,hor,hol,by omega,by omega⟩
  ·rw[aiK];exact Sup.of rfl
 ·have hk:0≤k∧k<ls.length:=by
   have:=hd.k;rw[hg]at this;omega
  have hln:=h.ln k.toNat (by omega)
  have hll:=hln.len;have hb:=Fh h hln.rng (ls.getD k.toNat []).length (aea _);rw[af5]at hb;have hR:ahV c ls sum s k:=⟨h,hk⟩;have hol:(opn s (ls.getD k.toNat []) y).length≤16:=afW (agM _ _) hll;have hor:∀z∈opn s (ls.getD k.toNat []) y,0≤z∧z<c:=fun z hz=>hln.rng z (Jv hz);have hB:∃c ls sum,ahU c ls sum ⟨s.cs,s.ds⟩ (opn s (ls.getD k.toNat []) y) (rst s sum (ls.getD k.toNat [])-x):=⟨c,ls,sum,h,hor,hol,by omega,by omega⟩
  have hC:∃c ls sum,ahH c ls sum ⟨s.cs,s.ds⟩ (opn s (ls.getD k.toNat []) y) [x] (rst s sum (ls.getD k.toNat [])-x):=⟨c,ls,sum,h,hor,by rw[ajc];omega,by omega,by omega⟩
  rw[hg];have hs:(⟨s.cs,s.ds⟩:St)=s:=rfl;have hok:okJ (agt 5) s sum (ls.getD k.toNat []) y x=(!s.dc y.toNat&&(decide (x∈s.cd y.toNat)&&xU s sum (ls.getD k.toNat []) y x)):=rfl;rw[hok];by_cases hdc:s.ds.getD y.toNat false=true
  ·rw[show s.dc y.toNat=true from hdc,aeW,agn]
   refine av (md:=1) (rf:=[]) mixed ak dw Tryz.func75 (by rfl) (by rfl) (by rfl) ?_
   repeat'((conv=>whnf);first|(intro hq;(try simp only[vw]at hq);try first|exact absurd hq (by decide)|exfalso;omega)|apply aI|with_reducible exact vM rfl|exact⟨⟩|apply nM|apply fM)
   all_goals((try apply vM);(try simp only[vq]at*);try omega)
   all_goals first|omega|exact dK false|(exfalso;simp_all;done)|(rw[show(⟨s.cs,s.ds⟩:St)=s from rfl];first|omega|exact hB|exact hC)|skip
  have hdc:s.ds.getD y.toNat false=false:=by simpa using hdc
  by_cases hm:x∈s.cs.getD y.toNat []
  case neg=>
   rw[show decide (x∈s.cd y.toNat)=false from decide_eq_false hm,agn,agR];refine av (md:=1) (rf:=[]) mixed ak dw Tryz.func75 (by rfl) (by rfl) (by rfl) ?_
   repeat'((conv=>whnf);first|(intro hq;(try simp only[vw]at hq);try first|exact absurd hq (by decide)|exfalso;omega)|apply aI|with_reducible exact vM rfl|exact⟨⟩|apply nM|apply fM)
   all_goals((try apply vM);(try simp only[vq]at*);try omega)
   all_goals first|omega|exact dK false|(exfalso;simp_all;done)|(rw[show(⟨s.cs,s.ds⟩:St)=s from rfl];first|omega|exact hB|exact hC)|skip
  rw[show s.dc y.toNat=false from hdc,show decide (x∈s.cd y.toNat)=true from decide_eq_true hm,aeV,agO,agO];refine av (md:=1) (rf:=[]) mixed ak dw Tryz.func75 (by rfl) (by rfl) (by rfl) ?_
  repeat'((conv=>whnf);first|(intro hq;(try simp only[vw]at hq);try first|exact absurd hq (by decide)|exfalso;omega)|apply aI|with_reducible exact vM rfl|exact⟨⟩|apply nM|apply fM)
  all_goals((try apply vM);(try simp only[vq]at*);try omega)
  all_goals(try rw[show(⟨s.cs,s.ds⟩:St)=s from rfl])
  all_goals(try rw[show(⟨s.cs,s.ds⟩:St)=s from rfl]at hq)
  all_goals(try first|omega|exact hB|exact hC|(exfalso;exact(‹¬x∈s.cs.getD y.toNat []›) hm)|(exfalso;simp_all;done))
  ·exact⟨c,ls,sum,h,hor,by rw[ajc];omega,by omega,by omega⟩
  ·rw[show xU s sum (ls.getD k.toNat []) y x=!chs s (opn s (ls.getD k.toNat []) y) [x] (rst s sum (ls.getD k.toNat [])-x) by unfold xU;rw[decide_eq_true (by omega),agO]]
   exact Sup.of rfl
  ·rw[show xU s sum (ls.getD k.toNat []) y x=false by unfold xU;rw[decide_eq_false (by omega),agn]]
   exact dK false
 have:=hd.g;omega
def ahY:PSp:=fun xs K=>match xs with
 | [.agg [.int .i64 c,.isl (.rows .i64 ls) .none,.int .i64 sum,.isl (.ints .i64 gv) .none],.agg [.isl (.rows .i64 CS) .none,.isl (.bools DS) .none],.agg [.str r,.int .i64 y,.int .i64 x,.int .i64 k]]=>
  VC (bO c ls sum ⟨CS,DS⟩∧l9 c ls r y x k)∧K (.bp (okJ (aP r).toNat ⟨CS,DS⟩ sum (ls.getD k.toNat []) y x))
 |_=>False
theorem aiz:POK Tryz.prog 75 ahY:=by
 intro xs K hk;unfold ahY at hk;split at hk
 ·exact⟨_,hk.2,aib _ _ _ _ ⟨_,_⟩ hk.1.get.1 _ _ _ _ hk.1.get.2⟩
 ·exact hk.elim
theorem ahZ (l:List Int) (x:Int) (hl:l.length≤1000000):aF Tryz.prog 138 [.isl (.ints .i64 l) .none,.int .i64 x] (.isl (.ints .i64 (dQ l x)) .none):=by
 have ha:∀i,i<l.length→dQ (l.take (i+1)) x=dQ (l.take i) x++if l.getD i 0≠x then [l.getD i 0]else []:=fun i hi=>by
  rw[dF hi];unfold dQ;rw[List.filter_append];congr 1;by_cases e:l.getD i 0=x
  ·rw[if_neg (fun h=>h e)];simp only[ag3,decide_eq_true e,aeW,ag4];rfl
  ·rw[if_pos e];simp only[ag3,decide_eq_false e,aeV,ag4];rfl
 have hb:∀i,i≤l.length→(dQ (l.take i) x).length≤i:=fun i hi=>afW (agM _ _) (by rw[ae0];omega)
 refine av (md:=1) (rf:=[]) mixed ak aD Tryz.func138 (by rfl) (by rfl) (by rfl) ?_
 repeat'((conv=>whnf);first|intro _|apply aI|with_reducible exact vM rfl|exact⟨⟩|apply nM|apply fM)
 all_goals((try apply vM);(try simp only[vq]at*);try omega)
 conv=>whnf
 refine aM (X:=Nat) (fun i=>i≤l.length) (fun i=>[(6,.int .i64 i),(5,.isl (.ints .i64 (dQ (l.take i) x)) (.own 3))]) (fun i=>[(3,.tok 1 (dQ (l.take i) x).length)]) (fun i=>l.length-i) 0 ⟨aK,mixed,ak,aD,aQ⟩ (by rfl) (by omega) ?_ ?_
 ·repeat'((conv=>whnf);first|intro _|apply aI|with_reducible exact vM rfl|exact⟨⟩|apply nM|apply fM)
  all_goals((try apply vM);(try simp only[vq]at*);try omega)
  all_goals rfl
 intro i hi;by_cases hlt:i<l.length
 ·have hx:=ha i hlt
  have hbi:=hb i (by omega)
  repeat'((conv=>whnf);first|(intro hq;(try simp only[vw]at hq);try first|exact absurd hq (by decide)|exfalso;omega)|apply aI|with_reducible exact vM rfl|exact⟨⟩|apply nM|apply fM)
  all_goals((try apply vM);(try simp only[vq]at*);try omega)
  all_goals(try first|omega|(rw[afu,ajc];omega))
  ·rw[if_pos hq]at hx
   refine⟨i+1,[],⟨by omega,by omega⟩,?_⟩
   rw[hx,afu]
   repeat'((conv=>whnf);first|intro _|apply aI|with_reducible exact vM rfl|exact⟨⟩|apply nM|apply fM)
   all_goals((try apply vM);(try simp only[vq]at*);try omega)
  ·rw[if_neg hq,agN]at hx
   refine⟨i+1,[],⟨by omega,by omega⟩,?_⟩
   rw[hx]
   repeat'((conv=>whnf);first|intro _|apply aI|with_reducible exact vM rfl|exact⟨⟩|apply nM|apply fM)
   all_goals((try apply vM);(try simp only[vq]at*);try omega)
 ·have:i=l.length:=by omega
  subst this;rw[af5]
  repeat'((conv=>whnf);first|(intro hq;(try simp only[vw]at hq);try first|exact absurd hq (by decide)|exfalso;omega)|apply aI|with_reducible exact vM rfl|exact⟨⟩|apply nM|apply fM)
  all_goals((try apply vM);(try simp only[vq]at*);try omega)
  all_goals first|omega|exact Sup.of rfl
def ahy:PSp:=fun xs K=>match xs with
 | [.isl (.ints .i64 l) .none,.int .i64 x]=>VC (l.length≤1000000)∧K (.isl (.ints .i64 (dQ l x)) .none)
 |_=>False
theorem aic:POK Tryz.prog 138 ahy:=by
 intro xs K h;unfold ahy at h;split at h
 ·exact⟨_,h.2,ahZ _ _ h.1.get⟩
 ·exact h.elim
theorem aie (s:St) (h1:1≤s.cs.length∧s.cs.length≤1000) (h2:1≤s.ds.length∧s.ds.length≤1000) (h3:∀i,i<s.cs.length→(s.cs.getD i []).length≤1000):
 gL Tryz.prog 137 [stV s] [] [.agg [.rsl 0 0 s.cs.length,.rsl 1 0 s.ds.length]] [.cells (.rows .i64 s.cs) false,.cells (.bools s.ds) false]:=by
 refine bG (md:=1) (rf:=[22,27]) mixed ak aD 0 [(20,0),(8,1)] Tryz.func137 (by rfl) (by rfl) (by rfl) ?_
 repeat'((conv=>whnf);first|(intro hq;(try simp only[vw]at hq);try first|exact absurd hq (by decide)|exfalso;omega)|apply aI|with_reducible exact vM rfl|exact⟨⟩|apply nM|apply fM)
 all_goals((try apply vM);(try simp only[vq]at*);try omega)
 all_goals(try omega)
 conv=>whnf
 refine xw (X:=Nat) (fun i=>1≤i∧i≤s.cs.length) (fun i=>[(4,.int .i64 i)]) (fun i=>[(2,.cells (.pv [.rsl 20 0 i,.nils]) false),(20,.cells (.rows .i64 (s.cs.take i)) false)]) (fun i=>s.cs.length-i) s.cs.length ⟨aK,mixed,ak,aD,aQ⟩ (by rfl) ?_ ?_
 ·have:=h3 (agt 0) (show 0<s.cs.length by omega)
  have e1:s.cs.take 1=[s.cs.getD (agt 0) []]:=by
   rw[show agt 0=0 from rfl];cases h:s.cs with
   |nil=>rw[h]at h1;simp at h1
   |cons a r=>rfl
  repeat'((conv=>whnf);first|(intro hq;(try simp only[vw]at hq);try first|exact absurd hq (by decide)|exfalso;omega)|apply aI|with_reducible exact vM rfl|exact⟨⟩|apply nM|apply fM)
  all_goals((try apply vM);(try simp only[vq]at*);try omega)
  all_goals(try first|omega|exact .inl trivial|(rw[ajd];omega))
  refine⟨1,[(6,20)],⟨⟨by omega,by omega⟩,by omega⟩,?_⟩
  rw[e1]
  repeat'((conv=>whnf);first|intro _|apply aI|with_reducible exact vM rfl|exact⟨⟩|apply nM|apply fM)
  all_goals((try apply vM);(try simp only[vq]at*);try omega)
 ·intro i ⟨hi1,hi2⟩
  by_cases hlt:i<s.cs.length
  ·have:=h3 i hlt
   have e1:(s.cs.take i).length=i:=by rw[ae0];omega
   have e2:s.cs.take i++[s.cs.getD i []]=s.cs.take (i+1):=by rw[af3,aeo,aev hlt];rfl
   repeat'((conv=>whnf);first|(intro hq;(try simp only[vw]at hq);try first|exact absurd hq (by decide)|exfalso;omega)|apply aI|with_reducible exact vM rfl|exact⟨⟩|apply nM|apply fM)
   all_goals((try apply vM);(try simp only[vq]at*);try omega)
   all_goals(try first|omega|exact .inl trivial|(rw[ajd];omega))
   refine⟨i+1,[(6,20)],⟨⟨by omega,by omega⟩,by omega⟩,?_⟩
   repeat'((conv=>whnf);first|intro _|apply aI|with_reducible exact vM rfl|exact⟨⟩|apply nM|apply fM)
   all_goals((try apply vM);(try simp only[vq]at*);try omega)
   all_goals(try(rw[bP e1,ajd,e2]))
  ·have:i=s.cs.length:=by omega
   subst this;rw[af5]
   repeat'((conv=>whnf);first|(intro hq;(try simp only[vw]at hq);try first|exact absurd hq (by decide)|exfalso;omega)|apply aI|with_reducible exact vM rfl|exact⟨⟩|apply nM|apply fM)
   all_goals((try apply vM);(try simp only[vq]at*);try omega)
   all_goals(try rfl)
def ah0:LSp:=fun xs objs K=>match xs,objs with
 | [.agg [.isl (.rows .i64 CS) .none,.isl (.bools DS) .none]],[]=>VC ((1≤CS.length∧CS.length≤1000)∧(1≤DS.length∧DS.length≤1000)∧∀i,i<CS.length→(CS.getD i []).length≤1000)∧K [.agg [.rsl 0 0 CS.length,.rsl 1 0 DS.length]] [.cells (.rows .i64 CS) false,.cells (.bools DS) false]
 |_,_=>False
theorem aiA:LOK Tryz.prog 137 ah0:=by
 intro xs objs K hk;unfold ah0 at hk;split at hk
 ·exact⟨_,_,hk.2,aie ⟨_,_⟩ hk.1.get.1 hk.1.get.2.1 hk.1.get.2.2⟩
 ·exact hk.elim
def aif (b:Bool):PSp:=fun xs K=>match xs with
 | [.str r]=>VC (decide (aP r≤3)=b)∧K (.bp b)
 |_=>False
theorem aiO (b:Bool):POK Tryz.prog 78 (aif b):=by
 intro xs K hk;unfold aif at hk;split at hk
 ·obtain⟨⟨rfl⟩,hk⟩:=hk
  exact⟨_,hk,ahQ _⟩
 ·exact hk.elim
noncomputable def ai6 (b:Bool):CPT:=aA 78 (aB (aif b)) (aA 137 (dP [] ah0) (aA 138 (aB ahy) noC))
theorem ah3 (b:Bool):aW Tryz.prog (ai6 b):=aj (au (aiO b)) (aj (cu [] aiA) (aj (au aic) aD))
def apW (cs:List (List Int)) (y x:Int) (i:Nat):List (List Int):=(ael cs.length).map fun j=>if j<i∧(j:Int)≠y then dQ (cs.getD j []) x else cs.getD j []
theorem sF {cs:List (List Int)} {y x:Int} {i:Nat}:(apW cs y x i).length=cs.length:=by simp[apW]
theorem ahp {cs:List (List Int)} {y x:Int} {i j:Nat} (hj:j<cs.length):(apW cs y x i).getD j []=if j<i∧(j:Int)≠y then dQ (cs.getD j []) x else cs.getD j []:=by
 simp[apW,aeo,hj]
theorem aiB {cs:List (List Int)} {y x:Int}:apW cs y x 0=cs:=TJ sF fun j hj=>by
 rw[sF]at hj;rw[ahp hj,if_neg (by omega)]
theorem aiC {cs:List (List Int)} {y x:Int} {i:Nat} (h:(i:Int)=y):apW cs y x (i+1)=apW cs y x i:=TJ (by rw[sF,sF]) fun j hj=>by
 rw[sF]at hj;rw[ahp hj,ahp hj];by_cases e:j=i
 ·subst e;rw[if_neg (fun q=>q.2 h),if_neg (fun q=>q.2 h)]
 ·by_cases q:j<i∧(j:Int)≠y
  ·rw[if_pos q,if_pos ⟨by omega,q.2⟩]
  ·rw[if_neg q,if_neg (fun q'=>q ⟨by omega,q'.2⟩)]
theorem aiD {cs:List (List Int)} {y x:Int} {i:Nat} (h:(i:Int)≠y) (hi:i<cs.length):(apW cs y x i).set i (dQ ((apW cs y x i).getD i []) x)=apW cs y x (i+1):=TJ (by rw[aeP,sF,sF]) fun j hj=>by
 rw[aeP,sF]at hj;rw[ahp hj];by_cases e:j=i
 ·subst e
  rw[if_pos ⟨by omega,h⟩,ahp hj,if_neg (by omega),aeo,List.getElem?_set_self (by rw[sF];exact hj)];rfl
 ·rw[aeo,List.getElem?_set_ne (fun q=>e q.symm),←aeo,ahp hj]
  by_cases q:j<i∧(j:Int)≠y
  ·rw[if_pos q,if_pos ⟨by omega,q.2⟩]
  ·rw[if_neg q,if_neg (fun q'=>q ⟨by omega,q'.2⟩)]
theorem ais (c:Int) (ls:List (List Int)) (sum:Int) (s:St) (h:bO c ls sum s) (r:ByteArray) (y x k:Int) (hd:l9 c ls r y x k):aF Tryz.prog 76 [stV s,ddV r y x k] (stV (apl (aP r).toNat s y x)):=by
 have hc:=h.c1;have hcl:=h.cl;have hdl:=h.dl;have hy:=hd.y;have hg:=hd.g;have h16:∀i,i<s.cs.length→(s.cs.getD i []).length≤1000:=fun i hi=>by have:=Ap (h.asc i hi).1;unfold St.cd at this;omega
 have hyl:y.toNat<s.cs.length:=by omega
 have h17:=h16 _ hyl;have e1:agH (s.cs.length-0) (agI 0 s.cs)=s.cs:=bP rfl;have e2:agH (s.ds.length-0) (agI 0 s.ds)=s.ds:=bP rfl;have t25:Zt.size=1:=by rfl
 have e4:s.cd y.toNat=s.cs.getD y.toNat []:=rfl;by_cases hb:aP r≤3
 case neg=>
  have hb2:decide (aP r≤3)=false:=decide_eq_false hb;have ea:apl (aP r).toNat s y x=⟨s.cs.set y.toNat (dQ (s.cd y.toNat) x),s.ds⟩:=by unfold apl;rw[if_neg (by omega)]
  rw[ea];have hC:=ah3 false;refine av (md:=1) (rf:=[]) mixed ak hC Tryz.func76 (by rfl) (by rfl) (by rfl) ?_
  repeat'((conv=>whnf);first|(intro hq;(try simp only[vw]at hq);try first|exact absurd hq (by decide)|exfalso;omega)|apply aI|with_reducible exact vM rfl|exact⟨⟩|apply nM|apply fM)
  all_goals((try apply vM);(try simp only[vq]at*);try omega)
  all_goals(try rw[t25,aeL]at*)
  all_goals(try first|omega|exact⟨⟨by omega,by omega⟩,⟨by omega,by omega⟩,h16⟩|(rw[aeP];omega))
  rw[e4];exact Sup.of (by rw[show(CL.rows .i64 (s.cs.set y.toNat (dQ (s.cs.getD y.toNat []) x))).sub 0 s.cs.length=.rows .i64 (s.cs.set y.toNat (dQ (s.cs.getD y.toNat []) x))from congrArg (CL.rows .i64) (bP (aeP ..)),show(CL.bools s.ds).sub 0 s.ds.length=.bools s.ds from congrArg CL.bools e2];rfl)
 have hb2:decide (aP r≤3)=true:=decide_eq_true hb;have ea:apl (aP r).toNat s y x=⟨(apW s.cs y x s.cs.length).set y.toNat [x],s.ds.set y.toNat true⟩:=by
  unfold apl;rw[if_pos (by omega)]
  congr 1
  refine List.ext_getElem (by simp[apW]) fun j h1 h2=>?_
  have hj:j<s.cs.length:=by simpa using h1
  by_cases e:j=y.toNat
  ·subst e;simp
  ·rw[ahb (fun q=>e q.symm),ahb (fun q=>e q.symm)]
   simp only[apW,List.getElem_map,List.getElem_range];rw[if_pos ⟨hj,by omega⟩,aeo,aev hj];rfl
 rw[ea];have hC:=ah3 true;refine av (md:=1) (rf:=[]) mixed ak hC Tryz.func76 (by rfl) (by rfl) (by rfl) ?_
 repeat'((conv=>whnf);first|(intro hq;(try simp only[vw]at hq);try first|exact absurd hq (by decide)|exfalso;omega)|apply aI|with_reducible exact vM rfl|exact⟨⟩|apply nM|apply fM)
 all_goals((try apply vM);(try simp only[vq]at*);try omega)
 all_goals(try first|omega|exact⟨⟨by omega,by omega⟩,⟨by omega,by omega⟩,h16⟩)
 conv=>whnf
 refine aM (X:=Nat) (fun i=>i≤s.cs.length) (fun i=>[(6,.int .i64 i)]) (fun i=>[(3,.cells (.rows .i64 (apW s.cs y x i)) false)]) (fun i=>s.cs.length-i) 0 ⟨aK,mixed,ak,hC,aQ⟩ (by rfl) (by omega) ?_ ?_
 ·rw[aiB]
  repeat'((conv=>whnf);first|intro _|apply aI|with_reducible exact vM rfl|exact⟨⟩|apply nM|apply fM)
  all_goals((try apply vM);(try simp only[vq]at*);try omega)
 intro i hi;have hwl:=sF (cs:=s.cs) (y:=y) (x:=x) (i:=i);by_cases hlt:i<s.cs.length
 ·have hw:((apW s.cs y x i).getD i []).length≤1000000:=by rw[ahp hlt,if_neg (by omega)];have:=h16 i hlt;omega
  repeat'((conv=>whnf);first|(intro hq;(try simp only[vw]at hq);try first|exact absurd hq (by decide)|exfalso;omega)|apply aI|with_reducible exact vM rfl|exact⟨⟩|apply nM|apply fM)
  all_goals((try apply vM);(try simp only[vq]at*);try omega)
  all_goals(try rw[t25,aeL]at*)
  all_goals(try omega)
  ·refine⟨i+1,[],⟨by omega,by omega⟩,?_⟩
   rw[←aiD hq hlt]
   repeat'((conv=>whnf);first|intro _|apply aI|with_reducible exact vM rfl|exact⟨⟩|apply nM|apply fM)
   all_goals((try apply vM);(try simp only[vq]at*);try omega)
  ·refine⟨i+1,[],⟨by omega,by omega⟩,?_⟩
   rw[aiC (by omega)]
   repeat'((conv=>whnf);first|intro _|apply aI|with_reducible exact vM rfl|exact⟨⟩|apply nM|apply fM)
   all_goals((try apply vM);(try simp only[vq]at*);try omega)
 ·have:i=s.cs.length:=by omega
  subst this
  repeat'((conv=>whnf);first|(intro hq;(try simp only[vw]at hq);try first|exact absurd hq (by decide)|exfalso;omega)|apply aI|with_reducible exact vM rfl|exact⟨⟩|apply nM|apply fM)
  all_goals((try apply vM);(try simp only[vq]at*);try omega)
  all_goals(try rw[t25,aeL]at*)
  all_goals(try first|omega|(rw[aeP];omega))
  obtain⟨A,hA⟩:∃A,apW s.cs y x s.cs.length=A:=⟨_,rfl⟩;rw[hA]at hwl⊢;exact Sup.of (by rw[show(CL.rows .i64 (A.set y.toNat [x])).sub 0 s.cs.length=.rows .i64 (A.set y.toNat [x])from congrArg (CL.rows .i64) (bP ((aeP ..).trans hwl)),show(CL.bools (s.ds.set y.toNat true)).sub 0 s.ds.length=.bools (s.ds.set y.toNat true)from congrArg CL.bools (bP (aeP ..))];rfl)
noncomputable def ai7:CPT:=aA 95 (aB Vv) (aA 96 (aB ahA) (aA 97 (aB ahB) noC))
theorem ahr:aW Tryz.prog ai7:=aj (au adP) (aj (au ahW) (aj (au ahX) aD))
def aht (cs:List (List Int)) (x:Int):Bool:=cs.any fun l=>decide (x∈l)
theorem aiE (cs:List (List Int)) (l:List Int) (x:Int):aht (cs++[l]) x=(aht cs x||decide (x∈l)):=by unfold aht;rw[ajb];simp
theorem aiZ {c:Int} {ls:List (List Int)} {sum:Int} {s:St} {k:Nat} (hk:k<c.toNat) (h:aht s.cs ((k:Int)+1)=false):brk c ls sum s=true:=by
 unfold brk;rw[ahh.2 ⟨k,afY.2 hk,by rw[show(s.cs.any fun l=>decide (((k:Int)+1)∈l))=false from h];simp⟩];rfl
theorem ai0 {c:Int} {ls:List (List Int)} {sum:Int} {s:St} {i:Nat} (hi:i<s.cs.length) (h:s.cs.getD i []=[]):brk c ls sum s=true:=by
 unfold brk;rw[agC.2 ⟨s.cs.getD i [],kR hi,decide_eq_true h⟩,aje];rfl
theorem ai1 {c:Int} {ls:List (List Int)} {sum:Int} {s:St} {i:Nat} (hi:i<ls.length) (h:lbk sum s (ls.getD i [])=true):brk c ls sum s=true:=by
 unfold brk;rw[show(ls.any fun l=>decide ((opn s l (-1)).length=0)&&decide (rst s sum l≠0))=true from agC.2 ⟨ls.getD i [],kR hi,h⟩,aje]
theorem ai2 {c:Int} {ls:List (List Int)} {sum:Int} {s:St} (h1:∀k,k<c.toNat→aht s.cs ((k:Int)+1)=true) (h2:∀i,i<s.cs.length→s.cs.getD i []≠[]) (h3:∀i,i<ls.length→lbk sum s (ls.getD i [])=false):brk c ls sum s=false:=by
 unfold brk;have e1:((ael c.toNat).all fun i=>s.cs.any fun l=>decide (((i:Int)+1)∈l))=true:=afI.2 fun k hk=>h1 k (afY.1 hk);have e2:(s.cs.any fun l=>decide (l=[]))=false:=agD.2 fun l hl=>by
  obtain⟨j,hj,rfl⟩:=aeu hl;have:=h2 j hj;rw[aeo,aev hj]at this;rw[decide_eq_false (show s.cs[j]≠[]from this)];simp
 have e3:(ls.any fun l=>decide ((opn s l (-1)).length=0)&&decide (rst s sum l≠0))=false:=agD.2 fun l hl=>by
  obtain⟨j,hj,rfl⟩:=aeu hl;have:=h3 j hj;rw[aeo,aev hj]at this;unfold lbk at this;rw[show(decide ((opn s ls[j] (-1)).length=0)&&decide (rst s sum ls[j]≠0))=false from this];simp
 rw[e1,e2,e3];rfl
theorem ait (c:Int) (ls:List (List Int)) (sum:Int) (gv:List Int) (s:St) (h:bO c ls sum s):aF Tryz.prog 26 [pzV c ls sum gv,stV s] (.bp (brk c ls sum s)):=by
 have hc:=h.c1;have hcl:=h.cl;have hdl:=h.dl;have hll:=h.ll;have k16:∀i,i<s.cs.length→(s.cs.getD i []).length≤16:=fun i hi=>Ap (h.asc i hi).1;refine av (md:=1) (rf:=[]) mixed ak ahr Tryz.func26 (by rfl) (by rfl) (by rfl) ?_
 repeat'((conv=>whnf);first|(intro hq;(try simp only[vw]at hq);try first|exact absurd hq (by decide)|exfalso;omega)|apply aI|with_reducible exact vM rfl|exact⟨⟩|apply nM|apply fM)
 all_goals((try apply vM);(try simp only[vq]at*);try omega)
 conv=>whnf
 refine aM (X:=Nat) (fun k=>k≤c.toNat∧∀j,j<k→aht s.cs ((j:Int)+1)=true) (fun k=>[(5,.int .i64 ((k:Int)+1))]) (fun k=>[]) (fun k=>c.toNat-k) 0 ⟨aK,mixed,ak,ahr,aQ⟩ (by rfl) ⟨by omega,fun j hj=>by omega⟩ ?_ ?_
 ·repeat'((conv=>whnf);first|intro _|apply aI|with_reducible exact vM rfl|exact⟨⟩|apply nM|apply fM)
  all_goals((try apply vM);(try simp only[vq]at*);try omega)
 intro k ⟨hk,hok⟩;by_cases hlt:k<c.toNat
 ·repeat'((conv=>whnf);first|(intro hq;(try simp only[vw]at hq);try first|exact absurd hq (by decide)|exfalso;omega)|apply aI|with_reducible exact vM rfl|exact⟨⟩|apply nM|apply fM)
  all_goals((try apply vM);(try simp only[vq]at*);try omega)
  all_goals(try omega)
  conv=>whnf
  refine aM (X:=Nat) (fun i=>i≤s.cs.length) (fun i=>[(7,.int .i64 i),(6,.bp (aht (s.cs.take i) ((k:Int)+1)))]) (fun i=>[]) (fun i=>s.cs.length-i) 0 ⟨aK,mixed,ak,ahr,aQ⟩ (by rfl) (by omega) ?_ ?_
  ·repeat'((conv=>whnf);first|intro _|apply aI|with_reducible exact vM rfl|exact⟨⟩|apply nM|apply fM)
   all_goals((try apply vM);(try simp only[vq]at*);try omega)
   all_goals skip
  intro i hi;by_cases hli:i<s.cs.length
  ·have hx:aht (s.cs.take (i+1)) ((k:Int)+1)=(aht (s.cs.take i) ((k:Int)+1)||decide ((k:Int)+1∈s.cs.getD i [])):=by
    rw[←aiE];congr 1;rw[af3,aeo,aev hli];rfl
   have k17:=k16 i hli
   repeat'((conv=>whnf);first|(intro hq;(try simp only[vw]at hq);try first|exact absurd hq (by decide)|exfalso;omega)|apply aI|with_reducible exact vM rfl|exact⟨⟩|apply nM|apply fM)
   all_goals((try apply vM);(try simp only[vq]at*);try omega)
   all_goals(try omega)
   ·refine⟨i+1,[],⟨by omega,by omega⟩,?_⟩
    rw[hx,hq,agE]
    repeat'((conv=>whnf);first|intro _|apply aI|with_reducible exact vM rfl|exact⟨⟩|apply nM|apply fM)
    all_goals((try apply vM);(try simp only[vq]at*);try omega)
   ·refine⟨i+1,[],⟨by omega,by omega⟩,?_⟩
    rw[hx,hq,Bool.true_or]
    repeat'((conv=>whnf);first|intro _|apply aI|with_reducible exact vM rfl|exact⟨⟩|apply nM|apply fM)
    all_goals((try apply vM);(try simp only[vq]at*);try omega)
  have e:i=s.cs.length:=by omega
  subst e;rw[af5]
  repeat'((conv=>whnf);first|(intro hq;(try simp only[vw]at hq);try first|exact absurd hq (by decide)|exfalso;omega)|apply aI|with_reducible exact vM rfl|exact⟨⟩|apply nM|apply fM)
  all_goals((try apply vM);(try simp only[vq]at*);try omega)
  all_goals(try omega)
  ·rw[aiZ hlt hq];exact dK true
  ·refine⟨k+1,[],⟨⟨by omega,fun j hj=>?_⟩,by omega⟩,?_⟩
   ·by_cases e:j=k
    ·subst e;exact hq
    ·exact hok j (by omega)
   repeat'((conv=>whnf);first|intro _|apply aI|with_reducible exact vM rfl|exact⟨⟩|apply nM|apply fM)
   all_goals((try apply vM);(try simp only[vq]at*);try omega)
 have e:k=c.toNat:=by omega
 subst e
 repeat'((conv=>whnf);first|(intro hq;(try simp only[vw]at hq);try first|exact absurd hq (by decide)|exfalso;omega)|apply aI|with_reducible exact vM rfl|exact⟨⟩|apply nM|apply fM)
 all_goals((try apply vM);(try simp only[vq]at*);try omega)
 all_goals(try omega)
 conv=>whnf
 refine aM (X:=Nat) (fun i=>i≤s.cs.length∧∀j,j<i→s.cs.getD j []≠[]) (fun i=>[(8,.int .i64 i)]) (fun i=>[]) (fun i=>s.cs.length-i) 0 ⟨aK,mixed,ak,ahr,aQ⟩ (by rfl) ⟨by omega,fun j hj=>by omega⟩ ?_ ?_
 ·repeat'((conv=>whnf);first|intro _|apply aI|with_reducible exact vM rfl|exact⟨⟩|apply nM|apply fM)
  all_goals((try apply vM);(try simp only[vq]at*);try omega)
 intro i ⟨hi,hok2⟩;by_cases hli:i<s.cs.length
 ·have k17:=k16 i hli
  repeat'((conv=>whnf);first|(intro hq;(try simp only[vw]at hq);try first|exact absurd hq (by decide)|exfalso;omega)|apply aI|with_reducible exact vM rfl|exact⟨⟩|apply nM|apply fM)
  all_goals((try apply vM);(try simp only[vq]at*);try omega)
  all_goals(try omega)
  ·rw[ai0 hli (aja (by omega))];exact dK true
  ·refine⟨i+1,[],⟨⟨by omega,fun j hj=>?_⟩,by omega⟩,?_⟩
   ·by_cases e:j=i
    ·subst e;exact fun e=>hq (by rw[e];rfl)
    ·exact hok2 j (by omega)
   repeat'((conv=>whnf);first|intro _|apply aI|with_reducible exact vM rfl|exact⟨⟩|apply nM|apply fM)
   all_goals((try apply vM);(try simp only[vq]at*);try omega)
 have e:i=s.cs.length:=by omega
 subst e
 repeat'((conv=>whnf);first|(intro hq;(try simp only[vw]at hq);try first|exact absurd hq (by decide)|exfalso;omega)|apply aI|with_reducible exact vM rfl|exact⟨⟩|apply nM|apply fM)
 all_goals((try apply vM);(try simp only[vq]at*);try omega)
 all_goals(try omega)
 conv=>whnf
 refine aM (X:=Nat) (fun i=>i≤ls.length∧∀j,j<i→lbk sum s (ls.getD j [])=false) (fun i=>[(9,.int .i64 i)]) (fun i=>[]) (fun i=>ls.length-i) 0 ⟨aK,mixed,ak,ahr,aQ⟩ (by rfl) ⟨by omega,fun j hj=>by omega⟩ ?_ ?_
 ·repeat'((conv=>whnf);first|intro _|apply aI|with_reducible exact vM rfl|exact⟨⟩|apply nM|apply fM)
  all_goals((try apply vM);(try simp only[vq]at*);try omega)
 intro i ⟨hi,hok3⟩;by_cases hli:i<ls.length
 ·have hnx:lbk sum s (ls.getD i [])=false→∀j,j<i+1→lbk sum s (ls.getD j [])=false:=fun hq j hj=>by
   by_cases e:j=i
   ·subst e;exact hq
   ·exact hok3 j (by omega)
  repeat'((conv=>whnf);first|(intro hq;(try simp only[vw]at hq);try first|exact absurd hq (by decide)|exfalso;omega)|apply aI|with_reducible exact vM rfl|exact⟨⟩|apply nM|apply fM)
  all_goals((try apply vM);(try simp only[vq]at*);try omega)
  all_goals(try first|omega|exact⟨h,by omega,by omega⟩)
  ·rename_i h1
   rw[ai1 hli (by
    unfold lbk;rw[decide_eq_true (show(opn s (ls.getD i []) (-1)).length=0 from by have h1:((opn s (ls.getD i []) (-1)).length:Int)=0:=h1;omega),agO]
    exact decide_eq_true hq)]
   exact dK true
  ·refine⟨i+1,[],⟨⟨by omega,hnx ?_⟩,by omega⟩,?_⟩
   ·unfold lbk
    rw[show decide (rst s sum (ls.getD i [])≠0)=false from decide_eq_false hq,agR]
   repeat'((conv=>whnf);first|intro _|apply aI|with_reducible exact vM rfl|exact⟨⟩|apply nM|apply fM)
   all_goals((try apply vM);(try simp only[vq]at*);try omega)
  ·refine⟨i+1,[],⟨⟨by omega,hnx ?_⟩,by omega⟩,?_⟩
   ·unfold lbk
    rw[decide_eq_false (show¬(opn s (ls.getD i []) (-1)).length=0 from fun e=>hq (by have e:(opn ⟨s.cs,s.ds⟩ (ls.getD i []) (-1)).length=0:=e;omega)),agn]
   repeat'((conv=>whnf);first|intro _|apply aI|with_reducible exact vM rfl|exact⟨⟩|apply nM|apply fM)
   all_goals((try apply vM);(try simp only[vq]at*);try omega)
 have e:i=ls.length:=by omega
 subst e;rw[ai2 hok hok2 hok3]
 repeat'((conv=>whnf);first|(intro hq;(try simp only[vw]at hq);try first|exact absurd hq (by decide)|exfalso;omega)|apply aI|with_reducible exact vM rfl|exact⟨⟩|apply nM|apply fM)
 all_goals((try apply vM);(try simp only[vq]at*);try omega)
 all_goals first|omega|exact dK false
def aii:PSp:=fun xs K=>match xs with
 | [.agg [.int .i64 c,.isl (.rows .i64 ls) .none,.int .i64 sum,.isl (.ints .i64 gv) .none],.agg [.isl (.rows .i64 CS) .none,.isl (.bools DS) .none]]=>VC (bO c ls sum ⟨CS,DS⟩)∧K (.bp (brk c ls sum ⟨CS,DS⟩))
 |_=>False
theorem aiP:POK Tryz.prog 26 aii:=by
 intro xs K hk;unfold aii at hk;split at hk
 ·exact⟨_,hk.2,ait _ _ _ _ ⟨_,_⟩ hk.1.get⟩
 ·exact hk.elim
end Go.Eng.YtcechbdgokjmgaaGreatDoor
namespace Go.Eng.YtcechbdgokjmgaaGreatDoor
open Go.Proofs Go.RowKit
set_option linter.unusedSimpArgs false
set_option linter.unusedVariables false
set_option maxHeartbeats 0
set_option maxRecDepth 100000
end Go.Eng.YtcechbdgokjmgaaGreatDoor
namespace Go.Eng.YtcechbdgokjmgaaGreatDoor
open Go.Proofs
set_option linter.unusedSimpArgs false
set_option linter.unusedVariables false
set_option maxHeartbeats 0
set_option maxRecDepth 100000
theorem clD {b:Bool} (h:b=false) (h':b=true):False:=by rw[h]at h';cases h'
def csE (c:Int) (s:St):Int:=if(s.cs.length:Int)≠c∨(s.ds.length:Int)≠c then 2 else cO (fun i=>kL c (s.cd i) (s.dc i)) s.cs.length
theorem aiF (c:Int) (ls:List (List Int)) (sum:Int) (gv:List Int) (s:St) (h1:s.cs.length≤1000000∧s.ds.length≤1000000) (h2:∀i,i<s.cs.length→(s.cs.getD i []).length≤1000000):aF Tryz.prog 49 [pzV c ls sum gv,stV s] (.int .i64 (csE c s)):=by
 by_cases hl:(s.cs.length:Int)≠c∨(s.ds.length:Int)≠c
 ·have he:csE c s=2:=if_pos hl
  rw[he];refine av (md:=1) (rf:=[]) mixed ak aD Tryz.func49 (by rfl) (by rfl) (by rfl) ?_
  repeat'((conv=>whnf);first|(intro hq;(try simp only[vw]at hq);try first|exact absurd hq (by decide)|exfalso;omega)|apply aI|with_reducible exact vM rfl|exact⟨⟩|apply nM|apply fM)
  all_goals((try apply vM);(try simp only[vq]at*);try omega)
  all_goals(try first|omega|exact Sup.of rfl)
 have he:csE c s=cO (fun i=>kL c (s.cd i) (s.dc i)) s.cs.length:=if_neg hl;have e1:(s.cs.length:Int)=c:=by omega
 have e2:(s.ds.length:Int)=c:=by omega
 refine av (md:=1) (rf:=[]) mixed ak aD Tryz.func49 (by rfl) (by rfl) (by rfl) ?_
 repeat'((conv=>whnf);first|(intro hq;(try simp only[vw]at hq);try first|exact absurd hq (by decide)|exfalso;omega)|apply aI|with_reducible exact vM rfl|exact⟨⟩|apply nM|apply fM)
 all_goals((try apply vM);(try simp only[vq]at*);try omega)
 all_goals(try omega)
 conv=>whnf
 refine aM (X:=Nat) (fun i=>i≤s.cs.length∧∀j,j<i→kL c (s.cd j) (s.dc j)=0) (fun i=>[(6,.int .i64 i)]) (fun i=>[]) (fun i=>s.cs.length-i) 0 ⟨aK,mixed,ak,aD,aQ⟩ (by rfl) ⟨by omega,fun j hj=>by omega⟩ ?_ ?_
 ·repeat'((conv=>whnf);first|intro _|apply aI|with_reducible exact vM rfl|exact⟨⟩|apply nM|apply fM)
  all_goals((try apply vM);(try simp only[vq]at*);try omega)
 intro i ⟨hi,hok⟩;by_cases hlt:i<s.cs.length
 case neg=>
  have:i=s.cs.length:=by omega
  subst this;rw[he,fO hok]
  repeat'((conv=>whnf);first|(intro hq;(try simp only[vw]at hq);try first|exact absurd hq (by decide)|exfalso;omega)|apply aI|with_reducible exact vM rfl|exact⟨⟩|apply nM|apply fM)
  all_goals((try apply vM);(try simp only[vq]at*);try omega)
  all_goals(try first|omega|exact Sup.of rfl)
 have hll:=h2 i hlt;have fin:∀e,kL c (s.cd i) (s.dc i)=e→e≠0→csE c s=e:=fun e a1 a2=>by
  rw[he];exact(dY hlt (by rw[a1];exact a2) hok).trans a1
 have nxt:kL c (s.cd i) (s.dc i)=0→∀j,j<i+1→kL c (s.cd j) (s.dc j)=0:=fun a j hj=>by
  by_cases e:j=i
  ·subst e;exact a
  ·exact hok j (by omega)
 have hcd:s.cd i=s.cs.getD i []:=rfl;have hdc:s.dc i=s.ds.getD i false:=rfl;rw[hcd,hdc]at fin nxt;obtain⟨l,hL⟩:∃l,s.cs.getD i []=l:=⟨_,rfl⟩;rw[hL]at fin nxt hll
 repeat'((conv=>whnf);first|(intro hq;(try simp only[vw]at hq);try first|exact absurd hq (by decide)|exfalso;omega)|apply aI|with_reducible exact vM rfl|exact⟨⟩|apply nM|apply fM)
 all_goals((try apply vM);(try simp only[vq]at*);try omega)
 all_goals(try omega)
 conv=>whnf
 refine aM (X:=Nat) (fun k=>k≤l.length∧∀j,j<k→1≤l.getD j 0∧l.getD j 0≤c) (fun k=>[(7,.isl (.ints .i64 l) .none),(8,.int .i64 k)]) (fun k=>[]) (fun k=>l.length-k) 0 ⟨aK,mixed,ak,aD,aQ⟩ (by rfl) ⟨by omega,fun j hj=>by omega⟩ ?_ ?_
 ·repeat'((conv=>whnf);first|intro _|apply aI|with_reducible exact vM rfl|exact⟨⟩|apply nM|apply fM)
  all_goals((try apply vM);(try simp only[vq]at*);try omega)
  all_goals first|exact hL|exact hL.symm|(rw[hL];done)|skip
 intro k ⟨hk,hkr⟩;by_cases hkl:k<l.length
 ·have hno:(l.getD k 0<1∨c<l.getD k 0)→csE c s=3:=fun a=>by
   refine fin 3 ?_ (by decide)
   have:l.any (jI 1 c)=true:=agC.2 ⟨l.getD k 0,pW hkl,by
    unfold jI;rcases a with a|a
    ·rw[decide_eq_true a];rfl
    ·rw[decide_eq_true a,aje]⟩
   unfold kL;rw[this];rfl
  repeat'((conv=>whnf);first|(intro hq;(try simp only[vw]at hq);try first|exact absurd hq (by decide)|exfalso;omega)|apply aI|with_reducible exact vM rfl|exact⟨⟩|apply nM|apply fM)
  all_goals((try apply vM);(try simp only[vq]at*);try omega)
  all_goals(try omega)
  ·rw[hno (.inr hq)];exact Sup.of rfl
  ·refine⟨k+1,[],⟨⟨by omega,fun j hj=>?_⟩,by omega⟩,?_⟩
   ·by_cases e:j=k
    ·subst e;omega
    ·exact hkr j (by omega)
   repeat'((conv=>whnf);first|intro _|apply aI|with_reducible exact vM rfl|exact⟨⟩|apply nM|apply fM)
   all_goals((try apply vM);(try simp only[vq]at*);try omega)
  ·rw[hno (.inl hq)];exact Sup.of rfl
 have ek:k=l.length:=by omega
 subst ek;have hany:l.any (jI 1 c)=false:=by
  rw[agD];intro x hx;obtain⟨j,hj,rfl⟩:=(iG l x).1 hx;have:=hkr j hj;unfold jI;rw[decide_eq_false (by omega),decide_eq_false (by omega)];simp
 repeat'((conv=>whnf);first|(intro hq;(try simp only[vw]at hq);try first|exact absurd hq (by decide)|exfalso;omega)|apply aI|with_reducible exact vM rfl|exact⟨⟩|apply nM|apply fM)
 all_goals((try apply vM);(try simp only[vq]at*);try omega)
 all_goals(try omega)
 conv=>whnf
 refine aM (X:=Nat) (fun k=>1≤k∧(k≤l.length∨k=1)∧upB l k=true) (fun k=>[(7,.isl (.ints .i64 l) .none),(9,.int .i64 k)]) (fun k=>[]) (fun k=>l.length+1-k) 1 ⟨aK,mixed,ak,aD,aQ⟩ (by rfl) ⟨by omega,.inr rfl,by simp[upB]⟩ ?_ ?_
 ·repeat'((conv=>whnf);first|intro _|apply aI|with_reducible exact vM rfl|exact⟨⟩|apply nM|apply fM)
  all_goals((try apply vM);(try simp only[vq]at*);try omega)
 intro k ⟨hk1,hk2,hku⟩;have hus:=Sn l k;rw[hku,agO]at hus;by_cases hkl:k<l.length
 ·have ekk:((k:Int)-1).toNat=k-1:=by omega
  repeat'((conv=>whnf);first|(intro hq;(try simp only[vw]at hq);try first|exact absurd hq (by decide)|exfalso;omega)|apply aI|with_reducible exact vM rfl|exact⟨⟩|apply nM|apply fM)
  all_goals((try apply vM);(try simp only[vq]at*);try omega)
  all_goals(try omega)
  ·rw[ekk]at hq
   have h11:upB l l.length=false:=by
    cases e:upB l l.length with
    |false=>rfl
    |true=>
     have:=afI.1 e k (afY.2 hkl);rw[decide_eq_true_eq]at this;omega
   rw[fin 11 (by unfold kL;rw[hany,h11];rfl) (by decide)]
   exact Sup.of rfl
  ·rw[ekk]at hq
   refine⟨k+1,[],⟨⟨by omega,.inl (by omega),by rw[hus];exact decide_eq_true (.inr (by omega))⟩,by omega⟩,?_⟩
   repeat'((conv=>whnf);first|intro _|apply aI|with_reducible exact vM rfl|exact⟨⟩|apply nM|apply fM)
   all_goals((try apply vM);(try simp only[vq]at*);try omega)
 have hup:upB l l.length=true:=by
  by_cases e:k=l.length
  ·rw[←e];exact hku
  ·have:l.length=0:=by omega
   rw[this];rfl
 cases hd:s.ds.getD i false with
 |false=>
  have c0:kL c l false=0:=by unfold kL;rw[hany,hup];rfl
  rw[hd]at nxt
  repeat'((conv=>whnf);first|(intro hq;(try simp only[vw]at hq);try first|exact absurd hq (by decide)|exfalso;omega)|apply aI|with_reducible exact vM rfl|exact⟨⟩|apply nM|apply fM)
  all_goals((try apply vM);(try simp only[vq]at*);try omega)
  all_goals(try omega)
  all_goals(try(exfalso;refine clD hd ?_;assumption))
  refine⟨i+1,[],⟨⟨by omega,nxt c0⟩,by omega⟩,?_⟩
  repeat'((conv=>whnf);first|intro _|apply aI|with_reducible exact vM rfl|exact⟨⟩|apply nM|apply fM)
  all_goals((try apply vM);(try simp only[vq]at*);try omega)
 |true=>
  rw[hd]at nxt fin;by_cases hl1:l.length=1
  ·have c0:kL c l true=0:=by unfold kL;rw[hany,hup,decide_eq_false (fun e=>e hl1)];rfl
   repeat'((conv=>whnf);first|(intro hq;(try simp only[vw]at hq);try first|exact absurd hq (by decide)|exfalso;omega)|apply aI|with_reducible exact vM rfl|exact⟨⟩|apply nM|apply fM)
   all_goals((try apply vM);(try simp only[vq]at*);try omega)
   all_goals(try omega)
   all_goals(try(exfalso;refine clD ?_ hd;assumption))
   refine⟨i+1,[],⟨⟨by omega,nxt c0⟩,by omega⟩,?_⟩
   repeat'((conv=>whnf);first|intro _|apply aI|with_reducible exact vM rfl|exact⟨⟩|apply nM|apply fM)
   all_goals((try apply vM);(try simp only[vq]at*);try omega)
  ·have c0:kL c l true=29:=by unfold kL;rw[hany,hup,decide_eq_true hl1];rfl
   repeat'((conv=>whnf);first|(intro hq;(try simp only[vw]at hq);try first|exact absurd hq (by decide)|exfalso;omega)|apply aI|with_reducible exact vM rfl|exact⟨⟩|apply nM|apply fM)
   all_goals((try apply vM);(try simp only[vq]at*);try omega)
   all_goals(try omega)
   all_goals(try(exfalso;refine clD ?_ hd;assumption))
   rw[fin 29 c0 (by decide)]
   exact Sup.of rfl
def aiG:PSp:=fun xs K=>match xs with
 | [.agg [.int .i64 c,.isl (.rows .i64 ls) .none,.int .i64 sum,.isl (.ints .i64 gv) .none],.agg [.isl (.rows .i64 CS) .none,.isl (.bools DS) .none]]=>VC ((CS.length≤1000000∧DS.length≤1000000)∧∀i,i<CS.length→(CS.getD i []).length≤1000000)∧K (.int .i64 (csE c ⟨CS,DS⟩))
 |_=>False
theorem aiV:POK Tryz.prog 49 aiG:=by
 intro xs K h;unfold aiG at h;split at h
 ·exact⟨_,h.2,aiF _ _ _ _ ⟨_,_⟩ h.1.get.1 h.1.get.2⟩
 ·exact h.elim
def Jd (s:St):Bool:=!(decide ((s.cs.length:Int)≤20)&&(decide ((s.ds.length:Int)≤20)&&s.cs.all fun l=>decide ((l.length:Int)≤20)))
theorem aiu {s:St} (h:Jd s=false):s.cs.length≤20∧s.ds.length≤20∧∀i,(s.cs.getD i []).length≤20:=by
 unfold Jd at h;simp only[Bool.not_eq_false',Bool.and_eq_true,decide_eq_true_eq,afI]at h;refine⟨by omega,by omega,fun i=>?_⟩
 by_cases hi:i<s.cs.length
 ·have:=h.2.2 _ (pW (d:=([]:List Int)) hi);omega
 ·rw[aeo,ajf (by omega)];simp
theorem aiv (s:St) (h:s.cs.length≤9223372036854775807):aF Tryz.prog 66 [stV s] (.bp (Jd s)):=by
 have yes:Jd s=true→Sup (bF [PV.bool true]) (.bp (Jd s)):=fun e=>by rw[e];exact dK true
 by_cases h1:(s.cs.length:Int)≤20∧(s.ds.length:Int)≤20
 case neg=>
  have e:Jd s=true:=by
   unfold Jd;by_cases a:(s.cs.length:Int)≤20
   ·rw[decide_eq_false (fun b:(s.ds.length:Int)≤20=>h1 ⟨a,b⟩),agn,agR];rfl
   ·rw[decide_eq_false a,agn];rfl
  refine av (md:=1) (rf:=[]) mixed ak aD Tryz.func66 (by rfl) (by rfl) (by rfl) ?_
  repeat'((conv=>whnf);first|(intro hq;(try simp only[vw]at hq);try first|exact absurd hq (by decide)|exfalso;omega)|apply aI|with_reducible exact vM rfl|exact⟨⟩|apply nM|apply fM)
  all_goals((try apply vM);(try simp only[vq]at*);try omega)
  all_goals first|omega|exact yes e|skip
 refine av (md:=1) (rf:=[]) mixed ak aD Tryz.func66 (by rfl) (by rfl) (by rfl) ?_
 repeat'((conv=>whnf);first|(intro hq;(try simp only[vw]at hq);try first|exact absurd hq (by decide)|exfalso;omega)|apply aI|with_reducible exact vM rfl|exact⟨⟩|apply nM|apply fM)
 all_goals((try apply vM);(try simp only[vq]at*);try omega)
 all_goals(try omega)
 conv=>whnf
 refine aM (X:=Nat) (fun i=>i≤s.cs.length∧∀j,j<i→((s.cs.getD j []).length:Int)≤20) (fun i=>[(3,.int .i64 i)]) (fun i=>[]) (fun i=>s.cs.length-i) 0 ⟨aK,mixed,ak,aD,aQ⟩ (by rfl) ⟨by omega,fun j hj=>by omega⟩ ?_ ?_
 ·repeat'((conv=>whnf);first|intro _|apply aI|with_reducible exact vM rfl|exact⟨⟩|apply nM|apply fM)
  all_goals((try apply vM);(try simp only[vq]at*);try omega)
 intro i ⟨hi,hok⟩;by_cases hlt:i<s.cs.length
 ·repeat'((conv=>whnf);first|(intro hq;(try simp only[vw]at hq);try first|exact absurd hq (by decide)|exfalso;omega)|apply aI|with_reducible exact vM rfl|exact⟨⟩|apply nM|apply fM)
  all_goals((try apply vM);(try simp only[vq]at*);try omega)
  all_goals(try omega)
  ·refine yes ?_
   unfold Jd;rw[ahh.2 ⟨_,pW (d:=([]:List Int)) hlt,by rw[decide_eq_false (by omega)];simp⟩,agR,agR];rfl
  ·refine⟨i+1,[],⟨⟨by omega,fun j hj=>?_⟩,by omega⟩,?_⟩
   ·by_cases e:j=i
    ·subst e;omega
    ·exact hok j (by omega)
   repeat'((conv=>whnf);first|intro _|apply aI|with_reducible exact vM rfl|exact⟨⟩|apply nM|apply fM)
   all_goals((try apply vM);(try simp only[vq]at*);try omega)
 have e:i=s.cs.length:=by omega
 subst e;have e:Jd s=false:=by
  unfold Jd;rw[decide_eq_true h1.1,decide_eq_true h1.2,agO,agO,afI.2];rfl;intro l hl;obtain⟨j,hj,rfl⟩:=aeu hl;have:=hok j hj;rw[aeo,aev hj]at this;exact decide_eq_true this
 rw[e]
 repeat'((conv=>whnf);first|(intro hq;(try simp only[vw]at hq);try first|exact absurd hq (by decide)|exfalso;omega)|apply aI|with_reducible exact vM rfl|exact⟨⟩|apply nM|apply fM)
 all_goals((try apply vM);(try simp only[vq]at*);try omega)
 all_goals first|omega|exact dK false
def aij:PSp:=fun xs K=>match xs with
 | [.agg [.isl (.rows .i64 CS) .none,.isl (.bools DS) .none]]=>VC (CS.length≤9223372036854775807)∧K (.bp (Jd ⟨CS,DS⟩))
 |_=>False
theorem aiQ:POK Tryz.prog 66 aij:=by
 intro xs K h;unfold aij at h;split at h
 ·exact⟨_,h.2,aiv ⟨_,_⟩ h.1.get⟩
 ·exact h.elim
noncomputable def ai8:CPT:=aA 18 (aB ME) (aA 19 (aB Tz) (aA 24 (aB abD) (aA 49 (aB aiG) noC)))
theorem ah4:aW Tryz.prog ai8:=aj (au Px) (aj (au abC) (aj (au adT) (aj (au aiV) aD)))
theorem aiR {c:Int} {ls:List (List Int)} {sum:Int} {gv:List Int} {s:St} (h:pzE c ls sum gv=0):dx c ls sum gv s=csE c s:=by
 by_cases hl:(s.cs.length:Int)≠c∨(s.ds.length:Int)≠c
 ·have e:aG [pzE c ls sum gv,2]=2:=by rw[h];rfl
  rw[PW (x:=2) (by rw[e];simp) (by rw[if_pos hl]),e]
  exact(if_pos hl).symm
 ·rw[JM (by omega) (by omega) h]
  exact(if_neg hl).symm
theorem ah1 (c:Int) (ls:List (List Int)) (sum:Int) (gv:List Int) (s:St) (h:bH ls) (hg:gv.length≤5000) (hs:Jd s=false):aF Tryz.prog 69 [pzV c ls sum gv,stV s] (.int .i64 (dx c ls sum gv s)):=by
 obtain⟨h1,h2,h3⟩:=aiu hs;by_cases he:pzE c ls sum gv=0
 ·rw[aiR he]
  refine av (md:=1) (rf:=[]) mixed ak ah4 Tryz.func69 (by rfl) (by rfl) (by rfl) ?_
  repeat'((conv=>whnf);first|(intro hq;(try simp only[vw]at hq);try first|exact absurd hq (by decide)|exfalso;omega)|apply aI|with_reducible exact vM rfl|exact⟨⟩|apply nM|apply fM)
  all_goals((try apply vM);(try simp only[vq]at*);try omega)
  all_goals first|omega|exact⟨h,hg⟩|exact⟨⟨by omega,by omega⟩,fun i _=>by have:=h3 i;omega⟩|exact Sup.of rfl|(exfalso;exact hq he)|skip
 ·have:dx c ls sum gv s=pzE c ls sum gv:=by
   have:aG [pzE c ls sum gv,if(s.cs.length:Int)≠c∨(s.ds.length:Int)≠c then 2 else 0]=pzE c ls sum gv:=by simp[aG,he]
   rw[PW _ (by rw[this];exact he) rfl,this]
  rw[this];refine av (md:=1) (rf:=[]) mixed ak ah4 Tryz.func69 (by rfl) (by rfl) (by rfl) ?_
  repeat'((conv=>whnf);first|(intro hq;(try simp only[vw]at hq);try first|exact absurd hq (by decide)|exfalso;omega)|apply aI|with_reducible exact vM rfl|exact⟨⟩|apply nM|apply fM)
  all_goals((try apply vM);(try simp only[vq]at*);try omega)
  all_goals first|omega|exact⟨h,hg⟩|exact⟨⟨by omega,by omega⟩,fun i _=>by have:=h3 i;omega⟩|exact Sup.of rfl|(exfalso;exact he hq)|skip
end Go.Eng.YtcechbdgokjmgaaGreatDoor
namespace Go.Eng.YtcechbdgokjmgaaGreatDoor
open Go.Proofs Go.RowKit
set_option linter.unusedSimpArgs false
set_option linter.unusedVariables false
set_option maxHeartbeats 0
set_option maxRecDepth 100000
def aik:PSp:=fun xs K=>match xs with
 | [.agg [.int .i64 c,.isl (.rows .i64 ls) .none,.int .i64 sum,.isl (.ints .i64 gv) .none],.agg [.isl (.rows .i64 CS) .none,.isl (.bools DS) .none]]=>VC (bH ls∧gv.length≤5000∧Jd ⟨CS,DS⟩=false)∧K (.int .i64 (dx c ls sum gv ⟨CS,DS⟩))
 |_=>False
theorem aiS:POK Tryz.prog 69 aik:=by
 intro xs K h;unfold aik at h;split at h
 ·exact⟨_,h.2,ah1 _ _ _ _ ⟨_,_⟩ h.1.get.1 h.1.get.2.1 h.1.get.2.2⟩
 ·exact h.elim
theorem aiT {s:St} (h:Jd s=false):StS s:=by
 obtain⟨h1,h2,h3⟩:=aiu h;exact⟨by omega,by omega,fun i=>by have:=h3 i;unfold St.cd;omega⟩
def aiH:PSp:=fun xs K=>match xs with
 | [.agg [.int .i64 c,.isl (.rows .i64 ls) .none,.int .i64 sum,.isl (.ints .i64 gv) .none],.agg [.isl (.rows .i64 CS) .none,.isl (.bools DS) .none]]=>VC (bH ls∧gv.length≤5000∧StS ⟨CS,DS⟩)∧K (.tup [.bp (Sy c ls sum gv ⟨CS,DS⟩).1,.int .i64 (Sy c ls sum gv ⟨CS,DS⟩).2])
 |_=>False
theorem aiW:POK Tryz.prog 72 aiH:=by
 intro xs K h;unfold aiH at h;split at h
 ·exact⟨_,h.2,YS _ _ _ _ ⟨_,_⟩ h.1.get.1 h.1.get.2.1 h.1.get.2.2⟩
 ·exact h.elim
def aiI:PSp:=fun xs K=>match xs with
 | [.agg [.int .i64 c,.isl (.rows .i64 ls) .none,.int .i64 sum,.isl (.ints .i64 gv) .none],.agg [.isl (.rows .i64 CS) .none,.isl (.bools DS) .none],.agg [.str r,.int .i64 y,.int .i64 x,.int .i64 k]]=>VC (bH ls∧gv.length≤5000∧StS ⟨CS,DS⟩)∧K (.tup [.bp (juR c ls sum gv ⟨CS,DS⟩ r y x k).1,.int .i64 (juR c ls sum gv ⟨CS,DS⟩ r y x k).2])
 |_=>False
theorem aiX:POK Tryz.prog 73 aiI:=by
 intro xs K h;unfold aiI at h;split at h
 ·exact⟨_,h.2,A9 _ _ _ _ ⟨_,_⟩ h.1.get.1 h.1.get.2.1 h.1.get.2.2 _ _ _ _⟩
 ·exact h.elim
def aiJ:PSp:=fun xs K=>match xs with
 | [.agg [.int .i64 c,.isl (.rows .i64 ls) .none,.int .i64 sum,.isl (.ints .i64 gv) .none],.agg [.isl (.rows .i64 CS) .none,.isl (.bools DS) .none],.agg [.str r,.int .i64 y,.int .i64 x,.int .i64 k]]=>VC (bH ls∧gv.length≤5000∧StS ⟨CS,DS⟩)∧K (.tup [stV (apR c ls sum gv ⟨CS,DS⟩ r y x k).1,.int .i64 (apR c ls sum gv ⟨CS,DS⟩ r y x k).2])
 |_=>False
theorem aiY:POK Tryz.prog 74 aiJ:=by
 intro xs K h;unfold aiJ at h;split at h
 ·exact⟨_,h.2,abY _ _ _ _ ⟨_,_⟩ h.1.get.1 h.1.get.2.1 h.1.get.2.2 _ _ _ _⟩
 ·exact h.elim
def ail (c:Int) (ls:List (List Int)) (sum:Int):PSp:=fun xs K=>match xs with
 | [.agg [.isl (.rows .i64 CS) .none,.isl (.bools DS) .none],.agg [.str r,.int .i64 y,.int .i64 x,.int .i64 k]]=>VC (bO c ls sum ⟨CS,DS⟩∧l9 c ls r y x k)∧K (stV (apl (aP r).toNat ⟨CS,DS⟩ y x))
 |_=>False
theorem aiU (c:Int) (ls:List (List Int)) (sum:Int):POK Tryz.prog 76 (ail c ls sum):=by
 intro xs K hk;unfold ail at hk;split at hk
 ·exact⟨_,hk.2,ais _ _ _ ⟨_,_⟩ hk.1.get.1 _ _ _ _ hk.1.get.2⟩
 ·exact hk.elim
theorem dz {a b:Bool} {p:PV} (h:a=b):Sup (.tup [.bp a,p]) (.tup [.bool b,p]):=AZ rfl fun i hi=>by
 obtain rfl|rfl:i=0∨i=1:=by simp at hi;omega
 ·exact adU h
 ·exact mg _
noncomputable def aho (c:Int) (ls:List (List Int)) (sum:Int) (b1 b2:Bool) (w:Int) (br:Bool) (e:Int) (j:Bool) (je:Int) (s2:St) (ae de:Int):CPT:=aA 16 (aB (aco Qw (.bool b1))) (aA 17 (aB Qs) (aA 19 (aB Tz) (aA 23 (aB (aco abF (.bool true))) (aA 24 (aB abD) (aA 26 (aB (aco aii (.bool br))) (aA 64 (aB (aco ah9 (.int .i64 de))) (aA 66 (aB (aco aij (.bool b2))) (aA 69 (aB (aco aik (.int .i64 w))) (aA 72 (aB (aco aiH (.tup [.bool br,.int .i64 e]))) (aA 73 (aB (aco aiI (.tup [.bool j,.int .i64 je]))) (aA 74 (aB (aco aiJ (.tup [stV s2,.int .i64 ae]))) (aA 75 (aB (aco ahY (.bool j))) (aA 76 (aB (aco (ail c ls sum) (stV s2))) noC)))))))))))))
theorem eG (c:Int) (ls:List (List Int)) (sum:Int) (b1 b2:Bool) (w:Int) (br:Bool) (e:Int) (j:Bool) (je:Int) (s2:St) (ae de:Int):aW Tryz.prog (aho c ls sum b1 b2 w br e j je s2 ae de):=aj (au (adQ adJ (.bool b1))) (aj (au adE) (aj (au abC) (aj (au (adQ adW (.bool true))) (aj (au adT) (aj (au (adQ aiP (.bool br))) (aj (au (adQ aiN (.int .i64 de))) (aj (au (adQ aiQ (.bool b2))) (aj (au (adQ aiS (.int .i64 w))) (aj (au (adQ aiW (.tup [.bool br,.int .i64 e]))) (aj (au (adQ aiX (.tup [.bool j,.int .i64 je]))) (aj (au (adQ aiY (.tup [stV s2,.int .i64 ae]))) (aj (au (adQ aiz (.bool j))) (aj (au (adQ (aiU c ls sum) (stV s2))) aD)))))))))))))
theorem ahq {a b:St} (h:a=b):Sup (.bp (smB a b)) (.bool true):=adU (by subst h;exact decide_eq_true ⟨rfl,rfl⟩)
theorem ain (c:Int) (ls:List (List Int)) (sum:Int) (gv:List Int) (s:St) (r:ByteArray) (y x k:Int) (hm:s.cs.length≤9223372036854775807):aF Tryz.prog 12 [pzV c ls sum gv,stV s,.agg [.str r,.int .i64 y,.int .i64 x,.int .i64 k]] (.bp true):=by
 by_cases hg:TI c ls sum gv=true
 ·have hC:=eG c ls sum true false 0 false 0 false 0 noS 0 0
  refine eD (md:=1) (rf:=[]) mixed ak hC Tryz.func12 (by rfl) (by rfl) (by rfl) ?_
  unfold aho
  repeat'((conv=>whnf);first|(intro hq;(try simp only[vw]at hq);try first|exact absurd hq (by decide)|exfalso;omega)|apply aI|with_reducible exact vM rfl|exact⟨⟩|apply nM|apply fM)
  all_goals((try apply vM);(try simp only[vq]at*);try omega)
  all_goals first|exact adU hg|exact mg _|omega
 have hg:TI c ls sum gv=false:=by simpa using hg
 by_cases hlo:Jd s=true
 ·have hC:=eG c ls sum false true 0 false 0 false 0 noS 0 0
  refine eD (md:=1) (rf:=[]) mixed ak hC Tryz.func12 (by rfl) (by rfl) (by rfl) ?_
  unfold aho
  repeat'((conv=>whnf);first|(intro hq;(try simp only[vw]at hq);try first|exact absurd hq (by decide)|exfalso;omega)|apply aI|with_reducible exact vM rfl|exact⟨⟩|apply nM|apply fM)
  all_goals((try apply vM);(try simp only[vq]at*);try omega)
  all_goals first|exact adU hg|exact mg _|exact adU hlo|exact hm|omega
 have hlo:Jd s=false:=by simpa using hlo
 by_cases h20:20<(r.size:Int)
 ·have hC:=eG c ls sum false false 0 false 0 false 0 noS 0 0
  refine eD (md:=1) (rf:=[]) mixed ak hC Tryz.func12 (by rfl) (by rfl) (by rfl) ?_
  unfold aho
  repeat'((conv=>whnf);first|(intro hq;(try simp only[vw]at hq);try first|exact absurd hq (by decide)|exfalso;omega)|apply aI|with_reducible exact vM rfl|exact⟨⟩|apply nM|apply fM)
  all_goals((try apply vM);(try simp only[vq]at*);try omega)
  all_goals first|exact adU hg|exact mg _|exact adU hlo|exact hm|omega
 have hsh:vF ls gv=true:=by unfold TI at hg;cases h:vF ls gv<;>simp[h]at hg⊢
 obtain⟨hL,hgl⟩:=YO hsh;have hsts:=aiT hlo;obtain⟨w,he⟩:∃w,dx c ls sum gv s=w:=⟨_,rfl⟩;by_cases hw:w=0
 case neg=>
  have h1:Sy c ls sum gv s=(false,w):=by unfold Sy;rw[if_neg (by rw[he];exact hw),he]
  have hj1:juR c ls sum gv s r y x k=(false,w):=by unfold juR;rw[if_pos (by rw[he];exact hw),he]
  have h2:=hj1;have h3:apR c ls sum gv s r y x k=(noS,w):=by unfold apR;rw[hj1,if_pos hw]
  have hC:=eG c ls sum false false w false w false w noS w 0;refine eD (md:=1) (rf:=[]) mixed ak hC Tryz.func12 (by rfl) (by rfl) (by rfl) ?_
  unfold aho
  repeat'((conv=>whnf);first|(intro hq;(try simp only[vw]at hq);try first|exact absurd hq (by decide)|exfalso;omega)|apply aI|with_reducible exact vM rfl|exact⟨⟩|apply nM|apply fM)
  all_goals((try apply vM);(try simp only[vq]at*);try omega)
  all_goals(try first|exact adU hg|exact mg _|exact adU hlo|exact hm|exact adV he|exact⟨hL,by omega,hsts⟩|exact⟨hL,by omega,hlo⟩|exact hL|(rw[h1];exact dz rfl)|(rw[h2];exact dz rfl)|(rw[h3];exact mg _)|exact hB|exact adU hbr|exact adV hde|exact⟨hB,l9.of hde⟩|exact adU hj|(rw[h4];exact mg _)|exact⟨rfl,rfl⟩|exact hbd|exact ahq rfl|exact adU rfl|omega)
 subst hw;obtain⟨hp,hB⟩:=kM he;cases hbr:brk c ls sum s with
 |true=>
  have h1:Sy c ls sum gv s=(true,0):=by unfold Sy;rw[if_pos he,hbr]
  by_cases hd0:dL c ls r y x k=0
  ·have hde:=hd0
   have hx:=(l9.of hde).x;cases hj:okJ (aP r).toNat s sum (ls.getD k.toNat []) y x with
   |true=>
    have h2:juR c ls sum gv s r y x k=(true,0):=by unfold juR;rw[if_neg (by rw[he];simp),if_neg (by rw[hde];simp),hj]
    have h3:apR c ls sum gv s r y x k=(apl (aP r).toNat s y x,0):=by unfold apR;rw[h2,if_neg (by simp),if_pos rfl]
    obtain⟨s2,h4⟩:∃s2,apl (aP r).toNat s y x=s2:=⟨_,rfl⟩;have hbd:s2.cs.length≤1000000∧s2.ds.length≤1000000∧∀i,(s2.cs.getD i []).length≤2000000:=by
     have hc:=hB.c1;have hlt:=abe (g:=(aP r).toNat) hB.lt (y:=y) (x:=x) ⟨hx.1,by omega⟩
     have hl:=Sw (g:=(aP r).toNat) (s:=s) (y:=y) (x:=x);rw[h4]at hlt hl;have h1:=hB.cl;have h2:=hB.dl;refine⟨by omega,by omega,fun i=>?_⟩
     by_cases hi:i<s2.cs.length
     ·have h16:(s2.cs.getD i []).length≤16:=Ap (hlt.asc i hi);omega
     ·rw[aeo,ajf (by omega)];simp
    rw[h4]at h3;have hC:=eG c ls sum false false 0 true 0 true 0 s2 0 0;refine eD (md:=1) (rf:=[]) mixed ak hC Tryz.func12 (by rfl) (by rfl) (by rfl) ?_
    unfold aho
    repeat'((conv=>whnf);first|(intro hq;(try simp only[vw]at hq);try first|exact absurd hq (by decide)|exfalso;omega)|apply aI|with_reducible exact vM rfl|exact⟨⟩|apply nM|apply fM)
    all_goals((try apply vM);(try simp only[vq]at*);try omega)
    all_goals(try first|exact adU hg|exact mg _|exact adU hlo|exact hm|exact adV he|exact⟨hL,by omega,hsts⟩|exact⟨hL,by omega,hlo⟩|exact hL|(rw[h1];exact dz rfl)|(rw[h2];exact dz rfl)|(rw[h3];exact mg _)|exact hB|exact adU hbr|exact adV hde|exact⟨hB,l9.of hde⟩|exact adU hj|(rw[h4];exact mg _)|exact⟨rfl,rfl⟩|exact hbd|exact ahq rfl|exact adU rfl|omega)
   |false=>
    have h2:juR c ls sum gv s r y x k=(false,0):=by unfold juR;rw[if_neg (by rw[he];simp),if_neg (by rw[hde];simp),hj]
    have h3:apR c ls sum gv s r y x k=(noS,19):=by unfold apR;rw[h2,if_neg (by simp),if_neg (by simp)]
    have hC:=eG c ls sum false false 0 true 0 false 0 noS 19 0;refine eD (md:=1) (rf:=[]) mixed ak hC Tryz.func12 (by rfl) (by rfl) (by rfl) ?_
    unfold aho
    repeat'((conv=>whnf);first|(intro hq;(try simp only[vw]at hq);try first|exact absurd hq (by decide)|exfalso;omega)|apply aI|with_reducible exact vM rfl|exact⟨⟩|apply nM|apply fM)
    all_goals((try apply vM);(try simp only[vq]at*);try omega)
    all_goals(try first|exact adU hg|exact mg _|exact adU hlo|exact hm|exact adV he|exact⟨hL,by omega,hsts⟩|exact⟨hL,by omega,hlo⟩|exact hL|(rw[h1];exact dz rfl)|(rw[h2];exact dz rfl)|(rw[h3];exact mg _)|exact hB|exact adU hbr|exact adV hde|exact⟨hB,l9.of hde⟩|exact adU hj|(rw[h4];exact mg _)|exact⟨rfl,rfl⟩|exact hbd|exact ahq rfl|exact adU rfl|omega)
  ·obtain⟨de,hde⟩:∃de,dL c ls r y x k=de:=⟨_,rfl⟩
   rw[hde]at hd0;have h2:juR c ls sum gv s r y x k=(false,de):=by unfold juR;rw[if_neg (by rw[he];simp),hde,if_pos hd0]
   have h3:apR c ls sum gv s r y x k=(noS,de):=by unfold apR;rw[h2,if_pos hd0]
   have hC:=eG c ls sum false false 0 true 0 false de noS de de;refine eD (md:=1) (rf:=[]) mixed ak hC Tryz.func12 (by rfl) (by rfl) (by rfl) ?_
   unfold aho
   repeat'((conv=>whnf);first|(intro hq;(try simp only[vw]at hq);try first|exact absurd hq (by decide)|exfalso;omega)|apply aI|with_reducible exact vM rfl|exact⟨⟩|apply nM|apply fM)
   all_goals((try apply vM);(try simp only[vq]at*);try omega)
   all_goals(try first|exact adU hg|exact mg _|exact adU hlo|exact hm|exact adV he|exact⟨hL,by omega,hsts⟩|exact⟨hL,by omega,hlo⟩|exact hL|(rw[h1];exact dz rfl)|(rw[h2];exact dz rfl)|(rw[h3];exact mg _)|exact hB|exact adU hbr|exact adV hde|exact⟨hB,l9.of hde⟩|exact adU hj|(rw[h4];exact mg _)|exact⟨rfl,rfl⟩|exact hbd|exact ahq rfl|exact adU rfl|omega)
 |false=>
  have h1:Sy c ls sum gv s=(false,0):=by unfold Sy;rw[if_pos he,hbr]
  by_cases hd0:dL c ls r y x k=0
  ·have hde:=hd0
   have hx:=(l9.of hde).x;cases hj:okJ (aP r).toNat s sum (ls.getD k.toNat []) y x with
   |true=>
    have h2:juR c ls sum gv s r y x k=(true,0):=by unfold juR;rw[if_neg (by rw[he];simp),if_neg (by rw[hde];simp),hj]
    have h3:apR c ls sum gv s r y x k=(apl (aP r).toNat s y x,0):=by unfold apR;rw[h2,if_neg (by simp),if_pos rfl]
    obtain⟨s2,h4⟩:∃s2,apl (aP r).toNat s y x=s2:=⟨_,rfl⟩;have hbd:s2.cs.length≤1000000∧s2.ds.length≤1000000∧∀i,(s2.cs.getD i []).length≤2000000:=by
     have hc:=hB.c1;have hlt:=abe (g:=(aP r).toNat) hB.lt (y:=y) (x:=x) ⟨hx.1,by omega⟩
     have hl:=Sw (g:=(aP r).toNat) (s:=s) (y:=y) (x:=x);rw[h4]at hlt hl;have h1:=hB.cl;have h2:=hB.dl;refine⟨by omega,by omega,fun i=>?_⟩
     by_cases hi:i<s2.cs.length
     ·have h16:(s2.cs.getD i []).length≤16:=Ap (hlt.asc i hi);omega
     ·rw[aeo,ajf (by omega)];simp
    rw[h4]at h3;have hC:=eG c ls sum false false 0 false 0 true 0 s2 0 0;refine eD (md:=1) (rf:=[]) mixed ak hC Tryz.func12 (by rfl) (by rfl) (by rfl) ?_
    unfold aho
    repeat'((conv=>whnf);first|(intro hq;(try simp only[vw]at hq);try first|exact absurd hq (by decide)|exfalso;omega)|apply aI|with_reducible exact vM rfl|exact⟨⟩|apply nM|apply fM)
    all_goals((try apply vM);(try simp only[vq]at*);try omega)
    all_goals(try first|exact adU hg|exact mg _|exact adU hlo|exact hm|exact adV he|exact⟨hL,by omega,hsts⟩|exact⟨hL,by omega,hlo⟩|exact hL|(rw[h1];exact dz rfl)|(rw[h2];exact dz rfl)|(rw[h3];exact mg _)|exact hB|exact adU hbr|exact adV hde|exact⟨hB,l9.of hde⟩|exact adU hj|(rw[h4];exact mg _)|exact⟨rfl,rfl⟩|exact hbd|exact ahq rfl|exact adU rfl|omega)
   |false=>
    have h2:juR c ls sum gv s r y x k=(false,0):=by unfold juR;rw[if_neg (by rw[he];simp),if_neg (by rw[hde];simp),hj]
    have h3:apR c ls sum gv s r y x k=(noS,19):=by unfold apR;rw[h2,if_neg (by simp),if_neg (by simp)]
    have hC:=eG c ls sum false false 0 false 0 false 0 noS 19 0;refine eD (md:=1) (rf:=[]) mixed ak hC Tryz.func12 (by rfl) (by rfl) (by rfl) ?_
    unfold aho
    repeat'((conv=>whnf);first|(intro hq;(try simp only[vw]at hq);try first|exact absurd hq (by decide)|exfalso;omega)|apply aI|with_reducible exact vM rfl|exact⟨⟩|apply nM|apply fM)
    all_goals((try apply vM);(try simp only[vq]at*);try omega)
    all_goals(try first|exact adU hg|exact mg _|exact adU hlo|exact hm|exact adV he|exact⟨hL,by omega,hsts⟩|exact⟨hL,by omega,hlo⟩|exact hL|(rw[h1];exact dz rfl)|(rw[h2];exact dz rfl)|(rw[h3];exact mg _)|exact hB|exact adU hbr|exact adV hde|exact⟨hB,l9.of hde⟩|exact adU hj|(rw[h4];exact mg _)|exact⟨rfl,rfl⟩|exact hbd|exact ahq rfl|exact adU rfl|omega)
  ·obtain⟨de,hde⟩:∃de,dL c ls r y x k=de:=⟨_,rfl⟩
   rw[hde]at hd0;have h2:juR c ls sum gv s r y x k=(false,de):=by unfold juR;rw[if_neg (by rw[he];simp),hde,if_pos hd0]
   have h3:apR c ls sum gv s r y x k=(noS,de):=by unfold apR;rw[h2,if_pos hd0]
   have hC:=eG c ls sum false false 0 false 0 false de noS de de;refine eD (md:=1) (rf:=[]) mixed ak hC Tryz.func12 (by rfl) (by rfl) (by rfl) ?_
   unfold aho
   repeat'((conv=>whnf);first|(intro hq;(try simp only[vw]at hq);try first|exact absurd hq (by decide)|exfalso;omega)|apply aI|with_reducible exact vM rfl|exact⟨⟩|apply nM|apply fM)
   all_goals((try apply vM);(try simp only[vq]at*);try omega)
   all_goals(try first|exact adU hg|exact mg _|exact adU hlo|exact hm|exact adV he|exact⟨hL,by omega,hsts⟩|exact⟨hL,by omega,hlo⟩|exact hL|(rw[h1];exact dz rfl)|(rw[h2];exact dz rfl)|(rw[h3];exact mg _)|exact hB|exact adU hbr|exact adV hde|exact⟨hB,l9.of hde⟩|exact adU hj|(rw[h4];exact mg _)|exact⟨rfl,rfl⟩|exact hbd|exact ahq rfl|exact adU rfl|omega)
end Go.Eng.YtcechbdgokjmgaaGreatDoor
