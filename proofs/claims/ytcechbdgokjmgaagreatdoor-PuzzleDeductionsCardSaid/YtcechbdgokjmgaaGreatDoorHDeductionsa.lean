/- Contracts of functions that the law calls, and what the law says of them. Conditions stand in them. -/
import Derived.Test.YtcechbdgokjmgaaGreatDoorBg
open Bool renaming not_false→aeV,true_and→agO,not_true→aeW,false_and→agn,and_false→agR,and_eq_true→aeA
open Classical renaming not_not→ae2
open Int renaming toNat_zero→ahk,toNat→agt,toNat_natCast→afg
open List renaming length_filter_le→agM,length_append→afu,append_nil→agN,take_length→af5,foldl_append→agq,eq_nil_of_length_eq_zero→ai7,any_eq_true→agC,mem_filter→agh,any_eq_false→agD,mem_cons_self→afZ,mem_cons_of_mem→aek,length_singleton→ai8,take→agH,drop→agI,all_eq_false→ahh,mem_range→afY,all_eq_true→afI,range→ael,map_append→af4,filter_eq_nil_iff→ai9,flatMap_cons→aja,length_map→af0,append_assoc→ag5,getD_eq_getElem?_getD→aeo
open Nat renaming le_trans→afW,eq_zero_or_pos→aee,le_refl→aea,succ_mul→ad8,mul_le_mul→aff
namespace Go.Eng.YtcechbdgokjmgaaGreatDoor
open Go.Proofs
set_option linter.unusedSimpArgs false
set_option linter.unusedVariables false
set_option maxHeartbeats 0
set_option maxRecDepth 100000
theorem aic (c:Int) (ls:List (List Int)) (sum:Int) (gv:List Int) (s:St) (h:bO c ls sum s) (k b:Int) (hk:0≤k∧k<ls.length):
 aF Tryz.prog 96 [pzV c ls sum gv,stV s,.int .i64 k,.int .i64 b] (.isl (.ints .i64 (opn s (ls.getD k.toNat []) b)) .none):=by
 have hln:=h.ln k.toNat (by omega)
 have hll:=hln.len;have hcl:=h.cl;have hdl:=h.dl;refine av (md:=1) (rf:=[]) mixed ak aD Tryz.func96 (by rfl) (by rfl) (by rfl) ?_
 repeat'((conv=>whnf);first|intro _|apply aI|with_reducible exact vM rfl|exact⟨⟩|apply nM|apply fM)
 all_goals((try apply vM);(try simp only[vq]at*);try omega)
 conv=>whnf
 refine aM (X:=Nat) (fun i=>i≤(ls.getD k.toNat []).length) (fun i=>[(11,.int .i64 i),(9,.isl (.ints .i64 (opn s ((ls.getD k.toNat []).take i) b)) (.own 5))]) (fun i=>[(5,.tok 1 (opn s ((ls.getD k.toNat []).take i) b).length)]) (fun i=>(ls.getD k.toNat []).length-i) 0 ⟨aK,mixed,ak,aD,aQ⟩ (by rfl) (by omega) ?_ ?_
 ·repeat'((conv=>whnf);first|intro _|apply aI|with_reducible exact vM rfl|exact⟨⟩|apply nM|apply fM)
  all_goals((try apply vM);(try simp only[vq]at*);try omega)
  all_goals rfl
 intro i hi;by_cases hlt:i<(ls.getD k.toNat []).length
 ·have hx:=hln.rng ((ls.getD k.toNat []).getD i 0) (bL hlt)
  have hxs:=h.at hx;have ho:(opn s ((ls.getD k.toNat []).take i) b).length≤16:=afW (agM _ _) (by rw[List.length_take];omega)
  have e1:=XF s ((ls.getD k.toNat []).take i) ((ls.getD k.toNat []).getD i 0) b;rw[←dF hlt]at e1
  repeat'((conv=>whnf);first|(intro hq;(try simp only[vw]at hq);try first|exact absurd hq (by decide)|exfalso;omega)|apply aI|with_reducible exact vM rfl|exact⟨⟩|apply nM|apply fM)
  all_goals((try apply vM);(try simp only[vq]at*);try omega)
  all_goals(try(first|omega|(rw[afu,List.length_cons,List.length_nil];omega)))
  ·rename_i hd
   have hd:s.dc ((ls.getD k.toNat []).getD i 0).toNat=false:=hd;rw[hd,if_pos (by simpa using hq)]at e1
   refine⟨i+1,[],⟨by omega,by omega⟩,?_⟩
   rw[e1,afu]
   repeat'((conv=>whnf);first|intro _|apply aI|with_reducible exact vM rfl|exact⟨⟩|apply nM|apply fM)
   all_goals((try apply vM);(try simp only[vq]at*);try omega)
  ·rename_i hd
   have hd:s.dc ((ls.getD k.toNat []).getD i 0).toNat=false:=hd;rw[hd,if_neg (by simpa using hq),agN]at e1
   refine⟨i+1,[],⟨by omega,by omega⟩,?_⟩
   rw[e1]
   repeat'((conv=>whnf);first|intro _|apply aI|with_reducible exact vM rfl|exact⟨⟩|apply nM|apply fM)
   all_goals((try apply vM);(try simp only[vq]at*);try omega)
  ·have hd:s.dc ((ls.getD k.toNat []).getD i 0).toNat=true:=hq
   rw[hd,if_neg (by simp),agN]at e1
   refine⟨i+1,[],⟨by omega,by omega⟩,?_⟩
   rw[e1]
   repeat'((conv=>whnf);first|intro _|apply aI|with_reducible exact vM rfl|exact⟨⟩|apply nM|apply fM)
   all_goals((try apply vM);(try simp only[vq]at*);try omega)
 ·have:i=(ls.getD k.toNat []).length:=by omega
  subst this;rw[af5]
  repeat'((conv=>whnf);first|intro _|apply aI|with_reducible exact vM rfl|exact⟨⟩|apply nM|apply fM)
  all_goals((try apply vM);(try simp only[vq]at*);try omega)
  exact Sup.of rfl
theorem aie (c:Int) (ls:List (List Int)) (sum:Int) (gv:List Int) (s:St) (h:bO c ls sum s) (k:Int) (hk:0≤k∧k<ls.length):
 aF Tryz.prog 97 [pzV c ls sum gv,stV s,.int .i64 k] (.int .i64 (rst s sum (ls.getD k.toNat []))):=by
 have hln:=h.ln k.toNat (by omega)
 have hsm:=h.sm;have hll:=hln.len;have hcl:=h.cl;have hdl:=h.dl;have hb:=Fh h hln.rng;refine av (md:=1) (rf:=[]) mixed ak aD Tryz.func97 (by rfl) (by rfl) (by rfl) ?_
 repeat'((conv=>whnf);first|intro _|apply aI|with_reducible exact vM rfl|exact⟨⟩|apply nM|apply fM)
 all_goals((try apply vM);(try simp only[vq]at*);try omega)
 conv=>whnf
 refine aM (X:=Nat) (fun i=>i≤(ls.getD k.toNat []).length) (fun i=>[(9,.int .i64 i),(7,.int .i64 (rst s sum ((ls.getD k.toNat []).take i)))]) (fun i=>[]) (fun i=>(ls.getD k.toNat []).length-i) 0 ⟨aK,mixed,ak,aD,aQ⟩ (by rfl) (by omega) ?_ ?_
 ·repeat'((conv=>whnf);first|intro _|apply aI|with_reducible exact vM rfl|exact⟨⟩|apply nM|apply fM)
  all_goals((try apply vM);(try simp only[vq]at*);try omega)
  all_goals rfl
 intro i hi;by_cases hlt:i<(ls.getD k.toNat []).length
 ·have hx:=hln.rng ((ls.getD k.toNat []).getD i 0) (bL hlt)
  have hxs:=h.at hx;have hbi:=hb i (by omega)
  have e2:=Je s sum ((ls.getD k.toNat []).take i) ((ls.getD k.toNat []).getD i 0);rw[←dF hlt]at e2;have h8:s.dc ((ls.getD k.toNat []).getD i 0).toNat=true→(s.cs.getD ((ls.getD k.toNat []).getD i 0).toNat []).length=1:=h.dec _ hxs.1;have h9:s.dc ((ls.getD k.toNat []).getD i 0).toNat=true→1≤(s.cs.getD ((ls.getD k.toNat []).getD i 0).toNat []).getD 0 0∧(s.cs.getD ((ls.getD k.toNat []).getD i 0).toNat []).getD 0 0≤16:=fun hd=>by have:=h.num hx hd;exact⟨this.1,this.2.1⟩
  repeat'((conv=>whnf);first|(intro hq;(try simp only[vw]at hq);try first|exact absurd hq (by decide)|exfalso;omega)|apply aI|with_reducible exact vM rfl|exact⟨⟩|apply nM|apply fM)
  all_goals((try apply vM);(try simp only[vq]at*);try omega)
  all_goals(try simp only[ahk])
  all_goals(try(have k8:=h8 (by assumption);have k9:=h9 (by assumption);omega))
  ·have hd:s.dc ((ls.getD k.toNat []).getD i 0).toNat=true:=hq
   rw[hd,if_pos rfl]at e2;refine⟨i+1,[],⟨by omega,by omega⟩,?_⟩
   rw[e2]
   repeat'((conv=>whnf);first|intro _|apply aI|with_reducible exact vM rfl|exact⟨⟩|apply nM|apply fM)
   all_goals((try apply vM);(try simp only[vq]at*);try omega)
  ·have hd:s.dc ((ls.getD k.toNat []).getD i 0).toNat=false:=hq
   rw[hd,if_neg (by simp)]at e2
   refine⟨i+1,[],⟨by omega,by omega⟩,?_⟩
   rw[e2]
   repeat'((conv=>whnf);first|intro _|apply aI|with_reducible exact vM rfl|exact⟨⟩|apply nM|apply fM)
   all_goals((try apply vM);(try simp only[vq]at*);try omega)
 ·have:i=(ls.getD k.toNat []).length:=by omega
  subst this;rw[af5]
  repeat'((conv=>whnf);first|intro _|apply aI|with_reducible exact vM rfl|exact⟨⟩|apply nM|apply fM)
  all_goals((try apply vM);(try simp only[vq]at*);try omega)
  exact Sup.of rfl
def ahC (s:St) (o:List Int) (x:Int):Bool:=!(o.any fun y=>decide (s.cd y.toNat=[]))&&(decide (xQ s o≤x)&&decide (x≤xR s o))
theorem aiM (s:St) (sum:Int) (l:List Int) (c x:Int):xS s sum l c x=!ahC s (opn s l c) (rst s sum l-x):=by
 unfold xS ahC;cases(opn s l c).any fun y=>decide (s.cd y.toNat=[])
 ·simp only[Bool.false_or,aeV,agO,Bool.not_and]
  congr 1
  ·rw[←decide_not];congr 1;simp
  ·rw[←decide_not];congr 1;simp
 ·simp
theorem ahU (s:St) (o:List Int) (y:Int):xQ s (o++[y])=xQ s o+hd0 (s.cd y.toNat):=by unfold xQ;rw[agq];rfl
theorem ahV (s:St) (o:List Int) (y:Int):xR s (o++[y])=xR s o+ls0 (s.cd y.toNat):=by unfold xR;rw[agq];rfl
structure ahW (c:Int) (ls:List (List Int)) (sum:Int) (s:St) (o:List Int) (x:Int):Prop where
 bd:bO c ls sum s
 rng:∀y∈o,0≤y∧y<c
 len:o.length≤16
 x: -2000000000≤x∧x≤2000000000
theorem ah8 {c:Int} {ls:List (List Int)} {sum:Int} {s:St} (h:bO c ls sum s) (o:List Int) (ho:∀y∈o,0≤y∧y<c):∀i,i≤o.length→0≤xQ s (o.take i)∧xQ s (o.take i)≤16*i∧0≤xR s (o.take i)∧xR s (o.take i)≤16*i:=by
 intro i;induction i with
 |zero=>intro _;simp[xQ,xR]
 |succ i ih=>
  intro hi;have h1:=ih (by omega)
  have hy:=ho (o.getD i 0) (bL (by omega))
  have hA:=(h.asc _ (h.at hy).1).1;have h2:0≤hd0 (s.cd (o.getD i 0).toNat)∧hd0 (s.cd (o.getD i 0).toNat)≤16:=by
   rcases aee (s.cd (o.getD i 0).toNat).length with e|e
   ·rw[ai7 e];simp[hd0]
   ·have:=hA.rng _ (vZ e);omega
  have h3:0≤ls0 (s.cd (o.getD i 0).toNat)∧ls0 (s.cd (o.getD i 0).toNat)≤16:=by
   rcases aee (s.cd (o.getD i 0).toNat).length with e|e
   ·rw[ai7 e];simp[ls0]
   ·have:=hA.rng _ (Ag e);omega
  rw[dF (by omega),ahU,ahV]
  omega
theorem air (c:Int) (ls:List (List Int)) (sum:Int) (s:St) (o:List Int) (x:Int) (h:ahW c ls sum s o x):aF Tryz.prog 135 [stV s,.isl (.ints .i64 o) .none,.int .i64 x] (.bp (ahC s o x)):=by
 have hb:=h.bd;have hcl:=hb.cl;have hdl:=hb.dl;have hlen:=h.len;have hx:=h.x;refine av (md:=1) (rf:=[]) mixed ak aD Tryz.func135 (by rfl) (by rfl) (by rfl) ?_
 repeat'((conv=>whnf);first|intro _|apply aI|with_reducible exact vM rfl|exact⟨⟩|apply nM|apply fM)
 all_goals((try apply vM);(try simp only[vq]at*);try omega)
 conv=>whnf
 refine aM (X:=Nat) (fun i=>i≤o.length∧(o.take i).any (fun y=>decide (s.cd y.toNat=[]))=false) (fun i=>[(9,.int .i64 i),(7,.int .i64 (xQ s (o.take i))),(8,.int .i64 (xR s (o.take i)))]) (fun i=>[]) (fun i=>o.length-i) 0 ⟨aK,mixed,ak,aD,aQ⟩ (by rfl) ⟨by omega,by simp⟩ ?_ ?_
 ·repeat'((conv=>whnf);first|intro _|apply aI|with_reducible exact vM rfl|exact⟨⟩|apply nM|apply fM)
  all_goals((try apply vM);(try simp only[vq]at*);try omega)
  all_goals rfl
 intro i ⟨hi,hok⟩;by_cases hlt:i<o.length
 ·have hy:=h.rng (o.getD i 0) (bL hlt)
  have hys:=hb.at hy;have hA:=(hb.asc _ hys.1).1;have h16:=Ap hA;have s1:=ah8 hb o h.rng i (by omega)
  have s2:=ah8 hb o h.rng (i+1) (by omega)
  have e1:xQ s (o.take (i+1))=xQ s (o.take i)+hd0 (s.cd (o.getD i 0).toNat):=by rw[dF hlt,ahU]
  have e2:xR s (o.take (i+1))=xR s (o.take i)+ls0 (s.cd (o.getD i 0).toNat):=by rw[dF hlt,ahV]
  have k16:(s.cs.getD (o.getD i 0).toNat []).length≤16:=h16;have f1:(s.cs.getD (o.getD i 0).toNat []).getD 0 0=hd0 (s.cd (o.getD i 0).toNat):=rfl;have f2:(s.cs.getD (o.getD i 0).toNat []).getD (((s.cs.getD (o.getD i 0).toNat []).length:Int)-1).toNat 0=ls0 (s.cd (o.getD i 0).toNat):=by
   rw[show(((s.cs.getD (o.getD i 0).toNat []).length:Int)-1).toNat=(s.cs.getD (o.getD i 0).toNat []).length-1 by omega];rfl
  repeat'((conv=>whnf);first|(intro hq;(try simp only[vw]at hq);try first|exact absurd hq (by decide)|exfalso;omega)|apply aI|with_reducible exact vM rfl|exact⟨⟩|apply nM|apply fM)
  all_goals((try apply vM);(try simp only[vq]at*);try omega)
  all_goals(try simp only[ahk])
  all_goals(try rw[f1])
  all_goals(try rw[f2])
  all_goals(try omega)
  ·have hn:s.cd (o.getD i 0).toNat=[]:=ai7 (show(s.cs.getD (o.getD i 0).toNat []).length=0 by omega)
   have:ahC s o x=false:=by
    unfold ahC;rw[agC.2 ⟨o.getD i 0,bL hlt,decide_eq_true hn⟩];rfl
   rw[this];exact dK false
  ·have hn:s.cd (o.getD i 0).toNat≠[]:=fun e=>by
    have:(s.cs.getD (o.getD i 0).toNat []).length=0:=by rw[show s.cs.getD (o.getD i 0).toNat []=[]from e];rfl
    omega
   refine⟨i+1,[],⟨⟨by omega,?_⟩,by omega⟩,?_⟩
   ·rw[dF hlt,List.any_append,hok,List.any_cons,decide_eq_false hn];rfl
   rw[e1,e2]
   repeat'((conv=>whnf);first|intro _|apply aI|with_reducible exact vM rfl|exact⟨⟩|apply nM|apply fM)
   all_goals((try apply vM);(try simp only[vq]at*);try omega)
   all_goals(try rw[f2])
 ·have:i=o.length:=by omega
  subst this;rw[af5]at*;have hB:ahC s o x=(decide (xQ s o≤x)&&decide (x≤xR s o)):=by unfold ahC;rw[hok];rfl
  repeat'((conv=>whnf);first|intro _|apply aI|with_reducible exact vM rfl|exact⟨⟩|apply nM|apply fM)
  all_goals((try apply vM);(try simp only[vq]at*);try omega)
  ·rename_i h1
   rw[hB,decide_eq_true h1];exact Sup.of rfl
  ·rename_i h1
   rw[hB,decide_eq_false h1];exact dK false
def aif:PSp:=fun xs K=>match xs with
 | [.agg [.isl (.rows .i64 CS) .none,.isl (.bools DS) .none],.isl (.ints .i64 o) .none,.int .i64 x]=>VC (∃c ls sum,ahW c ls sum ⟨CS,DS⟩ o x)∧K (.bp (ahC ⟨CS,DS⟩ o x))
 |_=>False
theorem aiN:POK Tryz.prog 135 aif:=by
 intro xs K h;unfold aif at h;split at h
 ·exact⟨_,h.2,(by obtain⟨c,ls,sum,h'⟩:=h.1.get;exact air c ls sum ⟨_,_⟩ _ _ h')⟩
 ·exact h.elim
theorem ahL (r:ByteArray):aF Tryz.prog 70 [.str r] (.int .i64 (aP r)):=by
 have hn:=pV;refine av (md:=1) (rf:=[]) mixed ak aD Tryz.func70 (by rfl) (by rfl) (by rfl) ?_
 repeat'((conv=>whnf);first|intro _|apply aI|with_reducible exact vM rfl|exact⟨⟩|apply nM|apply fM)
 all_goals((try apply vM);(try simp only[vq]at*);try omega)
 conv=>whnf
 refine aM (X:=Nat) (fun i=>i≤5∧∀j,0<j→j<i+1→nmG j≠r) (fun i=>[(4,.int .i64 i)]) (fun i=>[]) (fun i=>5-i) 0 ⟨aK,mixed,ak,aD,aQ⟩ (by rfl) ⟨by omega,fun j h0 hj=>by omega⟩ ?_ ?_
 ·repeat'((conv=>whnf);first|intro _|apply aI|with_reducible exact vM rfl|exact⟨⟩|apply nM|apply fM)
  all_goals((try apply vM);(try simp only[vq]at*);try omega)
 intro i ⟨hi,hok⟩;obtain rfl|rfl|rfl|rfl|rfl|rfl:i=0∨i=1∨i=2∨i=3∨i=4∨i=5:=by omega
 ·repeat'((conv=>whnf);first|(intro hq;(try simp only[vw]at hq);try first|exact absurd hq (by decide)|exfalso;omega)|apply aI|with_reducible exact vM rfl|exact⟨⟩|apply nM|apply fM)
  all_goals((try apply vM);(try simp only[vq]at*);try omega)
  all_goals(try omega)
  ·subst hq
   refine Sup.of (congrArg (PV.int .i64) ?_);exact(hn.1:aP (nmG 1)=1).symm
  refine⟨1,[],⟨⟨by omega,fun j h0 hj=>?_⟩,by omega⟩,?_⟩
  ·by_cases e:j=1
   ·subst e;exact hq
   ·exact hok j h0 (by omega)
  repeat'((conv=>whnf);first|intro _|apply aI|with_reducible exact vM rfl|exact⟨⟩|apply nM|apply fM)
  all_goals((try apply vM);(try simp only[vq]at*);try omega)
 ·repeat'((conv=>whnf);first|(intro hq;(try simp only[vw]at hq);try first|exact absurd hq (by decide)|exfalso;omega)|apply aI|with_reducible exact vM rfl|exact⟨⟩|apply nM|apply fM)
  all_goals((try apply vM);(try simp only[vq]at*);try omega)
  all_goals(try omega)
  ·subst hq
   refine Sup.of (congrArg (PV.int .i64) ?_);exact(hn.2.1:aP (nmG 2)=2).symm
  refine⟨2,[],⟨⟨by omega,fun j h0 hj=>?_⟩,by omega⟩,?_⟩
  ·by_cases e:j=2
   ·subst e;exact hq
   ·exact hok j h0 (by omega)
  repeat'((conv=>whnf);first|intro _|apply aI|with_reducible exact vM rfl|exact⟨⟩|apply nM|apply fM)
  all_goals((try apply vM);(try simp only[vq]at*);try omega)
 ·repeat'((conv=>whnf);first|(intro hq;(try simp only[vw]at hq);try first|exact absurd hq (by decide)|exfalso;omega)|apply aI|with_reducible exact vM rfl|exact⟨⟩|apply nM|apply fM)
  all_goals((try apply vM);(try simp only[vq]at*);try omega)
  all_goals(try omega)
  ·subst hq
   refine Sup.of (congrArg (PV.int .i64) ?_);exact(hn.2.2.1:aP (nmG 3)=3).symm
  refine⟨3,[],⟨⟨by omega,fun j h0 hj=>?_⟩,by omega⟩,?_⟩
  ·by_cases e:j=3
   ·subst e;exact hq
   ·exact hok j h0 (by omega)
  repeat'((conv=>whnf);first|intro _|apply aI|with_reducible exact vM rfl|exact⟨⟩|apply nM|apply fM)
  all_goals((try apply vM);(try simp only[vq]at*);try omega)
 ·repeat'((conv=>whnf);first|(intro hq;(try simp only[vw]at hq);try first|exact absurd hq (by decide)|exfalso;omega)|apply aI|with_reducible exact vM rfl|exact⟨⟩|apply nM|apply fM)
  all_goals((try apply vM);(try simp only[vq]at*);try omega)
  all_goals(try omega)
  ·subst hq
   refine Sup.of (congrArg (PV.int .i64) ?_);exact(hn.2.2.2.1:aP (nmG 4)=4).symm
  refine⟨4,[],⟨⟨by omega,fun j h0 hj=>?_⟩,by omega⟩,?_⟩
  ·by_cases e:j=4
   ·subst e;exact hq
   ·exact hok j h0 (by omega)
  repeat'((conv=>whnf);first|intro _|apply aI|with_reducible exact vM rfl|exact⟨⟩|apply nM|apply fM)
  all_goals((try apply vM);(try simp only[vq]at*);try omega)
 ·repeat'((conv=>whnf);first|(intro hq;(try simp only[vw]at hq);try first|exact absurd hq (by decide)|exfalso;omega)|apply aI|with_reducible exact vM rfl|exact⟨⟩|apply nM|apply fM)
  all_goals((try apply vM);(try simp only[vq]at*);try omega)
  all_goals(try omega)
  ·subst hq
   refine Sup.of (congrArg (PV.int .i64) ?_);exact(hn.2.2.2.2:aP (nmG 5)=5).symm
  refine⟨5,[],⟨⟨by omega,fun j h0 hj=>?_⟩,by omega⟩,?_⟩
  ·by_cases e:j=5
   ·subst e;exact hq
   ·exact hok j h0 (by omega)
  repeat'((conv=>whnf);first|intro _|apply aI|with_reducible exact vM rfl|exact⟨⟩|apply nM|apply fM)
  all_goals((try apply vM);(try simp only[vq]at*);try omega)
 ·rw[Yh fun j h0 hj=>hok j h0 (by omega)]
  repeat'((conv=>whnf);first|(intro hq;(try simp only[vw]at hq);try first|exact absurd hq (by decide)|exfalso;omega)|apply aI|with_reducible exact vM rfl|exact⟨⟩|apply nM|apply fM)
  all_goals((try apply vM);(try simp only[vq]at*);try omega)
  exact Sup.of rfl
def ahO:PSp:=fun xs K=>match xs with
 | [.str r]=>VC (True)∧K (.int .i64 (aP r))
 |_=>False
theorem ais:POK Tryz.prog 70 ahO:=by
 intro xs K h;unfold ahO at h;split at h
 ·exact⟨_,h.2,ahL _⟩
 ·exact h.elim
def ahM:PSp:=fun xs K=>match xs with
 | [.str r]=>∃g:Int,VC (aP r=g)∧K (.int .i64 g)
 |_=>False
theorem aii:POK Tryz.prog 70 ahM:=by
 intro xs K hk;unfold ahM at hk;split at hk
 ·obtain⟨g,⟨rfl⟩,hk⟩:=hk
  exact⟨_,hk,ahL _⟩
 ·exact hk.elim
theorem ah6 (g:Int) (h:1≤g∧g≤5):aF Tryz.prog 77 [.int .i64 g] (.str (nmG g.toNat)):=by
 obtain rfl|rfl|rfl|rfl|rfl:g=1∨g=2∨g=3∨g=4∨g=5:=by omega
 all_goals
  refine av (md:=1) (rf:=[]) mixed ak aD Tryz.func77 (by rfl) (by rfl) (by rfl) ?_
  repeat'((conv=>whnf);first|intro _|apply aI|with_reducible exact vM rfl|exact⟨⟩|apply nM|apply fM)
  all_goals((try apply vM);(try simp only[vq]at*);try omega)
  all_goals exact Sup.of rfl
def ahP:PSp:=fun xs K=>match xs with
 | [.int .i64 g]=>VC (1≤g∧g≤5)∧K (.str (nmG g.toNat))
 |_=>False
theorem ait:POK Tryz.prog 77 ahP:=by
 intro xs K h;unfold ahP at h;split at h
 ·exact⟨_,h.2,ah6 _ h.1.get⟩
 ·exact h.elim
noncomputable def ai2:CPT:=aA 70 (aB ahM) (aA 95 (aB Vv) noC)
theorem ahp:aW Tryz.prog ai2:=aj (au aii) (aj (au adP) aD)
theorem aiu (c:Int) (ls:List (List Int)) (sum:Int) (gv:List Int) (h:bH ls) (r:ByteArray) (y x k:Int):
 aF Tryz.prog 64 [pzV c ls sum gv,ddV r y x k] (.int .i64 (dL c ls r y x k)):=by
 have h4:=fun i=>h.at' i;have h2:=h.len;by_cases hg:aP r=0
 ·rw[show dL c ls r y x k=13 by unfold dL;rw[if_pos hg]]
  refine av (md:=1) (rf:=[]) mixed ak ahp Tryz.func64 (by rfl) (by rfl) (by rfl) ?_
  repeat'((conv=>whnf);first|apply Exists.intro (0)|(intro hq;(try simp only[vw]at hq);try first|exact absurd hq (by decide)|exfalso;omega)|apply aI|with_reducible exact vM rfl|exact⟨⟩|apply nM|apply fM)
  all_goals((try apply vM);(try simp only[vq]at*);try omega)
  all_goals first|exact hg|exact Sup.of rfl|skip
 by_cases hy:y<0∨c≤y
 ·rw[show dL c ls r y x k=10 by unfold dL;rw[if_neg hg,if_pos hy]]
  refine av (md:=1) (rf:=[]) mixed ak ahp Tryz.func64 (by rfl) (by rfl) (by rfl) ?_
  repeat'((conv=>whnf);first|apply Exists.intro (aP r)|(intro hq;(try simp only[vw]at hq);try first|exact absurd hq (by decide)|exfalso;omega)|apply aI|with_reducible exact vM rfl|exact⟨⟩|apply nM|apply fM)
  all_goals((try apply vM);(try simp only[vq]at*);try omega)
  all_goals first|(exfalso;contradiction)|exact Sup.of rfl|(exfalso;rcases hy with hy|hy<;>contradiction)|(exfalso;rcases hy with hy|hy<;>simp_all)|skip
 have hy1:¬y<0:=fun e=>hy (.inl e);have hy2:¬c≤y:=fun e=>hy (.inr e);by_cases hx:x<1∨c<x
 ·rw[show dL c ls r y x k=3 by unfold dL;rw[if_neg hg,if_neg hy,if_pos hx]]
  clear hy;refine av (md:=1) (rf:=[]) mixed ak ahp Tryz.func64 (by rfl) (by rfl) (by rfl) ?_
  repeat'((conv=>whnf);first|apply Exists.intro (aP r)|(intro hq;(try simp only[vw]at hq);try first|exact absurd hq (by decide)|exfalso;omega)|apply aI|with_reducible exact vM rfl|exact⟨⟩|apply nM|apply fM)
  all_goals((try apply vM);(try simp only[vq]at*);try omega)
  all_goals first|(exfalso;contradiction)|exact Sup.of rfl|(exfalso;rcases hx with hx|hx<;>contradiction)|(exfalso;rcases hx with hx|hx<;>simp_all)|skip
 have hx1:¬x<1:=fun e=>hx (.inl e);have hx2:¬c<x:=fun e=>hx (.inr e);obtain⟨rfl,hgr⟩|⟨rfl,hgr⟩|⟨rfl,hgr⟩|⟨rfl,hgr⟩|⟨rfl,hgr⟩|hgr:=l8 r
 ·rw[show dL c ls bJ y x k=if k<0∨ls.length≤k∨y∉ls.getD k.toNat []then 10 else 0 by unfold dL;rw[if_neg (by rw[hgr];decide),if_neg hy,if_neg hx,if_neg (by rw[hgr];decide)]]
  clear hy hx hg;refine av (md:=1) (rf:=[]) mixed ak ahp Tryz.func64 (by rfl) (by rfl) (by rfl) ?_
  repeat'((conv=>whnf);first|apply Exists.intro (1)|(intro hq;(try simp only[vw]at hq);try first|exact absurd hq (by decide)|exfalso;omega)|apply aI|with_reducible exact vM rfl|exact⟨⟩|apply nM|apply fM)
  all_goals((try apply vM);(try simp only[vq]at*);try omega)
  all_goals first|exact hgr|(exfalso;contradiction)|(have:=h4 k.toNat;omega)|(exact Sup.of (by simp_all[bF]))|skip
 ·rw[show dL c ls bU y x k=if k≠ -1 then 10 else 0 by unfold dL;rw[if_neg (by rw[hgr];decide),if_neg hy,if_neg hx,if_pos (by rw[hgr];decide)]]
  clear hy hx hg;refine av (md:=1) (rf:=[]) mixed ak ahp Tryz.func64 (by rfl) (by rfl) (by rfl) ?_
  repeat'((conv=>whnf);first|apply Exists.intro (2)|(intro hq;(try simp only[vw]at hq);try first|exact absurd hq (by decide)|exfalso;omega)|apply aI|with_reducible exact vM rfl|exact⟨⟩|apply nM|apply fM)
  all_goals((try apply vM);(try simp only[vq]at*);try omega)
  all_goals first|exact hgr|(exfalso;contradiction)|(exact Sup.of (by simp_all[bF]))|skip
 ·rw[show dL c ls bV y x k=if k≠ -1 then 10 else 0 by unfold dL;rw[if_neg (by rw[hgr];decide),if_neg hy,if_neg hx,if_pos (by rw[hgr];decide)]]
  clear hy hx hg;refine av (md:=1) (rf:=[]) mixed ak ahp Tryz.func64 (by rfl) (by rfl) (by rfl) ?_
  repeat'((conv=>whnf);first|apply Exists.intro (3)|(intro hq;(try simp only[vw]at hq);try first|exact absurd hq (by decide)|exfalso;omega)|apply aI|with_reducible exact vM rfl|exact⟨⟩|apply nM|apply fM)
  all_goals((try apply vM);(try simp only[vq]at*);try omega)
  all_goals first|exact hgr|(exfalso;contradiction)|(exact Sup.of (by simp_all[bF]))|skip
 ·rw[show dL c ls bR y x k=if k<0∨ls.length≤k∨y∉ls.getD k.toNat []then 10 else 0 by unfold dL;rw[if_neg (by rw[hgr];decide),if_neg hy,if_neg hx,if_neg (by rw[hgr];decide)]]
  clear hy hx hg;refine av (md:=1) (rf:=[]) mixed ak ahp Tryz.func64 (by rfl) (by rfl) (by rfl) ?_
  repeat'((conv=>whnf);first|apply Exists.intro (4)|(intro hq;(try simp only[vw]at hq);try first|exact absurd hq (by decide)|exfalso;omega)|apply aI|with_reducible exact vM rfl|exact⟨⟩|apply nM|apply fM)
  all_goals((try apply vM);(try simp only[vq]at*);try omega)
  all_goals first|exact hgr|(exfalso;contradiction)|(have:=h4 k.toNat;omega)|(exact Sup.of (by simp_all[bF]))|skip
 ·rw[show dL c ls bS y x k=if k<0∨ls.length≤k∨y∉ls.getD k.toNat []then 10 else 0 by unfold dL;rw[if_neg (by rw[hgr];decide),if_neg hy,if_neg hx,if_neg (by rw[hgr];decide)]]
  clear hy hx hg;refine av (md:=1) (rf:=[]) mixed ak ahp Tryz.func64 (by rfl) (by rfl) (by rfl) ?_
  repeat'((conv=>whnf);first|apply Exists.intro (5)|(intro hq;(try simp only[vw]at hq);try first|exact absurd hq (by decide)|exfalso;omega)|apply aI|with_reducible exact vM rfl|exact⟨⟩|apply nM|apply fM)
  all_goals((try apply vM);(try simp only[vq]at*);try omega)
  all_goals first|exact hgr|(exfalso;contradiction)|(have:=h4 k.toNat;omega)|(exact Sup.of (by simp_all[bF]))|skip
 exact absurd hgr hg
def aij:PSp:=fun xs K=>match xs with
 | [.agg [.int .i64 c,.isl (.rows .i64 ls) .none,.int .i64 sum,.isl (.ints .i64 gv) .none],.agg [.str r,.int .i64 y,.int .i64 x,.int .i64 k]]=>VC (bH ls)∧K (.int .i64 (dL c ls r y x k))
 |_=>False
theorem aiO:POK Tryz.prog 64 aij:=by
 intro xs K h;unfold aij at h;split at h
 ·exact⟨_,h.2,aiu _ _ _ _ h.1.get _ _ _ _⟩
 ·exact h.elim
theorem aiy {s:St} {y z x:Int} {r used:List Int} (hz:z∈s.cd y.toNat) (hu:z∉used) (hc:chs s r (used++[z]) (x-z)=true):chs s (y::r) used x=true:=by
 unfold chs;rw[agC];exact⟨z,agh.2 ⟨hz,by simp[hu]⟩,hc⟩
theorem aiv {s:St} {y x:Int} {r used:List Int} (h:∀z∈s.cd y.toNat,z∈used∨chs s r (used++[z]) (x-z)=false):chs s (y::r) used x=false:=by
 unfold chs;rw[agD];intro z hz;obtain⟨h1,h2⟩:=agh.1 hz;rcases h z h1 with h3|h3
 ·simp[h3]at h2
 ·rw[h3];simp
structure ahQ (c:Int) (ls:List (List Int)) (sum:Int) (s:St) (o used:List Int) (x:Int):Prop where
 bd:bO c ls sum s
 rng:∀y∈o,0≤y∧y<c
 len:o.length+used.length≤30
 x: -2000000000+16*(o.length:Int)≤x∧x≤2000000000
def ahT (c:Int) (ls:List (List Int)) (sum:Int) (s:St) (n:Nat):PSp:=fun xs K=>match xs with
 | [.agg [.isl (.rows .i64 CS) .none,.isl (.bools DS) .none],.isl (.ints .i64 o) .none,.isl (.ints .i64 used) .none,.int .i64 x]=>VC (CS=s.cs∧DS=s.ds∧o.length<n∧ahQ c ls sum s o used x)∧K (.bp (chs s o used x))
 |_=>False
theorem aiz (c:Int) (ls:List (List Int)) (sum:Int) (s:St):∀n,POK Tryz.prog 136 (ahT c ls sum s n):=by
 intro n;induction n with
 |zero=>
  intro xs K hk;unfold ahT at hk;split at hk
  ·obtain⟨⟨_,_,h,_⟩,_⟩:=hk;omega
  ·exact hk.elim
 |succ n ih=>
  intro xs K hk;unfold ahT at hk;split at hk
  ·rename_i CS DS o used x
   obtain⟨⟨rfl,rfl,hn,h⟩,hk⟩:=hk;refine⟨_,hk,?_⟩;have hC:aW Tryz.prog (aA 95 (aB Vv) (aA 136 (aB (ahT c ls sum s n)) noC)):=aj (au adP) (aj (au ih) aD);have hb:=h.bd;have hcl:=hb.cl;have hlen:=h.len;have hx:=h.x;cases o with
   |nil=>
    refine av (md:=1) (rf:=[]) mixed ak hC Tryz.func136 (by rfl) (by rfl) (by rfl) ?_
    repeat'((conv=>whnf);first|(intro hq;(try simp only[vw]at hq);try first|exact absurd hq (by decide)|exfalso;omega)|apply aI|with_reducible exact vM rfl|exact⟨⟩|apply nM|apply fM)
    all_goals((try apply vM);(try simp only[vq]at*);try omega)
    all_goals first|exact Sup.of rfl|skip
   |cons y r=>
    have hy:=h.rng y (afZ ..);have hys:=hb.at hy;have hA:=(hb.asc _ hys.1).1;have k16:(s.cs.getD y.toNat []).length≤16:=Ap hA;have hr:=hA.rng;refine av (md:=1) (rf:=[]) mixed ak hC Tryz.func136 (by rfl) (by rfl) (by rfl) ?_
    repeat'((conv=>whnf);first|(intro hq;(try simp only[vw]at hq);try first|exact absurd hq (by decide)|exfalso;omega)|apply aI|with_reducible exact vM rfl|exact⟨⟩|apply nM|apply fM)
    all_goals((try apply vM);(try simp only[vq]at*);try omega)
    all_goals(try first|exact hy.1|(show y<(s.cs.length:Int);omega)|(show y.toNat+1≤s.cs.length;omega))
    obtain⟨L,hL⟩:∃L,s.cs.getD y.toNat []=L:=⟨_,rfl⟩;have hLd:s.cd y.toNat=L:=hL;show bI (.isl (.ints .i64 (s.cs.getD y.toNat [])) .none) _;rw[hL];conv=>whnf
    have hlr:((y::r).length:Int)=r.length+1:=by simp
    have hln:(y::r).length=r.length+1:=rfl;have hch:∀z∈L,ahQ c ls sum s r (used++[z]) (x-z):=fun z hz=>by
     have:=hr z (by rw[hLd];exact hz)
     refine⟨hb,fun w hw=>h.rng w (aek _ hw),?_,?_⟩
     ·rw[afu,ai8];omega
     ·omega
    refine aM (X:=Nat) (fun i=>i≤L.length∧∀z∈L.take i,z∈used∨chs s r (used++[z]) (x-z)=false) (fun i=>[(10,.int .i64 i)]) (fun i=>[]) (fun i=>L.length-i) 0 ⟨aK,mixed,ak,hC,aQ⟩ (by rfl) ⟨by omega,by simp⟩ ?_ ?_
    ·repeat'((conv=>whnf);first|intro _|apply aI|with_reducible exact vM rfl|exact⟨⟩|apply nM|apply fM)
     all_goals((try apply vM);(try simp only[vq]at*);try omega)
    intro i ⟨hi,hok⟩;rw[hL]at k16;by_cases hlt:i<L.length
    ·have hz:=bL hlt
     have hzr:=hr (L.getD i 0) (by rw[hLd];exact hz)
     have tk:agH (r.length+1-agt 1) (agI (agt 1) (y::r))=r:=by
      show agH (r.length+1-1) (agI 1 (y::r))=r;simp
     have hnx:∀(hx':L.getD i 0∈used∨chs s r (used++[L.getD i 0]) (x-L.getD i 0)=false),∀z∈L.take (i+1),z∈used∨chs s r (used++[z]) (x-z)=false:=fun hx' z hz=>by
      rw[dF hlt]at hz;rcases List.mem_append.1 hz with hz|hz
      ·exact hok z hz
      ·rw[List.mem_singleton]at hz;subst hz;exact hx'
     repeat'((conv=>whnf);first|(intro hq;(try simp only[vw]at hq);try first|exact absurd hq (by decide)|exfalso;omega)|apply aI|with_reducible exact vM rfl|exact⟨⟩|apply nM|apply fM)
     all_goals((try apply vM);(try simp only[vq]at*);try omega)
     all_goals(try rw[tk]at*)
     all_goals(try rw[List.nil_append]at*)
     all_goals(try simp only[afu,ai8])
     all_goals(try first|omega|exact⟨by omega,hch _ hz⟩)
     ·exact .inl trivial
     ·rw[aiy (by rw[hLd];exact hz) ‹_› hq];exact dK true
     ·refine⟨i+1,[],⟨⟨by omega,hnx (.inr hq)⟩,by omega⟩,?_⟩
      repeat'((conv=>whnf);first|intro _|apply aI|with_reducible exact vM rfl|exact⟨⟩|apply nM|apply fM)
      all_goals((try apply vM);(try simp only[vq]at*);try omega)
     ·refine⟨i+1,[],⟨⟨by omega,hnx (.inl hq)⟩,by omega⟩,?_⟩
      repeat'((conv=>whnf);first|intro _|apply aI|with_reducible exact vM rfl|exact⟨⟩|apply nM|apply fM)
      all_goals((try apply vM);(try simp only[vq]at*);try omega)
    have e:i=L.length:=by omega
    subst e;rw[af5]at hok;rw[aiv (by rw[hLd];exact hok)]
    repeat'((conv=>whnf);first|(intro hq;(try simp only[vw]at hq);try first|exact absurd hq (by decide)|exfalso;omega)|apply aI|with_reducible exact vM rfl|exact⟨⟩|apply nM|apply fM)
    all_goals((try apply vM);(try simp only[vq]at*);try omega)
    all_goals first|exact dK false|skip
  ·exact hk.elim
def aik:PSp:=fun xs K=>match xs with
 | [.agg [.isl (.rows .i64 CS) .none,.isl (.bools DS) .none],.isl (.ints .i64 o) .none,.isl (.ints .i64 used) .none,.int .i64 x]=>VC (∃c ls sum,ahQ c ls sum ⟨CS,DS⟩ o used x)∧K (.bp (chs ⟨CS,DS⟩ o used x))
 |_=>False
theorem aiA:POK Tryz.prog 136 aik:=by
 intro xs K hk;unfold aik at hk;split at hk
 ·rename_i CS DS o used x
  obtain⟨⟨c,ls,sum,h⟩,hk⟩:=hk;exact aiz c ls sum ⟨CS,DS⟩ (o.length+1) _ _ ⟨⟨rfl,rfl,by omega,h⟩,hk⟩
 ·exact hk.elim
structure ahX (c:Int) (ls:List (List Int)) (sum:Int) (s:St) (k:Int):Prop where
 bd:bO c ls sum s
 k:0≤k∧k<ls.length
def ahY:PSp:=fun xs K=>match xs with
 | [.agg [.int .i64 c,.isl (.rows .i64 ls) .none,.int .i64 sum,.isl (.ints .i64 gv) .none],.agg [.isl (.rows .i64 CS) .none,.isl (.bools DS) .none],.int .i64 k,.int .i64 b]=>VC (ahX c ls sum ⟨CS,DS⟩ k)∧K (.isl (.ints .i64 (opn ⟨CS,DS⟩ (ls.getD k.toNat []) b)) .none)
 |_=>False
theorem aiB:POK Tryz.prog 96 ahY:=by
 intro xs K hk;unfold ahY at hk;split at hk
 ·exact⟨_,hk.2,aic _ _ _ _ ⟨_,_⟩ hk.1.get.bd _ _ hk.1.get.k⟩
 ·exact hk.elim
def ahZ:PSp:=fun xs K=>match xs with
 | [.agg [.int .i64 c,.isl (.rows .i64 ls) .none,.int .i64 sum,.isl (.ints .i64 gv) .none],.agg [.isl (.rows .i64 CS) .none,.isl (.bools DS) .none],.int .i64 k]=>VC (ahX c ls sum ⟨CS,DS⟩ k)∧K (.int .i64 (rst ⟨CS,DS⟩ sum (ls.getD k.toNat [])))
 |_=>False
theorem aiC:POK Tryz.prog 97 ahZ:=by
 intro xs K hk;unfold ahZ at hk;split at hk
 ·exact⟨_,hk.2,aie _ _ _ _ ⟨_,_⟩ hk.1.get.bd _ hk.1.get.k⟩
 ·exact hk.elim
noncomputable def ai3:CPT:=aA 95 (aB Vv) (aA 96 (aB ahY) (aA 97 (aB ahZ) (aA 135 (aB aif) (aA 136 (aB aik) noC))))
theorem sF:aW Tryz.prog ai3:=aj (au adP) (aj (au aiB) (aj (au aiC) (aj (au aiN) (aj (au aiA) aD))))
theorem ail (c:Int) (ls:List (List Int)) (sum:Int) (gv:List Int) (s:St) (h:bO c ls sum s) (r:ByteArray) (y x k:Int) (hd:l9 c ls r y x k):
 aF Tryz.prog 75 [pzV c ls sum gv,stV s,ddV r y x k] (.bp (okJ (aP r).toNat s sum (ls.getD k.toNat []) y x)):=by
 have hc:=h.c1;have hy:=hd.y;have hx:=hd.x;have hxs:=h.at hy;have hA:=(h.asc _ hxs.1).1;have k16:(s.cs.getD y.toNat []).length≤16:=Ap hA;have hcl:=h.cl;have hdl:=h.dl;have hsm:=h.sm;obtain⟨rfl,hg⟩|⟨rfl,hg⟩|⟨rfl,hg⟩|⟨rfl,hg⟩|⟨rfl,hg⟩|hg:=l8 r
 ·have hk:0≤k∧k<ls.length:=by
   have:=hd.k;rw[hg]at this;omega
  have hln:=h.ln k.toNat (by omega)
  have hll:=hln.len;have hb:=Fh h hln.rng (ls.getD k.toNat []).length (aea _);rw[af5]at hb;have hR:ahX c ls sum s k:=⟨h,hk⟩;have hol:(opn s (ls.getD k.toNat []) y).length≤16:=afW (agM _ _) hll;have hor:∀z∈opn s (ls.getD k.toNat []) y,0≤z∧z<c:=fun z hz=>hln.rng z (Jv hz);have hB:∃c ls sum,ahW c ls sum ⟨s.cs,s.ds⟩ (opn s (ls.getD k.toNat []) y) (rst s sum (ls.getD k.toNat [])-x):=⟨c,ls,sum,h,hor,hol,by omega,by omega⟩
  have hC:∃c ls sum,ahQ c ls sum ⟨s.cs,s.ds⟩ (opn s (ls.getD k.toNat []) y) [x] (rst s sum (ls.getD k.toNat [])-x):=⟨c,ls,sum,h,hor,by rw[ai8];omega,by omega,by omega⟩
  rw[hg];have hs:(⟨s.cs,s.ds⟩:St)=s:=rfl;have hok:okJ (agt 1) s sum (ls.getD k.toNat []) y x=(!s.dc y.toNat&&(decide (x∈s.cd y.toNat)&&xO s sum (ls.getD k.toNat []) y x)):=rfl;rw[hok];by_cases hdc:s.ds.getD y.toNat false=true
  ·rw[show s.dc y.toNat=true from hdc,aeW,agn]
   refine av (md:=1) (rf:=[]) mixed ak sF Tryz.func75 (by rfl) (by rfl) (by rfl) ?_
   repeat'((conv=>whnf);first|(intro hq;(try simp only[vw]at hq);try first|exact absurd hq (by decide)|exfalso;omega)|apply aI|with_reducible exact vM rfl|exact⟨⟩|apply nM|apply fM)
   all_goals((try apply vM);(try simp only[vq]at*);try omega)
   all_goals first|omega|exact dK false|(exfalso;simp_all;done)|(rw[show(⟨s.cs,s.ds⟩:St)=s from rfl];first|omega|exact hB|exact hC)|skip
  have hdc:s.ds.getD y.toNat false=false:=by simpa using hdc
  by_cases hm:x∈s.cs.getD y.toNat []
  case neg=>
   rw[show decide (x∈s.cd y.toNat)=false from decide_eq_false hm,agn,agR];refine av (md:=1) (rf:=[]) mixed ak sF Tryz.func75 (by rfl) (by rfl) (by rfl) ?_
   repeat'((conv=>whnf);first|(intro hq;(try simp only[vw]at hq);try first|exact absurd hq (by decide)|exfalso;omega)|apply aI|with_reducible exact vM rfl|exact⟨⟩|apply nM|apply fM)
   all_goals((try apply vM);(try simp only[vq]at*);try omega)
   all_goals first|omega|exact dK false|(exfalso;simp_all;done)|(rw[show(⟨s.cs,s.ds⟩:St)=s from rfl];first|omega|exact hB|exact hC)|skip
  rw[show s.dc y.toNat=false from hdc,show decide (x∈s.cd y.toNat)=true from decide_eq_true hm,aeV,agO,agO];refine av (md:=1) (rf:=[]) mixed ak sF Tryz.func75 (by rfl) (by rfl) (by rfl) ?_
  repeat'((conv=>whnf);first|(intro hq;(try simp only[vw]at hq);try first|exact absurd hq (by decide)|exfalso;omega)|apply aI|with_reducible exact vM rfl|exact⟨⟩|apply nM|apply fM)
  all_goals((try apply vM);(try simp only[vq]at*);try omega)
  all_goals(try rw[show(⟨s.cs,s.ds⟩:St)=s from rfl])
  all_goals(try rw[show(⟨s.cs,s.ds⟩:St)=s from rfl]at hq)
  all_goals(try first|omega|exact hB|exact hC|(exfalso;exact(‹¬x∈s.cs.getD y.toNat []›) hm)|(exfalso;simp_all;done))
  ·rw[show xO s sum (ls.getD k.toNat []) y x=decide (rst s sum (ls.getD k.toNat [])-x=0) by unfold xO;rw[decide_eq_true (by omega),agO];exact decide_eq_decide.2 (by omega)]
   exact Sup.of rfl
  ·rw[show xO s sum (ls.getD k.toNat []) y x=false by unfold xO;rw[decide_eq_false (by omega),agn]]
   exact dK false
 ·rw[hg]
  have hB:True:=trivial;have hC:True:=trivial;have hs:(⟨s.cs,s.ds⟩:St)=s:=rfl;have hok:okJ (agt 2) s sum (ls.getD k.toNat []) y x=(!s.dc y.toNat&&(decide (x∈s.cd y.toNat)&&xP s y)):=rfl;rw[hok];by_cases hdc:s.ds.getD y.toNat false=true
  ·rw[show s.dc y.toNat=true from hdc,aeW,agn]
   refine av (md:=1) (rf:=[]) mixed ak sF Tryz.func75 (by rfl) (by rfl) (by rfl) ?_
   repeat'((conv=>whnf);first|(intro hq;(try simp only[vw]at hq);try first|exact absurd hq (by decide)|exfalso;omega)|apply aI|with_reducible exact vM rfl|exact⟨⟩|apply nM|apply fM)
   all_goals((try apply vM);(try simp only[vq]at*);try omega)
   all_goals first|omega|exact dK false|(exfalso;simp_all;done)|(rw[show(⟨s.cs,s.ds⟩:St)=s from rfl];first|omega|exact hB|exact hC)|skip
  have hdc:s.ds.getD y.toNat false=false:=by simpa using hdc
  by_cases hm:x∈s.cs.getD y.toNat []
  case neg=>
   rw[show decide (x∈s.cd y.toNat)=false from decide_eq_false hm,agn,agR];refine av (md:=1) (rf:=[]) mixed ak sF Tryz.func75 (by rfl) (by rfl) (by rfl) ?_
   repeat'((conv=>whnf);first|(intro hq;(try simp only[vw]at hq);try first|exact absurd hq (by decide)|exfalso;omega)|apply aI|with_reducible exact vM rfl|exact⟨⟩|apply nM|apply fM)
   all_goals((try apply vM);(try simp only[vq]at*);try omega)
   all_goals first|omega|exact dK false|(exfalso;simp_all;done)|(rw[show(⟨s.cs,s.ds⟩:St)=s from rfl];first|omega|exact hB|exact hC)|skip
  rw[show s.dc y.toNat=false from hdc,show decide (x∈s.cd y.toNat)=true from decide_eq_true hm,aeV,agO,agO];refine av (md:=1) (rf:=[]) mixed ak sF Tryz.func75 (by rfl) (by rfl) (by rfl) ?_
  repeat'((conv=>whnf);first|(intro hq;(try simp only[vw]at hq);try first|exact absurd hq (by decide)|exfalso;omega)|apply aI|with_reducible exact vM rfl|exact⟨⟩|apply nM|apply fM)
  all_goals((try apply vM);(try simp only[vq]at*);try omega)
  all_goals(try rw[show(⟨s.cs,s.ds⟩:St)=s from rfl])
  all_goals(try rw[show(⟨s.cs,s.ds⟩:St)=s from rfl]at hq)
  all_goals(try first|omega|exact hB|exact hC|(exfalso;exact(‹¬x∈s.cs.getD y.toNat []›) hm)|(exfalso;simp_all;done))
  ·rw[show xP s y=decide (((s.cs.getD y.toNat []).length:Int)=1) by unfold xP St.cd;exact decide_eq_decide.2 (by omega)]
   exact Sup.of rfl
 ·rw[hg]
  have hs:(⟨s.cs,s.ds⟩:St)=s:=rfl;have hB:True:=trivial;have hC:True:=trivial;have hok:okJ (agt 3) s sum (ls.getD k.toNat []) y x=(!s.dc y.toNat&&(decide (x∈s.cd y.toNat)&&qd s y x)):=rfl;rw[hok];by_cases hdc:s.ds.getD y.toNat false=true
  ·rw[show s.dc y.toNat=true from hdc,aeW,agn]
   refine av (md:=1) (rf:=[]) mixed ak sF Tryz.func75 (by rfl) (by rfl) (by rfl) ?_
   repeat'((conv=>whnf);first|(intro hq;(try simp only[vw]at hq);try first|exact absurd hq (by decide)|exfalso;omega)|apply aI|with_reducible exact vM rfl|exact⟨⟩|apply nM|apply fM)
   all_goals((try apply vM);(try simp only[vq]at*);try omega)
   all_goals first|omega|exact dK false|(exfalso;simp_all;done)|(rw[show(⟨s.cs,s.ds⟩:St)=s from rfl];first|omega|exact hB|exact hC)|skip
  have hdc:s.ds.getD y.toNat false=false:=by simpa using hdc
  by_cases hm:x∈s.cs.getD y.toNat []
  case neg=>
   rw[show decide (x∈s.cd y.toNat)=false from decide_eq_false hm,agn,agR];refine av (md:=1) (rf:=[]) mixed ak sF Tryz.func75 (by rfl) (by rfl) (by rfl) ?_
   repeat'((conv=>whnf);first|(intro hq;(try simp only[vw]at hq);try first|exact absurd hq (by decide)|exfalso;omega)|apply aI|with_reducible exact vM rfl|exact⟨⟩|apply nM|apply fM)
   all_goals((try apply vM);(try simp only[vq]at*);try omega)
   all_goals first|omega|exact dK false|(exfalso;simp_all;done)|(rw[show(⟨s.cs,s.ds⟩:St)=s from rfl];first|omega|exact hB|exact hC)|skip
  rw[show s.dc y.toNat=false from hdc,show decide (x∈s.cd y.toNat)=true from decide_eq_true hm,aeV,agO,agO];refine av (md:=1) (rf:=[]) mixed ak sF Tryz.func75 (by rfl) (by rfl) (by rfl) ?_
  repeat'((conv=>whnf);first|(intro hq;(try simp only[vw]at hq);try first|exact absurd hq (by decide)|exfalso;omega)|apply aI|with_reducible exact vM rfl|exact⟨⟩|apply nM|apply fM)
  all_goals((try apply vM);(try simp only[vq]at*);try omega)
  all_goals(try rw[show(⟨s.cs,s.ds⟩:St)=s from rfl])
  all_goals(try rw[show(⟨s.cs,s.ds⟩:St)=s from rfl]at hq)
  all_goals(try first|omega|exact hB|exact hC|(exfalso;exact(‹¬x∈s.cs.getD y.toNat []›) hm)|(exfalso;simp_all;done))
  conv=>whnf
  refine aM (X:=Nat) (fun i=>i≤s.cs.length∧∀j,j<i→(decide ((j:Int)=y)||!decide (x∈s.cd j))=true) (fun i=>[(7,.int .i64 i)]) (fun i=>[]) (fun i=>s.cs.length-i) 0 ⟨aK,mixed,ak,sF,aQ⟩ (by rfl) ⟨by omega,fun j hj=>by omega⟩ ?_ ?_
  ·repeat'((conv=>whnf);first|intro _|apply aI|with_reducible exact vM rfl|exact⟨⟩|apply nM|apply fM)
   all_goals((try apply vM);(try simp only[vq]at*);try omega)
  intro i ⟨hi,hall⟩;by_cases hlt:i<s.cs.length
  ·have k17:(s.cs.getD i []).length≤16:=Ap (h.asc i hlt).1
   have hno:x∈s.cs.getD i []→(i:Int)≠y→qd s y x=false:=fun h1 h2=>by
    unfold qd;rw[ahh];exact⟨i,afY.2 hlt,by rw[decide_eq_false h2,show decide (x∈s.cd i)=true from decide_eq_true h1];decide⟩
   have hnx:((i:Int)=y∨x∉s.cs.getD i [])→∀j,j<i+1→(decide ((j:Int)=y)||!decide (x∈s.cd j))=true:=fun h1 j hj=>by
    by_cases e:j=i
    ·subst e
     rcases h1 with h1|h1
     ·rw[decide_eq_true h1];rfl
     ·rw[show decide (x∈s.cd j)=false from decide_eq_false h1];simp
    ·exact hall j (by omega)
   repeat'((conv=>whnf);first|(intro hq;(try simp only[vw]at hq);try first|exact absurd hq (by decide)|exfalso;omega)|apply aI|with_reducible exact vM rfl|exact⟨⟩|apply nM|apply fM)
   all_goals((try apply vM);(try simp only[vq]at*);try omega)
   all_goals(try omega)
   ·rw[hno (by assumption) (by assumption)];exact dK false
   ·refine⟨i+1,[],⟨⟨by omega,hnx (.inr (by assumption))⟩,by omega⟩,?_⟩
    repeat'((conv=>whnf);first|intro _|apply aI|with_reducible exact vM rfl|exact⟨⟩|apply nM|apply fM)
    all_goals((try apply vM);(try simp only[vq]at*);try omega)
   ·refine⟨i+1,[],⟨⟨by omega,hnx (.inl (by omega))⟩,by omega⟩,?_⟩
    repeat'((conv=>whnf);first|intro _|apply aI|with_reducible exact vM rfl|exact⟨⟩|apply nM|apply fM)
    all_goals((try apply vM);(try simp only[vq]at*);try omega)
  have e:i=s.cs.length:=by omega
  subst e;have ht:qd s y x=true:=by
   unfold qd;rw[afI];exact fun j hj=>hall j (afY.1 hj)
  rw[ht]
  repeat'((conv=>whnf);first|(intro hq;(try simp only[vw]at hq);try first|exact absurd hq (by decide)|exfalso;omega)|apply aI|with_reducible exact vM rfl|exact⟨⟩|apply nM|apply fM)
  all_goals((try apply vM);(try simp only[vq]at*);try omega)
  all_goals first|omega|exact dK true|skip
 ·have hk:0≤k∧k<ls.length:=by
   have:=hd.k;rw[hg]at this;omega
  have hln:=h.ln k.toNat (by omega)
  have hll:=hln.len;have hb:=Fh h hln.rng (ls.getD k.toNat []).length (aea _);rw[af5]at hb;have hR:ahX c ls sum s k:=⟨h,hk⟩;have hol:(opn s (ls.getD k.toNat []) y).length≤16:=afW (agM _ _) hll;have hor:∀z∈opn s (ls.getD k.toNat []) y,0≤z∧z<c:=fun z hz=>hln.rng z (Jv hz);have hB:∃c ls sum,ahW c ls sum ⟨s.cs,s.ds⟩ (opn s (ls.getD k.toNat []) y) (rst s sum (ls.getD k.toNat [])-x):=⟨c,ls,sum,h,hor,hol,by omega,by omega⟩
  have hC:∃c ls sum,ahQ c ls sum ⟨s.cs,s.ds⟩ (opn s (ls.getD k.toNat []) y) [x] (rst s sum (ls.getD k.toNat [])-x):=⟨c,ls,sum,h,hor,by rw[ai8];omega,by omega,by omega⟩
  rw[hg];have hs:(⟨s.cs,s.ds⟩:St)=s:=rfl;have hok:okJ (agt 4) s sum (ls.getD k.toNat []) y x=(!s.dc y.toNat&&(decide (x∈s.cd y.toNat)&&xS s sum (ls.getD k.toNat []) y x)):=rfl;rw[hok];by_cases hdc:s.ds.getD y.toNat false=true
  ·rw[show s.dc y.toNat=true from hdc,aeW,agn]
   refine av (md:=1) (rf:=[]) mixed ak sF Tryz.func75 (by rfl) (by rfl) (by rfl) ?_
   repeat'((conv=>whnf);first|(intro hq;(try simp only[vw]at hq);try first|exact absurd hq (by decide)|exfalso;omega)|apply aI|with_reducible exact vM rfl|exact⟨⟩|apply nM|apply fM)
   all_goals((try apply vM);(try simp only[vq]at*);try omega)
   all_goals first|omega|exact dK false|(exfalso;simp_all;done)|(rw[show(⟨s.cs,s.ds⟩:St)=s from rfl];first|omega|exact hB|exact hC)|skip
  have hdc:s.ds.getD y.toNat false=false:=by simpa using hdc
  by_cases hm:x∈s.cs.getD y.toNat []
  case neg=>
   rw[show decide (x∈s.cd y.toNat)=false from decide_eq_false hm,agn,agR];refine av (md:=1) (rf:=[]) mixed ak sF Tryz.func75 (by rfl) (by rfl) (by rfl) ?_
   repeat'((conv=>whnf);first|(intro hq;(try simp only[vw]at hq);try first|exact absurd hq (by decide)|exfalso;omega)|apply aI|with_reducible exact vM rfl|exact⟨⟩|apply nM|apply fM)
   all_goals((try apply vM);(try simp only[vq]at*);try omega)
   all_goals first|omega|exact dK false|(exfalso;simp_all;done)|(rw[show(⟨s.cs,s.ds⟩:St)=s from rfl];first|omega|exact hB|exact hC)|skip
  rw[show s.dc y.toNat=false from hdc,show decide (x∈s.cd y.toNat)=true from decide_eq_true hm,aeV,agO,agO];refine av (md:=1) (rf:=[]) mixed ak sF Tryz.func75 (by rfl) (by rfl) (by rfl) ?_
  repeat'((conv=>whnf);first|(intro hq;(try simp only[vw]at hq);try first|exact absurd hq (by decide)|exfalso;omega)|apply aI|with_reducible exact vM rfl|exact⟨⟩|apply nM|apply fM)
  all_goals((try apply vM);(try simp only[vq]at*);try omega)
  all_goals(try rw[show(⟨s.cs,s.ds⟩:St)=s from rfl])
  all_goals(try rw[show(⟨s.cs,s.ds⟩:St)=s from rfl]at hq)
  all_goals(try first|omega|exact hB|exact hC|(exfalso;exact(‹¬x∈s.cs.getD y.toNat []›) hm)|(exfalso;simp_all;done))
  ·exact⟨c,ls,sum,h,hor,hol,by omega,by omega⟩
  ·rw[aiM];exact Sup.of rfl
 ·have hk:0≤k∧k<ls.length:=by
   have:=hd.k;rw[hg]at this;omega
  have hln:=h.ln k.toNat (by omega)
  have hll:=hln.len;have hb:=Fh h hln.rng (ls.getD k.toNat []).length (aea _);rw[af5]at hb;have hR:ahX c ls sum s k:=⟨h,hk⟩;have hol:(opn s (ls.getD k.toNat []) y).length≤16:=afW (agM _ _) hll;have hor:∀z∈opn s (ls.getD k.toNat []) y,0≤z∧z<c:=fun z hz=>hln.rng z (Jv hz);have hB:∃c ls sum,ahW c ls sum ⟨s.cs,s.ds⟩ (opn s (ls.getD k.toNat []) y) (rst s sum (ls.getD k.toNat [])-x):=⟨c,ls,sum,h,hor,hol,by omega,by omega⟩
  have hC:∃c ls sum,ahQ c ls sum ⟨s.cs,s.ds⟩ (opn s (ls.getD k.toNat []) y) [x] (rst s sum (ls.getD k.toNat [])-x):=⟨c,ls,sum,h,hor,by rw[ai8];omega,by omega,by omega⟩
  rw[hg];have hs:(⟨s.cs,s.ds⟩:St)=s:=rfl;have hok:okJ (agt 5) s sum (ls.getD k.toNat []) y x=(!s.dc y.toNat&&(decide (x∈s.cd y.toNat)&&xU s sum (ls.getD k.toNat []) y x)):=rfl;rw[hok];by_cases hdc:s.ds.getD y.toNat false=true
  ·rw[show s.dc y.toNat=true from hdc,aeW,agn]
   refine av (md:=1) (rf:=[]) mixed ak sF Tryz.func75 (by rfl) (by rfl) (by rfl) ?_
   repeat'((conv=>whnf);first|(intro hq;(try simp only[vw]at hq);try first|exact absurd hq (by decide)|exfalso;omega)|apply aI|with_reducible exact vM rfl|exact⟨⟩|apply nM|apply fM)
   all_goals((try apply vM);(try simp only[vq]at*);try omega)
   all_goals first|omega|exact dK false|(exfalso;simp_all;done)|(rw[show(⟨s.cs,s.ds⟩:St)=s from rfl];first|omega|exact hB|exact hC)|skip
  have hdc:s.ds.getD y.toNat false=false:=by simpa using hdc
  by_cases hm:x∈s.cs.getD y.toNat []
  case neg=>
   rw[show decide (x∈s.cd y.toNat)=false from decide_eq_false hm,agn,agR];refine av (md:=1) (rf:=[]) mixed ak sF Tryz.func75 (by rfl) (by rfl) (by rfl) ?_
   repeat'((conv=>whnf);first|(intro hq;(try simp only[vw]at hq);try first|exact absurd hq (by decide)|exfalso;omega)|apply aI|with_reducible exact vM rfl|exact⟨⟩|apply nM|apply fM)
   all_goals((try apply vM);(try simp only[vq]at*);try omega)
   all_goals first|omega|exact dK false|(exfalso;simp_all;done)|(rw[show(⟨s.cs,s.ds⟩:St)=s from rfl];first|omega|exact hB|exact hC)|skip
  rw[show s.dc y.toNat=false from hdc,show decide (x∈s.cd y.toNat)=true from decide_eq_true hm,aeV,agO,agO];refine av (md:=1) (rf:=[]) mixed ak sF Tryz.func75 (by rfl) (by rfl) (by rfl) ?_
  repeat'((conv=>whnf);first|(intro hq;(try simp only[vw]at hq);try first|exact absurd hq (by decide)|exfalso;omega)|apply aI|with_reducible exact vM rfl|exact⟨⟩|apply nM|apply fM)
  all_goals((try apply vM);(try simp only[vq]at*);try omega)
  all_goals(try rw[show(⟨s.cs,s.ds⟩:St)=s from rfl])
  all_goals(try rw[show(⟨s.cs,s.ds⟩:St)=s from rfl]at hq)
  all_goals(try first|omega|exact hB|exact hC|(exfalso;exact(‹¬x∈s.cs.getD y.toNat []›) hm)|(exfalso;simp_all;done))
  ·exact⟨c,ls,sum,h,hor,by rw[ai8];omega,by omega,by omega⟩
  ·rw[show xU s sum (ls.getD k.toNat []) y x=!chs s (opn s (ls.getD k.toNat []) y) [x] (rst s sum (ls.getD k.toNat [])-x) by unfold xU;rw[decide_eq_true (by omega),agO]]
   exact Sup.of rfl
  ·rw[show xU s sum (ls.getD k.toNat []) y x=false by unfold xU;rw[decide_eq_false (by omega),agn]]
   exact dK false
 have:=hd.g;omega
def ah0:PSp:=fun xs K=>match xs with
 | [.agg [.int .i64 c,.isl (.rows .i64 ls) .none,.int .i64 sum,.isl (.ints .i64 gv) .none],.agg [.isl (.rows .i64 CS) .none,.isl (.bools DS) .none],.agg [.str r,.int .i64 y,.int .i64 x,.int .i64 k]]=>
  VC (bO c ls sum ⟨CS,DS⟩∧l9 c ls r y x k)∧K (.bp (okJ (aP r).toNat ⟨CS,DS⟩ sum (ls.getD k.toNat []) y x))
 |_=>False
theorem aiD:POK Tryz.prog 75 ah0:=by
 intro xs K hk;unfold ah0 at hk;split at hk
 ·exact⟨_,hk.2,ail _ _ _ _ ⟨_,_⟩ hk.1.get.1 _ _ _ _ hk.1.get.2⟩
 ·exact hk.elim
def okX (g:Nat) (c:Int) (ls:List (List Int)) (sum:Int) (s:St) (k i x:Int):Bool:=decide (dL c ls (nmG g) i x k=0)&&okJ g s sum (ls.getD k.toNat []) i x
def upL (t:Nat):List Int:=(ael t).map fun n:Nat=>(n:Int)+1
def dz (g:Nat) (c:Int) (ls:List (List Int)) (sum:Int) (s:St) (k:Int) (i t:Nat):List Dd:=((upL t).filter fun x=>okX g c ls sum s k i x).map fun x=>⟨g,i,x,k⟩
def eG (g:Nat) (c:Int) (ls:List (List Int)) (sum:Int) (s:St) (k:Int) (n:Nat):List Dd:=(ael n).flatMap fun i=>dz g c ls sum s k i c.toNat
def Jd (g:Nat) (c:Int) (ls:List (List Int)) (sum:Int) (s:St) (m:Nat):List Dd:=(ael m).flatMap fun j:Nat=>eG g c ls sum s (frG g+(j:Int)) c.toNat
theorem aiE (t:Nat):upL (t+1)=upL t++[(t:Int)+1]:=by unfold upL;rw[List.range_succ,af4];rfl
theorem ah9 {t:Nat} {x:Int}:x∈upL t↔1≤x∧x≤t:=by
 unfold upL;rw[List.mem_map];constructor
 ·rintro⟨n,hn,rfl⟩
  have:=afY.1 hn;omega
 ·intro h
  exact⟨(x-1).toNat,afY.2 (by omega),by omega⟩
theorem aiY (t:Nat):(upL t).Pairwise (·< ·):=by
 unfold upL;rw[List.pairwise_map];exact List.pairwise_lt_range.imp fun h=>by omega
theorem aht {g:Nat} {c:Int} {ls:List (List Int)} {sum:Int} {s:St} {k:Int} {i t:Nat}:
 dz g c ls sum s k i (t+1)=dz g c ls sum s k i t++if okX g c ls sum s k i ((t:Int)+1)then [⟨g,i,(t:Int)+1,k⟩]else []:=by
 unfold dz;rw[aiE,List.filter_append,af4];congr 1;cases h:okX g c ls sum s k i ((t:Int)+1)<;>simp[h]
theorem aiP {g:Nat} (hg:1≤g∧g≤5) {c:Int} {ls:List (List Int)} {sum:Int} {s:St} (h:bO c ls sum s) {k:Int} (hk:lnG g=true→0≤k∧k<ls.length) (hk':lnG g=false→k= -1) {i:Nat} (hi:(i:Int)<c):
 dz g c ls sum s k i c.toNat=uW g s sum (ls.getD k.toNat []) k i:=by
 have hgi:=aa8 hg;have hc:=h.c1;have hcl:=h.cl;have hA:=h.asc i (by omega)
 have hln:lnG g=true↔¬(g=2∨g=3):=by
  unfold lnG;have:g=1∨g=2∨g=3∨g=4∨g=5:=by omega
  rcases this with rfl|rfl|rfl|rfl|rfl<;>decide
 have hded:∀x,1≤x→x≤c→(dL c ls (nmG g) i x k=0↔¬(lnG g=true∧(i:Int)∉ls.getD k.toNat [])):=fun x h1 h2=>by
  unfold dL;rw[hgi,if_neg (by omega),if_neg (by omega),if_neg (by omega)]
  cases hl:lnG g with
  |false=>
   have h3:¬¬(g=2∨g=3):=fun e=>by rw[hln.2 e]at hl;cases hl
   have h4:(g:Int)=2∨(g:Int)=3:=by rcases ae2.1 h3 with e|e<;>omega
   rw[if_pos h4,hk' hl];simp
  |true=>
   have h3:=hln.1 hl;have h4:¬((g:Int)=2∨(g:Int)=3):=fun e=>h3 (by omega)
   have hkk:=hk hl;rw[if_neg h4];by_cases hm:(i:Int)∈ls.getD k.toNat []
   ·rw[if_neg (fun e=>by rcases e with e|e|e;omega;omega;exact e hm)];exact⟨fun _ e=>e.2 hm,fun _=>rfl⟩
   ·rw[if_pos (.inr (.inr hm))];exact⟨fun e=>absurd e (by decide),fun e=>absurd ⟨rfl,hm⟩ e⟩
 unfold dz uW;cases hd:s.dc i with
 |true=>
  rw[ai9.2 (fun x hx=>by unfold okX okJ;rw[afg,hd];simp)]
  rfl
 |false=>
  by_cases hb:lnG g=true∧(i:Int)∉ls.getD k.toNat []
  ·rw[ai9.2 (fun x hx=>by
    have:=ah9.1 hx;unfold okX;rw[decide_eq_false (fun e=>(hded x this.1 (by omega)).1 e hb)];simp)]
   rw[hb.1,decide_eq_false hb.2];rfl
  ·have e1:(lnG g&&!decide ((i:Int)∈ls.getD k.toNat []))=false:=by
    cases hl:lnG g with
    |false=>rfl
    |true=>
     have:(i:Int)∈ls.getD k.toNat []:=ae2.1 fun e=>hb ⟨hl,e⟩;rw[decide_eq_true this];rfl
   rw[e1,Bool.or_false,if_neg (by simp)]
   congr 1
   refine XD ((aiY _).filter _) (hA.1.pw.filter _) fun x=>?_;rw[agh,agh,ah9];unfold okX okJ;rw[afg,hd,aeV,agO,aeA,aeA,decide_eq_true_eq,decide_eq_true_eq];constructor
   ·rintro⟨_,_,h2,h3⟩;exact⟨h2,h3⟩
   ·rintro⟨h2,h3⟩
    have r1:=hA.1.rng x h2;have r2:=hA.2 x h2;exact⟨⟨r1.1,by omega⟩,(hded x r1.1 r2).2 hb,h2,h3⟩
theorem ahw {α β:Type} {f g:α→List β}:∀{l:List α},(∀x∈l,f x=g x)→l.flatMap f=l.flatMap g:=by
 intro l;induction l with
 |nil=>intro _;rfl
 |cons x l ih=>intro h;rw[aja,aja,h x (afZ ..),ih fun y hy=>h y (aek _ hy)]
theorem aiQ {g:Nat} (hg:1≤g∧g≤5) {c:Int} {ls:List (List Int)} {sum:Int} {s:St} (h:bO c ls sum s):Jd g c ls sum s (mG g ls)=gH g s sum ls:=by
 have hc:=h.c1;have hcl:=h.cl;unfold Jd gH;refine ahw fun j hj=>?_;have hj:=afY.1 hj;unfold eG;rw[show c.toNat=s.cs.length by omega]
 refine ahw fun i hi=>?_;have hi:=afY.1 hi;rw[show s.cs.length=c.toNat by omega]
 refine aiP hg h (fun e=>?_) (fun e=>?_) (by omega)
 ·unfold mG at hj;rw[if_pos e]at hj;unfold frG;rw[if_pos e];omega
 ·unfold mG at hj;rw[if_neg (by rw[e];simp)]at hj;unfold frG;rw[if_neg (by rw[e];simp)];omega
theorem ahq {g:Nat} {c:Int} {ls:List (List Int)} {sum:Int} {s:St} {m:Nat}:Jd g c ls sum s (m+1)=Jd g c ls sum s m++eG g c ls sum s (frG g+(m:Int)) c.toNat:=by
 unfold Jd;rw[jm]
theorem ahr {g:Nat} {c:Int} {ls:List (List Int)} {sum:Int} {s:St} {k:Int} {i:Nat}:eG g c ls sum s k (i+1)=eG g c ls sum s k i++dz g c ls sum s k i c.toNat:=by
 unfold eG;rw[jm]
theorem ah1 {g:Nat} {c:Int} {ls:List (List Int)} {sum:Int} {s:St} {k:Int} {i t:Nat}:(dz g c ls sum s k i t).length≤t:=by
 unfold dz;rw[af0];refine afW (agM _ _) ?_;unfold upL;simp
theorem ah2 {g:Nat} {c:Int} {ls:List (List Int)} {sum:Int} {s:St} {k:Int}:∀(n:Nat),(eG g c ls sum s k n).length≤n*c.toNat:=by
 intro n;induction n with
 |zero=>simp[eG]
 |succ n ih=>rw[ahr,afu,ad8];have:=ah1 (g:=g) (c:=c) (ls:=ls) (sum:=sum) (s:=s) (k:=k) (i:=n) (t:=c.toNat);omega
theorem aiF {g:Nat} {c:Int} {ls:List (List Int)} {sum:Int} {s:St}:∀(m:Nat),(Jd g c ls sum s m).length≤m*(c.toNat*c.toNat):=by
 intro n;induction n with
 |zero=>simp[Jd]
 |succ n ih=>rw[ahq,afu,ad8];have:=ah2 (g:=g) (c:=c) (ls:=ls) (sum:=sum) (s:=s) (k:=frG g+(n:Int)) c.toNat;omega
noncomputable def ai4:CPT:=aA 64 (aB aij) (aA 75 (aB ah0) noC)
theorem dw:aW Tryz.prog ai4:=aj (au aiO) (aj (au aiD) aD)
theorem ahS (c:Int) (ls:List (List Int)) (sum:Int) (gv:List Int) (s:St) (hL:bH ls) (h:bO c ls sum s) (g:Nat) (hg:1≤g∧g≤5):
 aF Tryz.prog 71 [pzV c ls sum gv,stV s,.str (nmG g)] (.isl (dlC (gH g s sum ls)) .none):=by
 have hc:=h.c1;have hcl:=h.cl;have hll:=h.ll;rw[←aiQ hg h];have te40s:E8.size=4:=by rfl
 have hbd:∀m,m≤128→(Jd g c ls sum s m).length≤32768:=fun m hm=>afW (aiF m) (by
  have h1:c.toNat*c.toNat≤16*16:=aff (by omega) (by omega)
  exact afW (aff hm h1) (by decide))
 have hbl:∀k n,n≤16→(eG g c ls sum s k n).length≤256:=fun k n hn=>afW (ah2 n) (afW (aff hn (show c.toNat≤16 by omega)) (by decide))
 have hbc:∀k i t,t≤16→(dz g c ls sum s k i t).length≤16:=fun k i t ht=>afW ah1 ht;obtain rfl|rfl|rfl|rfl|rfl:g=1∨g=2∨g=3∨g=4∨g=5:=by omega
 ·skip
  rw[show mG 1 ls=ls.length from rfl];refine av (md:=1) (rf:=[]) mixed ak dw Tryz.func71 (by rfl) (by rfl) (by rfl) ?_
  repeat'((conv=>whnf);first|(intro hq;(try simp only[vw]at hq);try first|exact absurd hq (by decide)|exfalso;omega)|apply aI|with_reducible exact vM rfl|exact⟨⟩|apply nM|apply fM)
  all_goals((try apply vM);(try simp only[vq]at*);try omega)
  conv=>whnf
  refine aM (X:=Nat) (fun j=>j≤ls.length) (fun j=>[(10,.int .i64 ((0:Int)+(j:Int))),(7,.isl (.recs 4 ((Jd 1 c ls sum s j).map ddC)) (.own 5))]) (fun j=>[(5,.tok 4 (Jd 1 c ls sum s j).length)]) (fun j=>ls.length-j) 0 ⟨aK,mixed,ak,dw,aQ⟩ (by rfl) (by omega) ?_ ?_
  ·repeat'((conv=>whnf);first|intro _|apply aI|with_reducible exact vM rfl|exact⟨⟩|apply nM|apply fM)
   all_goals((try apply vM);(try simp only[vq]at*);try omega)
  intro j hj;have hbj:=hbd j (by omega)
  by_cases hlt:j<ls.length
  case neg=>
   have e:j=ls.length:=by omega
   subst e
   repeat'((conv=>whnf);first|(intro hq;(try simp only[vw]at hq);try first|exact absurd hq (by decide)|exfalso;omega)|apply aI|with_reducible exact vM rfl|exact⟨⟩|apply nM|apply fM)
   all_goals((try apply vM);(try simp only[vq]at*);try omega)
   all_goals(try omega)
   all_goals exact PG _ _
  have hbj1:=hbd (j+1) (by omega)
  have hsj:=ahq (g:=1) (c:=c) (ls:=ls) (sum:=sum) (s:=s) (m:=j);rw[show frG 1=(0:Int)from rfl]at hsj;obtain⟨A,hA⟩:∃A,Jd 1 c ls sum s j=A:=⟨_,rfl⟩;rw[hA]at hbj hsj⊢
  repeat'((conv=>whnf);first|(intro hq;(try simp only[vw]at hq);try first|exact absurd hq (by decide)|exfalso;omega)|apply aI|with_reducible exact vM rfl|exact⟨⟩|apply nM|apply fM)
  all_goals((try apply vM);(try simp only[vq]at*);try omega)
  all_goals(try omega)
  conv=>whnf
  refine aM (X:=Nat) (fun i=>i≤c.toNat) (fun i=>[(11,.int .i64 (i:Int)),(7,.isl (.recs 4 ((A++eG 1 c ls sum s ((0:Int)+(j:Int)) i).map ddC)) (.own 5))]) (fun i=>[(5,.tok 4 (A++eG 1 c ls sum s ((0:Int)+(j:Int)) i).length)]) (fun i=>c.toNat-i) 0 ⟨aK,mixed,ak,dw,aQ⟩ (by rfl) (by omega) ?_ ?_
  ·repeat'((conv=>whnf);first|intro _|apply aI|with_reducible exact vM rfl|exact⟨⟩|apply nM|apply fM)
   all_goals((try apply vM);(try simp only[vq]at*);try omega)
   all_goals(try(rw[show eG 1 c ls sum s ((0:Int)+(j:Int)) 0=[]from rfl,agN]))
  intro i hi;have hbi:=hbl ((0:Int)+(j:Int)) i (by omega)
  by_cases hli:i<c.toNat
  case neg=>
   have e:i=c.toNat:=by omega
   subst e
   repeat'((conv=>whnf);first|(intro hq;(try simp only[vw]at hq);try first|exact absurd hq (by decide)|exfalso;omega)|apply aI|with_reducible exact vM rfl|exact⟨⟩|apply nM|apply fM)
   all_goals((try apply vM);(try simp only[vq]at*);try omega)
   all_goals(try omega)
   refine⟨j+1,[],⟨by omega,by omega⟩,?_⟩
   rw[hsj]
   repeat'((conv=>whnf);first|intro _|apply aI|with_reducible exact vM rfl|exact⟨⟩|apply nM|apply fM)
   all_goals((try apply vM);(try simp only[vq]at*);try omega)
  have hsi:=ahr (g:=1) (c:=c) (ls:=ls) (sum:=sum) (s:=s) (k:=(0:Int)+(j:Int)) (i:=i);obtain⟨R,hR⟩:∃R,eG 1 c ls sum s ((0:Int)+(j:Int)) i=R:=⟨_,rfl⟩;rw[hR]at hbi hsi⊢
  repeat'((conv=>whnf);first|(intro hq;(try simp only[vw]at hq);try first|exact absurd hq (by decide)|exfalso;omega)|apply aI|with_reducible exact vM rfl|exact⟨⟩|apply nM|apply fM)
  all_goals((try apply vM);(try simp only[vq]at*);try omega)
  all_goals(try omega)
  conv=>whnf
  refine aM (X:=Nat) (fun t=>t≤c.toNat) (fun t=>[(12,.int .i64 ((t:Int)+1)),(7,.isl (.recs 4 ((A++R++dz 1 c ls sum s ((0:Int)+(j:Int)) i t).map ddC)) (.own 5))]) (fun t=>[(5,.tok 4 (A++R++dz 1 c ls sum s ((0:Int)+(j:Int)) i t).length)]) (fun t=>c.toNat-t) 0 ⟨aK,mixed,ak,dw,aQ⟩ (by rfl) (by omega) ?_ ?_
  ·repeat'((conv=>whnf);first|intro _|apply aI|with_reducible exact vM rfl|exact⟨⟩|apply nM|apply fM)
   all_goals((try apply vM);(try simp only[vq]at*);try omega)
   all_goals(try(rw[show dz 1 c ls sum s ((0:Int)+(j:Int)) i 0=[]from rfl,agN]))
  intro t ht;have hbt:=hbc ((0:Int)+(j:Int)) i t (by omega)
  by_cases hlt:t<c.toNat
  case neg=>
   have e:t=c.toNat:=by omega
   subst e
   repeat'((conv=>whnf);first|(intro hq;(try simp only[vw]at hq);try first|exact absurd hq (by decide)|exfalso;omega)|apply aI|with_reducible exact vM rfl|exact⟨⟩|apply nM|apply fM)
   all_goals((try apply vM);(try simp only[vq]at*);try omega)
   all_goals(try omega)
   refine⟨i+1,[],⟨by omega,by omega⟩,?_⟩
   rw[hsi,←ag5]
   repeat'((conv=>whnf);first|intro _|apply aI|with_reducible exact vM rfl|exact⟨⟩|apply nM|apply fM)
   all_goals((try apply vM);(try simp only[vq]at*);try omega)
  have hst:=aht (g:=1) (c:=c) (ls:=ls) (sum:=sum) (s:=s) (k:=(0:Int)+(j:Int)) (i:=i) (t:=t);have hlen:(A++R++dz 1 c ls sum s ((0:Int)+(j:Int)) i t).length≤40000:=by rw[afu,afu];omega
  obtain⟨C,hC⟩:∃C,dz 1 c ls sum s ((0:Int)+(j:Int)) i t=C:=⟨_,rfl⟩;rw[hC]at hst hlen⊢;have hgg:(aP (nmG 1)).toNat=1:=by rw[pV.1];rfl
  repeat'((conv=>whnf);first|(intro hq;(try simp only[vw]at hq);try first|exact absurd hq (by decide)|exfalso;omega)|apply aI|with_reducible exact vM rfl|exact⟨⟩|apply nM|apply fM)
  all_goals((try apply vM);(try simp only[vq]at*);try omega)
  all_goals(try omega)
  ·exact⟨h,l9.of hq⟩
  ·exact(af0 ..).symm
  ·rw[te40s];rfl
  ·rw[afu,af0,te40s]
   show(A++R++C).length+1≤_;omega
  ·rename_i hd
   have hk1:okX 1 c ls sum s ((0:Int)+(j:Int)) i ((t:Int)+1)=true:=by
    unfold okX;rw[decide_eq_true hd,agO,←hq,hgg]
   refine⟨t+1,[],⟨by omega,by omega⟩,?_⟩
   rw[hst,if_pos hk1,←ag5,af4,afu]
   repeat'((conv=>whnf);first|intro _|apply aI|with_reducible exact vM rfl|exact⟨⟩|apply nM|apply fM)
   all_goals((try apply vM);(try simp only[vq]at*);try omega)
   all_goals(rw[te40s];refine congrArg (CL.recs 4) ?_;rw[af4 (l₁:=A++R++C)];rfl)
  ·rename_i hd
   have hk1:okX 1 c ls sum s ((0:Int)+(j:Int)) i ((t:Int)+1)=false:=by
    unfold okX;rw[decide_eq_true hd,agO,←hq,hgg]
   refine⟨t+1,[],⟨by omega,by omega⟩,?_⟩
   rw[hst,hk1,if_neg (by simp),agN]
   repeat'((conv=>whnf);first|intro _|apply aI|with_reducible exact vM rfl|exact⟨⟩|apply nM|apply fM)
   all_goals((try apply vM);(try simp only[vq]at*);try omega)
  ·have hk1:okX 1 c ls sum s ((0:Int)+(j:Int)) i ((t:Int)+1)=false:=by
    unfold okX;rw[decide_eq_false hq,agn]
   refine⟨t+1,[],⟨by omega,by omega⟩,?_⟩
   rw[hst,hk1,if_neg (by simp),agN]
   repeat'((conv=>whnf);first|intro _|apply aI|with_reducible exact vM rfl|exact⟨⟩|apply nM|apply fM)
   all_goals((try apply vM);(try simp only[vq]at*);try omega)
 ·skip
  rw[show mG 2 ls=1 from rfl];refine av (md:=1) (rf:=[]) mixed ak dw Tryz.func71 (by rfl) (by rfl) (by rfl) ?_
  repeat'((conv=>whnf);first|(intro hq;(try simp only[vw]at hq);try first|exact absurd hq (by decide)|exfalso;omega)|apply aI|with_reducible exact vM rfl|exact⟨⟩|apply nM|apply fM)
  all_goals((try apply vM);(try simp only[vq]at*);try omega)
  conv=>whnf
  refine aM (X:=Nat) (fun j=>j≤1) (fun j=>[(10,.int .i64 ((-1:Int)+(j:Int))),(7,.isl (.recs 4 ((Jd 2 c ls sum s j).map ddC)) (.own 5))]) (fun j=>[(5,.tok 4 (Jd 2 c ls sum s j).length)]) (fun j=>1-j) 0 ⟨aK,mixed,ak,dw,aQ⟩ (by rfl) (by omega) ?_ ?_
  ·repeat'((conv=>whnf);first|intro _|apply aI|with_reducible exact vM rfl|exact⟨⟩|apply nM|apply fM)
   all_goals((try apply vM);(try simp only[vq]at*);try omega)
  intro j hj;have hbj:=hbd j (by omega)
  by_cases hlt:j<1
  case neg=>
   have e:j=1:=by omega
   subst e
   repeat'((conv=>whnf);first|(intro hq;(try simp only[vw]at hq);try first|exact absurd hq (by decide)|exfalso;omega)|apply aI|with_reducible exact vM rfl|exact⟨⟩|apply nM|apply fM)
   all_goals((try apply vM);(try simp only[vq]at*);try omega)
   all_goals(try omega)
   all_goals exact PG _ _
  have hbj1:=hbd (j+1) (by omega)
  have hsj:=ahq (g:=2) (c:=c) (ls:=ls) (sum:=sum) (s:=s) (m:=j);rw[show frG 2=(-1:Int)from rfl]at hsj;obtain⟨A,hA⟩:∃A,Jd 2 c ls sum s j=A:=⟨_,rfl⟩;rw[hA]at hbj hsj⊢
  repeat'((conv=>whnf);first|(intro hq;(try simp only[vw]at hq);try first|exact absurd hq (by decide)|exfalso;omega)|apply aI|with_reducible exact vM rfl|exact⟨⟩|apply nM|apply fM)
  all_goals((try apply vM);(try simp only[vq]at*);try omega)
  all_goals(try omega)
  conv=>whnf
  refine aM (X:=Nat) (fun i=>i≤c.toNat) (fun i=>[(11,.int .i64 (i:Int)),(7,.isl (.recs 4 ((A++eG 2 c ls sum s ((-1:Int)+(j:Int)) i).map ddC)) (.own 5))]) (fun i=>[(5,.tok 4 (A++eG 2 c ls sum s ((-1:Int)+(j:Int)) i).length)]) (fun i=>c.toNat-i) 0 ⟨aK,mixed,ak,dw,aQ⟩ (by rfl) (by omega) ?_ ?_
  ·repeat'((conv=>whnf);first|intro _|apply aI|with_reducible exact vM rfl|exact⟨⟩|apply nM|apply fM)
   all_goals((try apply vM);(try simp only[vq]at*);try omega)
   all_goals(try(rw[show eG 2 c ls sum s ((-1:Int)+(j:Int)) 0=[]from rfl,agN]))
  intro i hi;have hbi:=hbl ((-1:Int)+(j:Int)) i (by omega)
  by_cases hli:i<c.toNat
  case neg=>
   have e:i=c.toNat:=by omega
   subst e
   repeat'((conv=>whnf);first|(intro hq;(try simp only[vw]at hq);try first|exact absurd hq (by decide)|exfalso;omega)|apply aI|with_reducible exact vM rfl|exact⟨⟩|apply nM|apply fM)
   all_goals((try apply vM);(try simp only[vq]at*);try omega)
   all_goals(try omega)
   refine⟨j+1,[],⟨by omega,by omega⟩,?_⟩
   rw[hsj]
   repeat'((conv=>whnf);first|intro _|apply aI|with_reducible exact vM rfl|exact⟨⟩|apply nM|apply fM)
   all_goals((try apply vM);(try simp only[vq]at*);try omega)
  have hsi:=ahr (g:=2) (c:=c) (ls:=ls) (sum:=sum) (s:=s) (k:=(-1:Int)+(j:Int)) (i:=i);obtain⟨R,hR⟩:∃R,eG 2 c ls sum s ((-1:Int)+(j:Int)) i=R:=⟨_,rfl⟩;rw[hR]at hbi hsi⊢
  repeat'((conv=>whnf);first|(intro hq;(try simp only[vw]at hq);try first|exact absurd hq (by decide)|exfalso;omega)|apply aI|with_reducible exact vM rfl|exact⟨⟩|apply nM|apply fM)
  all_goals((try apply vM);(try simp only[vq]at*);try omega)
  all_goals(try omega)
  conv=>whnf
  refine aM (X:=Nat) (fun t=>t≤c.toNat) (fun t=>[(12,.int .i64 ((t:Int)+1)),(7,.isl (.recs 4 ((A++R++dz 2 c ls sum s ((-1:Int)+(j:Int)) i t).map ddC)) (.own 5))]) (fun t=>[(5,.tok 4 (A++R++dz 2 c ls sum s ((-1:Int)+(j:Int)) i t).length)]) (fun t=>c.toNat-t) 0 ⟨aK,mixed,ak,dw,aQ⟩ (by rfl) (by omega) ?_ ?_
  ·repeat'((conv=>whnf);first|intro _|apply aI|with_reducible exact vM rfl|exact⟨⟩|apply nM|apply fM)
   all_goals((try apply vM);(try simp only[vq]at*);try omega)
   all_goals(try(rw[show dz 2 c ls sum s ((-1:Int)+(j:Int)) i 0=[]from rfl,agN]))
  intro t ht;have hbt:=hbc ((-1:Int)+(j:Int)) i t (by omega)
  by_cases hlt:t<c.toNat
  case neg=>
   have e:t=c.toNat:=by omega
   subst e
   repeat'((conv=>whnf);first|(intro hq;(try simp only[vw]at hq);try first|exact absurd hq (by decide)|exfalso;omega)|apply aI|with_reducible exact vM rfl|exact⟨⟩|apply nM|apply fM)
   all_goals((try apply vM);(try simp only[vq]at*);try omega)
   all_goals(try omega)
   refine⟨i+1,[],⟨by omega,by omega⟩,?_⟩
   rw[hsi,←ag5]
   repeat'((conv=>whnf);first|intro _|apply aI|with_reducible exact vM rfl|exact⟨⟩|apply nM|apply fM)
   all_goals((try apply vM);(try simp only[vq]at*);try omega)
  have hst:=aht (g:=2) (c:=c) (ls:=ls) (sum:=sum) (s:=s) (k:=(-1:Int)+(j:Int)) (i:=i) (t:=t);have hlen:(A++R++dz 2 c ls sum s ((-1:Int)+(j:Int)) i t).length≤40000:=by rw[afu,afu];omega
  obtain⟨C,hC⟩:∃C,dz 2 c ls sum s ((-1:Int)+(j:Int)) i t=C:=⟨_,rfl⟩;rw[hC]at hst hlen⊢;have hgg:(aP (nmG 2)).toNat=2:=by rw[pV.2.1];rfl
  repeat'((conv=>whnf);first|(intro hq;(try simp only[vw]at hq);try first|exact absurd hq (by decide)|exfalso;omega)|apply aI|with_reducible exact vM rfl|exact⟨⟩|apply nM|apply fM)
  all_goals((try apply vM);(try simp only[vq]at*);try omega)
  all_goals(try omega)
  ·exact⟨h,l9.of hq⟩
  ·exact(af0 ..).symm
  ·rw[te40s];rfl
  ·rw[afu,af0,te40s]
   show(A++R++C).length+1≤_;omega
  ·rename_i hd
   have hk1:okX 2 c ls sum s ((-1:Int)+(j:Int)) i ((t:Int)+1)=true:=by
    unfold okX;rw[decide_eq_true hd,agO,←hq,hgg]
   refine⟨t+1,[],⟨by omega,by omega⟩,?_⟩
   rw[hst,if_pos hk1,←ag5,af4,afu]
   repeat'((conv=>whnf);first|intro _|apply aI|with_reducible exact vM rfl|exact⟨⟩|apply nM|apply fM)
   all_goals((try apply vM);(try simp only[vq]at*);try omega)
   all_goals(rw[te40s];refine congrArg (CL.recs 4) ?_;rw[af4 (l₁:=A++R++C)];rfl)
  ·rename_i hd
   have hk1:okX 2 c ls sum s ((-1:Int)+(j:Int)) i ((t:Int)+1)=false:=by
    unfold okX;rw[decide_eq_true hd,agO,←hq,hgg]
   refine⟨t+1,[],⟨by omega,by omega⟩,?_⟩
   rw[hst,hk1,if_neg (by simp),agN]
   repeat'((conv=>whnf);first|intro _|apply aI|with_reducible exact vM rfl|exact⟨⟩|apply nM|apply fM)
   all_goals((try apply vM);(try simp only[vq]at*);try omega)
  ·have hk1:okX 2 c ls sum s ((-1:Int)+(j:Int)) i ((t:Int)+1)=false:=by
    unfold okX;rw[decide_eq_false hq,agn]
   refine⟨t+1,[],⟨by omega,by omega⟩,?_⟩
   rw[hst,hk1,if_neg (by simp),agN]
   repeat'((conv=>whnf);first|intro _|apply aI|with_reducible exact vM rfl|exact⟨⟩|apply nM|apply fM)
   all_goals((try apply vM);(try simp only[vq]at*);try omega)
 ·skip
  rw[show mG 3 ls=1 from rfl];refine av (md:=1) (rf:=[]) mixed ak dw Tryz.func71 (by rfl) (by rfl) (by rfl) ?_
  repeat'((conv=>whnf);first|(intro hq;(try simp only[vw]at hq);try first|exact absurd hq (by decide)|exfalso;omega)|apply aI|with_reducible exact vM rfl|exact⟨⟩|apply nM|apply fM)
  all_goals((try apply vM);(try simp only[vq]at*);try omega)
  conv=>whnf
  refine aM (X:=Nat) (fun j=>j≤1) (fun j=>[(10,.int .i64 ((-1:Int)+(j:Int))),(7,.isl (.recs 4 ((Jd 3 c ls sum s j).map ddC)) (.own 5))]) (fun j=>[(5,.tok 4 (Jd 3 c ls sum s j).length)]) (fun j=>1-j) 0 ⟨aK,mixed,ak,dw,aQ⟩ (by rfl) (by omega) ?_ ?_
  ·repeat'((conv=>whnf);first|intro _|apply aI|with_reducible exact vM rfl|exact⟨⟩|apply nM|apply fM)
   all_goals((try apply vM);(try simp only[vq]at*);try omega)
  intro j hj;have hbj:=hbd j (by omega)
  by_cases hlt:j<1
  case neg=>
   have e:j=1:=by omega
   subst e
   repeat'((conv=>whnf);first|(intro hq;(try simp only[vw]at hq);try first|exact absurd hq (by decide)|exfalso;omega)|apply aI|with_reducible exact vM rfl|exact⟨⟩|apply nM|apply fM)
   all_goals((try apply vM);(try simp only[vq]at*);try omega)
   all_goals(try omega)
   all_goals exact PG _ _
  have hbj1:=hbd (j+1) (by omega)
  have hsj:=ahq (g:=3) (c:=c) (ls:=ls) (sum:=sum) (s:=s) (m:=j);rw[show frG 3=(-1:Int)from rfl]at hsj;obtain⟨A,hA⟩:∃A,Jd 3 c ls sum s j=A:=⟨_,rfl⟩;rw[hA]at hbj hsj⊢
  repeat'((conv=>whnf);first|(intro hq;(try simp only[vw]at hq);try first|exact absurd hq (by decide)|exfalso;omega)|apply aI|with_reducible exact vM rfl|exact⟨⟩|apply nM|apply fM)
  all_goals((try apply vM);(try simp only[vq]at*);try omega)
  all_goals(try omega)
  conv=>whnf
  refine aM (X:=Nat) (fun i=>i≤c.toNat) (fun i=>[(11,.int .i64 (i:Int)),(7,.isl (.recs 4 ((A++eG 3 c ls sum s ((-1:Int)+(j:Int)) i).map ddC)) (.own 5))]) (fun i=>[(5,.tok 4 (A++eG 3 c ls sum s ((-1:Int)+(j:Int)) i).length)]) (fun i=>c.toNat-i) 0 ⟨aK,mixed,ak,dw,aQ⟩ (by rfl) (by omega) ?_ ?_
  ·repeat'((conv=>whnf);first|intro _|apply aI|with_reducible exact vM rfl|exact⟨⟩|apply nM|apply fM)
   all_goals((try apply vM);(try simp only[vq]at*);try omega)
   all_goals(try(rw[show eG 3 c ls sum s ((-1:Int)+(j:Int)) 0=[]from rfl,agN]))
  intro i hi;have hbi:=hbl ((-1:Int)+(j:Int)) i (by omega)
  by_cases hli:i<c.toNat
  case neg=>
   have e:i=c.toNat:=by omega
   subst e
   repeat'((conv=>whnf);first|(intro hq;(try simp only[vw]at hq);try first|exact absurd hq (by decide)|exfalso;omega)|apply aI|with_reducible exact vM rfl|exact⟨⟩|apply nM|apply fM)
   all_goals((try apply vM);(try simp only[vq]at*);try omega)
   all_goals(try omega)
   refine⟨j+1,[],⟨by omega,by omega⟩,?_⟩
   rw[hsj]
   repeat'((conv=>whnf);first|intro _|apply aI|with_reducible exact vM rfl|exact⟨⟩|apply nM|apply fM)
   all_goals((try apply vM);(try simp only[vq]at*);try omega)
  have hsi:=ahr (g:=3) (c:=c) (ls:=ls) (sum:=sum) (s:=s) (k:=(-1:Int)+(j:Int)) (i:=i);obtain⟨R,hR⟩:∃R,eG 3 c ls sum s ((-1:Int)+(j:Int)) i=R:=⟨_,rfl⟩;rw[hR]at hbi hsi⊢
  repeat'((conv=>whnf);first|(intro hq;(try simp only[vw]at hq);try first|exact absurd hq (by decide)|exfalso;omega)|apply aI|with_reducible exact vM rfl|exact⟨⟩|apply nM|apply fM)
  all_goals((try apply vM);(try simp only[vq]at*);try omega)
  all_goals(try omega)
  conv=>whnf
  refine aM (X:=Nat) (fun t=>t≤c.toNat) (fun t=>[(12,.int .i64 ((t:Int)+1)),(7,.isl (.recs 4 ((A++R++dz 3 c ls sum s ((-1:Int)+(j:Int)) i t).map ddC)) (.own 5))]) (fun t=>[(5,.tok 4 (A++R++dz 3 c ls sum s ((-1:Int)+(j:Int)) i t).length)]) (fun t=>c.toNat-t) 0 ⟨aK,mixed,ak,dw,aQ⟩ (by rfl) (by omega) ?_ ?_
  ·repeat'((conv=>whnf);first|intro _|apply aI|with_reducible exact vM rfl|exact⟨⟩|apply nM|apply fM)
   all_goals((try apply vM);(try simp only[vq]at*);try omega)
   all_goals(try(rw[show dz 3 c ls sum s ((-1:Int)+(j:Int)) i 0=[]from rfl,agN]))
  intro t ht;have hbt:=hbc ((-1:Int)+(j:Int)) i t (by omega)
  by_cases hlt:t<c.toNat
  case neg=>
   have e:t=c.toNat:=by omega
   subst e
   repeat'((conv=>whnf);first|(intro hq;(try simp only[vw]at hq);try first|exact absurd hq (by decide)|exfalso;omega)|apply aI|with_reducible exact vM rfl|exact⟨⟩|apply nM|apply fM)
   all_goals((try apply vM);(try simp only[vq]at*);try omega)
   all_goals(try omega)
   refine⟨i+1,[],⟨by omega,by omega⟩,?_⟩
   rw[hsi,←ag5]
   repeat'((conv=>whnf);first|intro _|apply aI|with_reducible exact vM rfl|exact⟨⟩|apply nM|apply fM)
   all_goals((try apply vM);(try simp only[vq]at*);try omega)
  have hst:=aht (g:=3) (c:=c) (ls:=ls) (sum:=sum) (s:=s) (k:=(-1:Int)+(j:Int)) (i:=i) (t:=t);have hlen:(A++R++dz 3 c ls sum s ((-1:Int)+(j:Int)) i t).length≤40000:=by rw[afu,afu];omega
  obtain⟨C,hC⟩:∃C,dz 3 c ls sum s ((-1:Int)+(j:Int)) i t=C:=⟨_,rfl⟩;rw[hC]at hst hlen⊢;have hgg:(aP (nmG 3)).toNat=3:=by rw[pV.2.2.1];rfl
  repeat'((conv=>whnf);first|(intro hq;(try simp only[vw]at hq);try first|exact absurd hq (by decide)|exfalso;omega)|apply aI|with_reducible exact vM rfl|exact⟨⟩|apply nM|apply fM)
  all_goals((try apply vM);(try simp only[vq]at*);try omega)
  all_goals(try omega)
  ·exact⟨h,l9.of hq⟩
  ·exact(af0 ..).symm
  ·rw[te40s];rfl
  ·rw[afu,af0,te40s]
   show(A++R++C).length+1≤_;omega
  ·rename_i hd
   have hk1:okX 3 c ls sum s ((-1:Int)+(j:Int)) i ((t:Int)+1)=true:=by
    unfold okX;rw[decide_eq_true hd,agO,←hq,hgg]
   refine⟨t+1,[],⟨by omega,by omega⟩,?_⟩
   rw[hst,if_pos hk1,←ag5,af4,afu]
   repeat'((conv=>whnf);first|intro _|apply aI|with_reducible exact vM rfl|exact⟨⟩|apply nM|apply fM)
   all_goals((try apply vM);(try simp only[vq]at*);try omega)
   all_goals(rw[te40s];refine congrArg (CL.recs 4) ?_;rw[af4 (l₁:=A++R++C)];rfl)
  ·rename_i hd
   have hk1:okX 3 c ls sum s ((-1:Int)+(j:Int)) i ((t:Int)+1)=false:=by
    unfold okX;rw[decide_eq_true hd,agO,←hq,hgg]
   refine⟨t+1,[],⟨by omega,by omega⟩,?_⟩
   rw[hst,hk1,if_neg (by simp),agN]
   repeat'((conv=>whnf);first|intro _|apply aI|with_reducible exact vM rfl|exact⟨⟩|apply nM|apply fM)
   all_goals((try apply vM);(try simp only[vq]at*);try omega)
  ·have hk1:okX 3 c ls sum s ((-1:Int)+(j:Int)) i ((t:Int)+1)=false:=by
    unfold okX;rw[decide_eq_false hq,agn]
   refine⟨t+1,[],⟨by omega,by omega⟩,?_⟩
   rw[hst,hk1,if_neg (by simp),agN]
   repeat'((conv=>whnf);first|intro _|apply aI|with_reducible exact vM rfl|exact⟨⟩|apply nM|apply fM)
   all_goals((try apply vM);(try simp only[vq]at*);try omega)
 ·skip
  rw[show mG 4 ls=ls.length from rfl];refine av (md:=1) (rf:=[]) mixed ak dw Tryz.func71 (by rfl) (by rfl) (by rfl) ?_
  repeat'((conv=>whnf);first|(intro hq;(try simp only[vw]at hq);try first|exact absurd hq (by decide)|exfalso;omega)|apply aI|with_reducible exact vM rfl|exact⟨⟩|apply nM|apply fM)
  all_goals((try apply vM);(try simp only[vq]at*);try omega)
  conv=>whnf
  refine aM (X:=Nat) (fun j=>j≤ls.length) (fun j=>[(10,.int .i64 ((0:Int)+(j:Int))),(7,.isl (.recs 4 ((Jd 4 c ls sum s j).map ddC)) (.own 5))]) (fun j=>[(5,.tok 4 (Jd 4 c ls sum s j).length)]) (fun j=>ls.length-j) 0 ⟨aK,mixed,ak,dw,aQ⟩ (by rfl) (by omega) ?_ ?_
  ·repeat'((conv=>whnf);first|intro _|apply aI|with_reducible exact vM rfl|exact⟨⟩|apply nM|apply fM)
   all_goals((try apply vM);(try simp only[vq]at*);try omega)
  intro j hj;have hbj:=hbd j (by omega)
  by_cases hlt:j<ls.length
  case neg=>
   have e:j=ls.length:=by omega
   subst e
   repeat'((conv=>whnf);first|(intro hq;(try simp only[vw]at hq);try first|exact absurd hq (by decide)|exfalso;omega)|apply aI|with_reducible exact vM rfl|exact⟨⟩|apply nM|apply fM)
   all_goals((try apply vM);(try simp only[vq]at*);try omega)
   all_goals(try omega)
   all_goals exact PG _ _
  have hbj1:=hbd (j+1) (by omega)
  have hsj:=ahq (g:=4) (c:=c) (ls:=ls) (sum:=sum) (s:=s) (m:=j);rw[show frG 4=(0:Int)from rfl]at hsj;obtain⟨A,hA⟩:∃A,Jd 4 c ls sum s j=A:=⟨_,rfl⟩;rw[hA]at hbj hsj⊢
  repeat'((conv=>whnf);first|(intro hq;(try simp only[vw]at hq);try first|exact absurd hq (by decide)|exfalso;omega)|apply aI|with_reducible exact vM rfl|exact⟨⟩|apply nM|apply fM)
  all_goals((try apply vM);(try simp only[vq]at*);try omega)
  all_goals(try omega)
  conv=>whnf
  refine aM (X:=Nat) (fun i=>i≤c.toNat) (fun i=>[(11,.int .i64 (i:Int)),(7,.isl (.recs 4 ((A++eG 4 c ls sum s ((0:Int)+(j:Int)) i).map ddC)) (.own 5))]) (fun i=>[(5,.tok 4 (A++eG 4 c ls sum s ((0:Int)+(j:Int)) i).length)]) (fun i=>c.toNat-i) 0 ⟨aK,mixed,ak,dw,aQ⟩ (by rfl) (by omega) ?_ ?_
  ·repeat'((conv=>whnf);first|intro _|apply aI|with_reducible exact vM rfl|exact⟨⟩|apply nM|apply fM)
   all_goals((try apply vM);(try simp only[vq]at*);try omega)
   all_goals(try(rw[show eG 4 c ls sum s ((0:Int)+(j:Int)) 0=[]from rfl,agN]))
  intro i hi;have hbi:=hbl ((0:Int)+(j:Int)) i (by omega)
  by_cases hli:i<c.toNat
  case neg=>
   have e:i=c.toNat:=by omega
   subst e
   repeat'((conv=>whnf);first|(intro hq;(try simp only[vw]at hq);try first|exact absurd hq (by decide)|exfalso;omega)|apply aI|with_reducible exact vM rfl|exact⟨⟩|apply nM|apply fM)
   all_goals((try apply vM);(try simp only[vq]at*);try omega)
   all_goals(try omega)
   refine⟨j+1,[],⟨by omega,by omega⟩,?_⟩
   rw[hsj]
   repeat'((conv=>whnf);first|intro _|apply aI|with_reducible exact vM rfl|exact⟨⟩|apply nM|apply fM)
   all_goals((try apply vM);(try simp only[vq]at*);try omega)
  have hsi:=ahr (g:=4) (c:=c) (ls:=ls) (sum:=sum) (s:=s) (k:=(0:Int)+(j:Int)) (i:=i);obtain⟨R,hR⟩:∃R,eG 4 c ls sum s ((0:Int)+(j:Int)) i=R:=⟨_,rfl⟩;rw[hR]at hbi hsi⊢
  repeat'((conv=>whnf);first|(intro hq;(try simp only[vw]at hq);try first|exact absurd hq (by decide)|exfalso;omega)|apply aI|with_reducible exact vM rfl|exact⟨⟩|apply nM|apply fM)
  all_goals((try apply vM);(try simp only[vq]at*);try omega)
  all_goals(try omega)
  conv=>whnf
  refine aM (X:=Nat) (fun t=>t≤c.toNat) (fun t=>[(12,.int .i64 ((t:Int)+1)),(7,.isl (.recs 4 ((A++R++dz 4 c ls sum s ((0:Int)+(j:Int)) i t).map ddC)) (.own 5))]) (fun t=>[(5,.tok 4 (A++R++dz 4 c ls sum s ((0:Int)+(j:Int)) i t).length)]) (fun t=>c.toNat-t) 0 ⟨aK,mixed,ak,dw,aQ⟩ (by rfl) (by omega) ?_ ?_
  ·repeat'((conv=>whnf);first|intro _|apply aI|with_reducible exact vM rfl|exact⟨⟩|apply nM|apply fM)
   all_goals((try apply vM);(try simp only[vq]at*);try omega)
   all_goals(try(rw[show dz 4 c ls sum s ((0:Int)+(j:Int)) i 0=[]from rfl,agN]))
  intro t ht;have hbt:=hbc ((0:Int)+(j:Int)) i t (by omega)
  by_cases hlt:t<c.toNat
  case neg=>
   have e:t=c.toNat:=by omega
   subst e
   repeat'((conv=>whnf);first|(intro hq;(try simp only[vw]at hq);try first|exact absurd hq (by decide)|exfalso;omega)|apply aI|with_reducible exact vM rfl|exact⟨⟩|apply nM|apply fM)
   all_goals((try apply vM);(try simp only[vq]at*);try omega)
   all_goals(try omega)
   refine⟨i+1,[],⟨by omega,by omega⟩,?_⟩
   rw[hsi,←ag5]
   repeat'((conv=>whnf);first|intro _|apply aI|with_reducible exact vM rfl|exact⟨⟩|apply nM|apply fM)
   all_goals((try apply vM);(try simp only[vq]at*);try omega)
  have hst:=aht (g:=4) (c:=c) (ls:=ls) (sum:=sum) (s:=s) (k:=(0:Int)+(j:Int)) (i:=i) (t:=t);have hlen:(A++R++dz 4 c ls sum s ((0:Int)+(j:Int)) i t).length≤40000:=by rw[afu,afu];omega
  obtain⟨C,hC⟩:∃C,dz 4 c ls sum s ((0:Int)+(j:Int)) i t=C:=⟨_,rfl⟩;rw[hC]at hst hlen⊢;have hgg:(aP (nmG 4)).toNat=4:=by rw[pV.2.2.2.1];rfl
  repeat'((conv=>whnf);first|(intro hq;(try simp only[vw]at hq);try first|exact absurd hq (by decide)|exfalso;omega)|apply aI|with_reducible exact vM rfl|exact⟨⟩|apply nM|apply fM)
  all_goals((try apply vM);(try simp only[vq]at*);try omega)
  all_goals(try omega)
  ·exact⟨h,l9.of hq⟩
  ·exact(af0 ..).symm
  ·rw[te40s];rfl
  ·rw[afu,af0,te40s]
   show(A++R++C).length+1≤_;omega
  ·rename_i hd
   have hk1:okX 4 c ls sum s ((0:Int)+(j:Int)) i ((t:Int)+1)=true:=by
    unfold okX;rw[decide_eq_true hd,agO,←hq,hgg]
   refine⟨t+1,[],⟨by omega,by omega⟩,?_⟩
   rw[hst,if_pos hk1,←ag5,af4,afu]
   repeat'((conv=>whnf);first|intro _|apply aI|with_reducible exact vM rfl|exact⟨⟩|apply nM|apply fM)
   all_goals((try apply vM);(try simp only[vq]at*);try omega)
   all_goals(rw[te40s];refine congrArg (CL.recs 4) ?_;rw[af4 (l₁:=A++R++C)];rfl)
  ·rename_i hd
   have hk1:okX 4 c ls sum s ((0:Int)+(j:Int)) i ((t:Int)+1)=false:=by
    unfold okX;rw[decide_eq_true hd,agO,←hq,hgg]
   refine⟨t+1,[],⟨by omega,by omega⟩,?_⟩
   rw[hst,hk1,if_neg (by simp),agN]
   repeat'((conv=>whnf);first|intro _|apply aI|with_reducible exact vM rfl|exact⟨⟩|apply nM|apply fM)
   all_goals((try apply vM);(try simp only[vq]at*);try omega)
  ·have hk1:okX 4 c ls sum s ((0:Int)+(j:Int)) i ((t:Int)+1)=false:=by
    unfold okX;rw[decide_eq_false hq,agn]
   refine⟨t+1,[],⟨by omega,by omega⟩,?_⟩
   rw[hst,hk1,if_neg (by simp),agN]
   repeat'((conv=>whnf);first|intro _|apply aI|with_reducible exact vM rfl|exact⟨⟩|apply nM|apply fM)
   all_goals((try apply vM);(try simp only[vq]at*);try omega)
 ·skip
  rw[show mG 5 ls=ls.length from rfl];refine av (md:=1) (rf:=[]) mixed ak dw Tryz.func71 (by rfl) (by rfl) (by rfl) ?_
  repeat'((conv=>whnf);first|(intro hq;(try simp only[vw]at hq);try first|exact absurd hq (by decide)|exfalso;omega)|apply aI|with_reducible exact vM rfl|exact⟨⟩|apply nM|apply fM)
  all_goals((try apply vM);(try simp only[vq]at*);try omega)
  conv=>whnf
  refine aM (X:=Nat) (fun j=>j≤ls.length) (fun j=>[(10,.int .i64 ((0:Int)+(j:Int))),(7,.isl (.recs 4 ((Jd 5 c ls sum s j).map ddC)) (.own 5))]) (fun j=>[(5,.tok 4 (Jd 5 c ls sum s j).length)]) (fun j=>ls.length-j) 0 ⟨aK,mixed,ak,dw,aQ⟩ (by rfl) (by omega) ?_ ?_
  ·repeat'((conv=>whnf);first|intro _|apply aI|with_reducible exact vM rfl|exact⟨⟩|apply nM|apply fM)
   all_goals((try apply vM);(try simp only[vq]at*);try omega)
  intro j hj;have hbj:=hbd j (by omega)
  by_cases hlt:j<ls.length
  case neg=>
   have e:j=ls.length:=by omega
   subst e
   repeat'((conv=>whnf);first|(intro hq;(try simp only[vw]at hq);try first|exact absurd hq (by decide)|exfalso;omega)|apply aI|with_reducible exact vM rfl|exact⟨⟩|apply nM|apply fM)
   all_goals((try apply vM);(try simp only[vq]at*);try omega)
   all_goals(try omega)
   all_goals exact PG _ _
  have hbj1:=hbd (j+1) (by omega)
  have hsj:=ahq (g:=5) (c:=c) (ls:=ls) (sum:=sum) (s:=s) (m:=j);rw[show frG 5=(0:Int)from rfl]at hsj;obtain⟨A,hA⟩:∃A,Jd 5 c ls sum s j=A:=⟨_,rfl⟩;rw[hA]at hbj hsj⊢
  repeat'((conv=>whnf);first|(intro hq;(try simp only[vw]at hq);try first|exact absurd hq (by decide)|exfalso;omega)|apply aI|with_reducible exact vM rfl|exact⟨⟩|apply nM|apply fM)
  all_goals((try apply vM);(try simp only[vq]at*);try omega)
  all_goals(try omega)
  conv=>whnf
  refine aM (X:=Nat) (fun i=>i≤c.toNat) (fun i=>[(11,.int .i64 (i:Int)),(7,.isl (.recs 4 ((A++eG 5 c ls sum s ((0:Int)+(j:Int)) i).map ddC)) (.own 5))]) (fun i=>[(5,.tok 4 (A++eG 5 c ls sum s ((0:Int)+(j:Int)) i).length)]) (fun i=>c.toNat-i) 0 ⟨aK,mixed,ak,dw,aQ⟩ (by rfl) (by omega) ?_ ?_
  ·repeat'((conv=>whnf);first|intro _|apply aI|with_reducible exact vM rfl|exact⟨⟩|apply nM|apply fM)
   all_goals((try apply vM);(try simp only[vq]at*);try omega)
   all_goals(try(rw[show eG 5 c ls sum s ((0:Int)+(j:Int)) 0=[]from rfl,agN]))
  intro i hi;have hbi:=hbl ((0:Int)+(j:Int)) i (by omega)
  by_cases hli:i<c.toNat
  case neg=>
   have e:i=c.toNat:=by omega
   subst e
   repeat'((conv=>whnf);first|(intro hq;(try simp only[vw]at hq);try first|exact absurd hq (by decide)|exfalso;omega)|apply aI|with_reducible exact vM rfl|exact⟨⟩|apply nM|apply fM)
   all_goals((try apply vM);(try simp only[vq]at*);try omega)
   all_goals(try omega)
   refine⟨j+1,[],⟨by omega,by omega⟩,?_⟩
   rw[hsj]
   repeat'((conv=>whnf);first|intro _|apply aI|with_reducible exact vM rfl|exact⟨⟩|apply nM|apply fM)
   all_goals((try apply vM);(try simp only[vq]at*);try omega)
  have hsi:=ahr (g:=5) (c:=c) (ls:=ls) (sum:=sum) (s:=s) (k:=(0:Int)+(j:Int)) (i:=i);obtain⟨R,hR⟩:∃R,eG 5 c ls sum s ((0:Int)+(j:Int)) i=R:=⟨_,rfl⟩;rw[hR]at hbi hsi⊢
  repeat'((conv=>whnf);first|(intro hq;(try simp only[vw]at hq);try first|exact absurd hq (by decide)|exfalso;omega)|apply aI|with_reducible exact vM rfl|exact⟨⟩|apply nM|apply fM)
  all_goals((try apply vM);(try simp only[vq]at*);try omega)
  all_goals(try omega)
  conv=>whnf
  refine aM (X:=Nat) (fun t=>t≤c.toNat) (fun t=>[(12,.int .i64 ((t:Int)+1)),(7,.isl (.recs 4 ((A++R++dz 5 c ls sum s ((0:Int)+(j:Int)) i t).map ddC)) (.own 5))]) (fun t=>[(5,.tok 4 (A++R++dz 5 c ls sum s ((0:Int)+(j:Int)) i t).length)]) (fun t=>c.toNat-t) 0 ⟨aK,mixed,ak,dw,aQ⟩ (by rfl) (by omega) ?_ ?_
  ·repeat'((conv=>whnf);first|intro _|apply aI|with_reducible exact vM rfl|exact⟨⟩|apply nM|apply fM)
   all_goals((try apply vM);(try simp only[vq]at*);try omega)
   all_goals(try(rw[show dz 5 c ls sum s ((0:Int)+(j:Int)) i 0=[]from rfl,agN]))
  intro t ht;have hbt:=hbc ((0:Int)+(j:Int)) i t (by omega)
  by_cases hlt:t<c.toNat
  case neg=>
   have e:t=c.toNat:=by omega
   subst e
   repeat'((conv=>whnf);first|(intro hq;(try simp only[vw]at hq);try first|exact absurd hq (by decide)|exfalso;omega)|apply aI|with_reducible exact vM rfl|exact⟨⟩|apply nM|apply fM)
   all_goals((try apply vM);(try simp only[vq]at*);try omega)
   all_goals(try omega)
   refine⟨i+1,[],⟨by omega,by omega⟩,?_⟩
   rw[hsi,←ag5]
   repeat'((conv=>whnf);first|intro _|apply aI|with_reducible exact vM rfl|exact⟨⟩|apply nM|apply fM)
   all_goals((try apply vM);(try simp only[vq]at*);try omega)
  have hst:=aht (g:=5) (c:=c) (ls:=ls) (sum:=sum) (s:=s) (k:=(0:Int)+(j:Int)) (i:=i) (t:=t);have hlen:(A++R++dz 5 c ls sum s ((0:Int)+(j:Int)) i t).length≤40000:=by rw[afu,afu];omega
  obtain⟨C,hC⟩:∃C,dz 5 c ls sum s ((0:Int)+(j:Int)) i t=C:=⟨_,rfl⟩;rw[hC]at hst hlen⊢;have hgg:(aP (nmG 5)).toNat=5:=by rw[pV.2.2.2.2];rfl
  repeat'((conv=>whnf);first|(intro hq;(try simp only[vw]at hq);try first|exact absurd hq (by decide)|exfalso;omega)|apply aI|with_reducible exact vM rfl|exact⟨⟩|apply nM|apply fM)
  all_goals((try apply vM);(try simp only[vq]at*);try omega)
  all_goals(try omega)
  ·exact⟨h,l9.of hq⟩
  ·exact(af0 ..).symm
  ·rw[te40s];rfl
  ·rw[afu,af0,te40s]
   show(A++R++C).length+1≤_;omega
  ·rename_i hd
   have hk1:okX 5 c ls sum s ((0:Int)+(j:Int)) i ((t:Int)+1)=true:=by
    unfold okX;rw[decide_eq_true hd,agO,←hq,hgg]
   refine⟨t+1,[],⟨by omega,by omega⟩,?_⟩
   rw[hst,if_pos hk1,←ag5,af4,afu]
   repeat'((conv=>whnf);first|intro _|apply aI|with_reducible exact vM rfl|exact⟨⟩|apply nM|apply fM)
   all_goals((try apply vM);(try simp only[vq]at*);try omega)
   all_goals(rw[te40s];refine congrArg (CL.recs 4) ?_;rw[af4 (l₁:=A++R++C)];rfl)
  ·rename_i hd
   have hk1:okX 5 c ls sum s ((0:Int)+(j:Int)) i ((t:Int)+1)=false:=by
    unfold okX;rw[decide_eq_true hd,agO,←hq,hgg]
   refine⟨t+1,[],⟨by omega,by omega⟩,?_⟩
   rw[hst,hk1,if_neg (by simp),agN]
   repeat'((conv=>whnf);first|intro _|apply aI|with_reducible exact vM rfl|exact⟨⟩|apply nM|apply fM)
   all_goals((try apply vM);(try simp only[vq]at*);try omega)
  ·have hk1:okX 5 c ls sum s ((0:Int)+(j:Int)) i ((t:Int)+1)=false:=by
    unfold okX;rw[decide_eq_false hq,agn]
   refine⟨t+1,[],⟨by omega,by omega⟩,?_⟩
   rw[hst,hk1,if_neg (by simp),agN]
   repeat'((conv=>whnf);first|intro _|apply aI|with_reducible exact vM rfl|exact⟨⟩|apply nM|apply fM)
   all_goals((try apply vM);(try simp only[vq]at*);try omega)
def ain:PSp:=fun xs K=>match xs with
 | [.agg [.int .i64 c,.isl (.rows .i64 ls) .none,.int .i64 sum,.isl (.ints .i64 gv) .none],.agg [.isl (.rows .i64 CS) .none,.isl (.bools DS) .none],.str r]=>
  ∃(g:Nat) (l:List Dd),VC (r=nmG g∧(1≤g∧g≤5)∧bH ls∧bO c ls sum ⟨CS,DS⟩∧gH g ⟨CS,DS⟩ sum ls=l)∧K (.isl (dlC l) .none)
 |_=>False
theorem aiR:POK Tryz.prog 71 ain:=by
 intro xs K hk;unfold ain at hk;split at hk
 ·obtain⟨g,l,⟨rfl,hg,hL,h,rfl⟩,hk⟩:=hk
  exact⟨_,hk,ahS _ _ _ _ ⟨_,_⟩ hL h g hg⟩
 ·exact hk.elim
noncomputable def ai5:CPT:=aA 71 (aB ain) (aA 77 (aB ahP) noC)
theorem aia:aW Tryz.prog ai5:=aj (au aiR) (aj (au ait) aD)
theorem ah7 (c:Int) (ls:List (List Int)) (sum:Int) (gv:List Int) (s:St) (hL:bH ls) (h:bO c ls sum s) (n:Nat) (hn:n≤5):aF Tryz.prog 28 [pzV c ls sum gv,stV s,.int .i64 (n:Int)] (aaY (iH s sum ls n)):=by
 have te40s:E8.size=4:=by rfl
 refine av (md:=1) (rf:=[]) mixed ak aia Tryz.func28 (by rfl) (by rfl) (by rfl) ?_
 repeat'((conv=>whnf);first|(intro hq;(try simp only[vw]at hq);try first|exact absurd hq (by decide)|exfalso;omega)|apply aI|with_reducible exact vM rfl|exact⟨⟩|apply nM|apply fM)
 all_goals((try apply vM);(try simp only[vq]at*);try omega)
 conv=>whnf
 refine aM (X:=Nat) (fun i=>i≤n∧iH s sum ls i=none) (fun i=>[(8,.int .i64 ((i:Int)+1))]) (fun i=>[]) (fun i=>n-i) 0 ⟨aK,mixed,ak,aia,aQ⟩ (by rfl) ⟨by omega,rfl⟩ ?_ ?_
 ·repeat'((conv=>whnf);first|intro _|apply aI|with_reducible exact vM rfl|exact⟨⟩|apply nM|apply fM)
  all_goals((try apply vM);(try simp only[vq]at*);try omega)
 intro i ⟨hi,hok⟩;by_cases hlt:i<n
 ·obtain⟨i1,hi1⟩:∃i1:Nat,i1=i+1:=⟨_,rfl⟩
  have hgi:((i:Int)+1).toNat=i1:=by omega
  have hup:=fun d (hd:(gH (i+1) s sum ls).head? =some d)=>Ym hok hd n (by omega)
  have hno:gH (i+1) s sum ls=[]→iH s sum ls (i+1)=none:=fun hA=>by unfold iH;rw[hok,hA];rfl
  rw[←hi1]at hup hno;obtain⟨dl,hA⟩:∃dl,gH i1 s sum ls=dl:=⟨_,rfl⟩;rw[hA]at hup hno
  repeat'((conv=>whnf);first|apply Exists.intro (i1)|apply Exists.intro (dl)|(intro hq;(try simp only[vw]at hq);try first|exact absurd hq (by decide)|exfalso;omega)|apply aI|with_reducible exact vM rfl|exact⟨⟩|apply nM|apply fM)
  all_goals((try apply vM);(try simp only[vq]at*);try omega)
  all_goals(try first|omega|exact⟨by rw[hgi],⟨by omega,by omega⟩,hL,h,hA⟩)
  ·rfl
  ·cases dl with
   |nil=>exact absurd (show(0:Int)<0 from hq) (by decide)
   |cons d l=>
    rw[hup d rfl];exact Pw _ _
  ·refine⟨[],⟨⟨by omega,hno (ai7 (by omega))⟩,by omega⟩,?_⟩
   subst hi1
   repeat'((conv=>whnf);first|intro _|apply aI|with_reducible exact vM rfl|exact⟨⟩|apply nM|apply fM)
   all_goals((try apply vM);(try simp only[vq]at*);try omega)
 ·have:i=n:=by omega
  subst this;rw[hok]
  repeat'((conv=>whnf);first|(intro hq;(try simp only[vw]at hq);try first|exact absurd hq (by decide)|exfalso;omega)|apply aI|with_reducible exact vM rfl|exact⟨⟩|apply nM|apply fM)
  all_goals((try apply vM);(try simp only[vq]at*);try omega)
  exact Pw _ _
theorem ahN (l:List Dd) (hl:l.length≤1000000):aF Tryz.prog 34 [.isl (dlC l) .none,.isl (dlC l) .none] (.bp true):=by
 refine av (md:=1) (rf:=[]) mixed ak aD Tryz.func34 (by rfl) (by rfl) (by rfl) ?_
 repeat'((conv=>whnf);first|(intro hq;(try simp only[vw]at hq);try first|exact absurd hq (by decide)|exfalso;omega)|apply aI|with_reducible exact vM rfl|exact⟨⟩|apply nM|apply fM)
 all_goals((try apply vM);(try simp only[vq]at*);try omega)
 all_goals(try omega)
 conv=>whnf
 refine aM (X:=Nat) (fun i=>i≤l.length) (fun i=>[(5,.int .i64 i)]) (fun i=>[]) (fun i=>l.length-i) 0 ⟨aK,mixed,ak,aD,aQ⟩ (by rfl) (by omega) ?_ ?_
 ·repeat'((conv=>whnf);first|intro _|apply aI|with_reducible exact vM rfl|exact⟨⟩|apply nM|apply fM)
  all_goals((try apply vM);(try simp only[vq]at*);try omega)
 intro i hi;by_cases hlt:i<l.length
 ·repeat'((conv=>whnf);first|(intro hq;(try simp only[vw]at hq);try first|exact absurd hq (by decide)|exfalso;omega)|apply aI|with_reducible exact vM rfl|exact⟨⟩|apply nM|apply fM)
  all_goals((try apply vM);(try simp only[vq]at*);try omega)
  all_goals(try first|omega|rfl)
  refine⟨i+1,[],⟨by omega,by omega⟩,?_⟩
  repeat'((conv=>whnf);first|intro _|apply aI|with_reducible exact vM rfl|exact⟨⟩|apply nM|apply fM)
  all_goals((try apply vM);(try simp only[vq]at*);try omega)
 ·have:i=l.length:=by omega
  subst this
  repeat'((conv=>whnf);first|(intro hq;(try simp only[vw]at hq);try first|exact absurd hq (by decide)|exfalso;omega)|apply aI|with_reducible exact vM rfl|exact⟨⟩|apply nM|apply fM)
  all_goals((try apply vM);(try simp only[vq]at*);try omega)
  all_goals(try first|omega|exact dK true)
end Go.Eng.YtcechbdgokjmgaaGreatDoor
namespace Go.Eng.YtcechbdgokjmgaaGreatDoor
open Go.Proofs Go.RowKit
set_option linter.unusedSimpArgs false
set_option linter.unusedVariables false
set_option maxHeartbeats 0
set_option maxRecDepth 100000
def aiG (l:List Dd):PSp:=fun xs K=>match xs with
 | [.isl d .none,.isl (.ints .i64 []) .none]=>VC (d=dlC [])∧K (.bp true)
 | [.isl d .none,.isl (.genr 4 n f) .none]=>VC (l.length≤1000000∧d=dlC l∧.genr 4 n f=dlC l)∧K (.bp true)
 |_=>False
theorem aiZ (l:List Dd):POK Tryz.prog 34 (aiG l):=by
 intro xs K hk;unfold aiG at hk;split at hk
 ·obtain⟨⟨rfl⟩,hk⟩:=hk
  refine⟨_,hk,Nu (ahN [] (by decide)) rfl fun i hi=>?_⟩
  match i,hi with
  |0,_=>exact mg _
  |1,_=>exact⟨fun hr=>JZ hr rfl⟩
 ·obtain⟨⟨h1,rfl,h3⟩,hk⟩:=hk
  rw[h3];exact⟨_,hk,ahN l h1⟩
 ·exact hk.elim
end Go.Eng.YtcechbdgokjmgaaGreatDoor
namespace Go.Eng.YtcechbdgokjmgaaGreatDoor
open Go.Proofs
set_option linter.unusedSimpArgs false
set_option linter.unusedVariables false
set_option maxHeartbeats 0
set_option maxRecDepth 100000
theorem clD {b:Bool} (h:b=false) (h':b=true):False:=by rw[h]at h';cases h'
def csE (c:Int) (s:St):Int:=if(s.cs.length:Int)≠c∨(s.ds.length:Int)≠c then 2 else cO (fun i=>kL c (s.cd i) (s.dc i)) s.cs.length
theorem aiH (c:Int) (ls:List (List Int)) (sum:Int) (gv:List Int) (s:St) (h1:s.cs.length≤1000000∧s.ds.length≤1000000) (h2:∀i,i<s.cs.length→(s.cs.getD i []).length≤1000000):aF Tryz.prog 49 [pzV c ls sum gv,stV s] (.int .i64 (csE c s)):=by
 by_cases hl:(s.cs.length:Int)≠c∨(s.ds.length:Int)≠c
 ·have he:csE c s=2:=if_pos hl
  rw[he];refine av (md:=1) (rf:=[]) mixed ak aD Tryz.func49 (by rfl) (by rfl) (by rfl) ?_
  repeat'((conv=>whnf);first|(intro hq;(try simp only[vw]at hq);try first|exact absurd hq (by decide)|exfalso;omega)|apply aI|with_reducible exact vM rfl|exact⟨⟩|apply nM|apply fM)
  all_goals((try apply vM);(try simp only[vq]at*);try omega)
  all_goals(try first|omega|exact Sup.of rfl)
 have he:csE c s=cO (fun i=>kL c (s.cd i) (s.dc i)) s.cs.length:=if_neg hl;have e1:(s.cs.length:Int)=c:=by omega
 have e2:(s.ds.length:Int)=c:=by omega
 refine av (md:=1) (rf:=[]) mixed ak aD Tryz.func49 (by rfl) (by rfl) (by rfl) ?_
 repeat'((conv=>whnf);first|(intro hq;(try simp only[vw]at hq);try first|exact absurd hq (by decide)|exfalso;omega)|apply aI|with_reducible exact vM rfl|exact⟨⟩|apply nM|apply fM)
 all_goals((try apply vM);(try simp only[vq]at*);try omega)
 all_goals(try omega)
 conv=>whnf
 refine aM (X:=Nat) (fun i=>i≤s.cs.length∧∀j,j<i→kL c (s.cd j) (s.dc j)=0) (fun i=>[(6,.int .i64 i)]) (fun i=>[]) (fun i=>s.cs.length-i) 0 ⟨aK,mixed,ak,aD,aQ⟩ (by rfl) ⟨by omega,fun j hj=>by omega⟩ ?_ ?_
 ·repeat'((conv=>whnf);first|intro _|apply aI|with_reducible exact vM rfl|exact⟨⟩|apply nM|apply fM)
  all_goals((try apply vM);(try simp only[vq]at*);try omega)
 intro i ⟨hi,hok⟩;by_cases hlt:i<s.cs.length
 case neg=>
  have:i=s.cs.length:=by omega
  subst this;rw[he,fO hok]
  repeat'((conv=>whnf);first|(intro hq;(try simp only[vw]at hq);try first|exact absurd hq (by decide)|exfalso;omega)|apply aI|with_reducible exact vM rfl|exact⟨⟩|apply nM|apply fM)
  all_goals((try apply vM);(try simp only[vq]at*);try omega)
  all_goals(try first|omega|exact Sup.of rfl)
 have hll:=h2 i hlt;have fin:∀e,kL c (s.cd i) (s.dc i)=e→e≠0→csE c s=e:=fun e a1 a2=>by
  rw[he];exact(dY hlt (by rw[a1];exact a2) hok).trans a1
 have nxt:kL c (s.cd i) (s.dc i)=0→∀j,j<i+1→kL c (s.cd j) (s.dc j)=0:=fun a j hj=>by
  by_cases e:j=i
  ·subst e;exact a
  ·exact hok j (by omega)
 have hcd:s.cd i=s.cs.getD i []:=rfl;have hdc:s.dc i=s.ds.getD i false:=rfl;rw[hcd,hdc]at fin nxt;obtain⟨l,hL⟩:∃l,s.cs.getD i []=l:=⟨_,rfl⟩;rw[hL]at fin nxt hll
 repeat'((conv=>whnf);first|(intro hq;(try simp only[vw]at hq);try first|exact absurd hq (by decide)|exfalso;omega)|apply aI|with_reducible exact vM rfl|exact⟨⟩|apply nM|apply fM)
 all_goals((try apply vM);(try simp only[vq]at*);try omega)
 all_goals(try omega)
 conv=>whnf
 refine aM (X:=Nat) (fun k=>k≤l.length∧∀j,j<k→1≤l.getD j 0∧l.getD j 0≤c) (fun k=>[(7,.isl (.ints .i64 l) .none),(8,.int .i64 k)]) (fun k=>[]) (fun k=>l.length-k) 0 ⟨aK,mixed,ak,aD,aQ⟩ (by rfl) ⟨by omega,fun j hj=>by omega⟩ ?_ ?_
 ·repeat'((conv=>whnf);first|intro _|apply aI|with_reducible exact vM rfl|exact⟨⟩|apply nM|apply fM)
  all_goals((try apply vM);(try simp only[vq]at*);try omega)
  all_goals first|exact hL|exact hL.symm|(rw[hL];done)|skip
 intro k ⟨hk,hkr⟩;by_cases hkl:k<l.length
 ·have hno:(l.getD k 0<1∨c<l.getD k 0)→csE c s=3:=fun a=>by
   refine fin 3 ?_ (by decide)
   have:l.any (jI 1 c)=true:=agC.2 ⟨l.getD k 0,pW hkl,by
    unfold jI;rcases a with a|a
    ·rw[decide_eq_true a];rfl
    ·rw[decide_eq_true a,Bool.or_true]⟩
   unfold kL;rw[this];rfl
  repeat'((conv=>whnf);first|(intro hq;(try simp only[vw]at hq);try first|exact absurd hq (by decide)|exfalso;omega)|apply aI|with_reducible exact vM rfl|exact⟨⟩|apply nM|apply fM)
  all_goals((try apply vM);(try simp only[vq]at*);try omega)
  all_goals(try omega)
  ·rw[hno (.inr hq)];exact Sup.of rfl
  ·refine⟨k+1,[],⟨⟨by omega,fun j hj=>?_⟩,by omega⟩,?_⟩
   ·by_cases e:j=k
    ·subst e;omega
    ·exact hkr j (by omega)
   repeat'((conv=>whnf);first|intro _|apply aI|with_reducible exact vM rfl|exact⟨⟩|apply nM|apply fM)
   all_goals((try apply vM);(try simp only[vq]at*);try omega)
  ·rw[hno (.inl hq)];exact Sup.of rfl
 have ek:k=l.length:=by omega
 subst ek;have hany:l.any (jI 1 c)=false:=by
  rw[agD];intro x hx;obtain⟨j,hj,rfl⟩:=(iG l x).1 hx;have:=hkr j hj;unfold jI;rw[decide_eq_false (by omega),decide_eq_false (by omega)];simp
 repeat'((conv=>whnf);first|(intro hq;(try simp only[vw]at hq);try first|exact absurd hq (by decide)|exfalso;omega)|apply aI|with_reducible exact vM rfl|exact⟨⟩|apply nM|apply fM)
 all_goals((try apply vM);(try simp only[vq]at*);try omega)
 all_goals(try omega)
 conv=>whnf
 refine aM (X:=Nat) (fun k=>1≤k∧(k≤l.length∨k=1)∧upB l k=true) (fun k=>[(7,.isl (.ints .i64 l) .none),(9,.int .i64 k)]) (fun k=>[]) (fun k=>l.length+1-k) 1 ⟨aK,mixed,ak,aD,aQ⟩ (by rfl) ⟨by omega,.inr rfl,by simp[upB]⟩ ?_ ?_
 ·repeat'((conv=>whnf);first|intro _|apply aI|with_reducible exact vM rfl|exact⟨⟩|apply nM|apply fM)
  all_goals((try apply vM);(try simp only[vq]at*);try omega)
 intro k ⟨hk1,hk2,hku⟩;have hus:=Sn l k;rw[hku,agO]at hus;by_cases hkl:k<l.length
 ·have ekk:((k:Int)-1).toNat=k-1:=by omega
  repeat'((conv=>whnf);first|(intro hq;(try simp only[vw]at hq);try first|exact absurd hq (by decide)|exfalso;omega)|apply aI|with_reducible exact vM rfl|exact⟨⟩|apply nM|apply fM)
  all_goals((try apply vM);(try simp only[vq]at*);try omega)
  all_goals(try omega)
  ·rw[ekk]at hq
   have h11:upB l l.length=false:=by
    cases e:upB l l.length with
    |false=>rfl
    |true=>
     have:=afI.1 e k (afY.2 hkl);rw[decide_eq_true_eq]at this;omega
   rw[fin 11 (by unfold kL;rw[hany,h11];rfl) (by decide)]
   exact Sup.of rfl
  ·rw[ekk]at hq
   refine⟨k+1,[],⟨⟨by omega,.inl (by omega),by rw[hus];exact decide_eq_true (.inr (by omega))⟩,by omega⟩,?_⟩
   repeat'((conv=>whnf);first|intro _|apply aI|with_reducible exact vM rfl|exact⟨⟩|apply nM|apply fM)
   all_goals((try apply vM);(try simp only[vq]at*);try omega)
 have hup:upB l l.length=true:=by
  by_cases e:k=l.length
  ·rw[←e];exact hku
  ·have:l.length=0:=by omega
   rw[this];rfl
 cases hd:s.ds.getD i false with
 |false=>
  have c0:kL c l false=0:=by unfold kL;rw[hany,hup];rfl
  rw[hd]at nxt
  repeat'((conv=>whnf);first|(intro hq;(try simp only[vw]at hq);try first|exact absurd hq (by decide)|exfalso;omega)|apply aI|with_reducible exact vM rfl|exact⟨⟩|apply nM|apply fM)
  all_goals((try apply vM);(try simp only[vq]at*);try omega)
  all_goals(try omega)
  all_goals(try(exfalso;refine clD hd ?_;assumption))
  refine⟨i+1,[],⟨⟨by omega,nxt c0⟩,by omega⟩,?_⟩
  repeat'((conv=>whnf);first|intro _|apply aI|with_reducible exact vM rfl|exact⟨⟩|apply nM|apply fM)
  all_goals((try apply vM);(try simp only[vq]at*);try omega)
 |true=>
  rw[hd]at nxt fin;by_cases hl1:l.length=1
  ·have c0:kL c l true=0:=by unfold kL;rw[hany,hup,decide_eq_false (fun e=>e hl1)];rfl
   repeat'((conv=>whnf);first|(intro hq;(try simp only[vw]at hq);try first|exact absurd hq (by decide)|exfalso;omega)|apply aI|with_reducible exact vM rfl|exact⟨⟩|apply nM|apply fM)
   all_goals((try apply vM);(try simp only[vq]at*);try omega)
   all_goals(try omega)
   all_goals(try(exfalso;refine clD ?_ hd;assumption))
   refine⟨i+1,[],⟨⟨by omega,nxt c0⟩,by omega⟩,?_⟩
   repeat'((conv=>whnf);first|intro _|apply aI|with_reducible exact vM rfl|exact⟨⟩|apply nM|apply fM)
   all_goals((try apply vM);(try simp only[vq]at*);try omega)
  ·have c0:kL c l true=29:=by unfold kL;rw[hany,hup,decide_eq_true hl1];rfl
   repeat'((conv=>whnf);first|(intro hq;(try simp only[vw]at hq);try first|exact absurd hq (by decide)|exfalso;omega)|apply aI|with_reducible exact vM rfl|exact⟨⟩|apply nM|apply fM)
   all_goals((try apply vM);(try simp only[vq]at*);try omega)
   all_goals(try omega)
   all_goals(try(exfalso;refine clD ?_ hd;assumption))
   rw[fin 29 c0 (by decide)]
   exact Sup.of rfl
def aiI:PSp:=fun xs K=>match xs with
 | [.agg [.int .i64 c,.isl (.rows .i64 ls) .none,.int .i64 sum,.isl (.ints .i64 gv) .none],.agg [.isl (.rows .i64 CS) .none,.isl (.bools DS) .none]]=>VC ((CS.length≤1000000∧DS.length≤1000000)∧∀i,i<CS.length→(CS.getD i []).length≤1000000)∧K (.int .i64 (csE c ⟨CS,DS⟩))
 |_=>False
theorem ai0:POK Tryz.prog 49 aiI:=by
 intro xs K h;unfold aiI at h;split at h
 ·exact⟨_,h.2,aiH _ _ _ _ ⟨_,_⟩ h.1.get.1 h.1.get.2⟩
 ·exact h.elim
def aho (s:St):Bool:=!(decide ((s.cs.length:Int)≤20)&&(decide ((s.ds.length:Int)≤20)&&s.cs.all fun l=>decide ((l.length:Int)≤20)))
theorem aiw {s:St} (h:aho s=false):s.cs.length≤20∧s.ds.length≤20∧∀i,(s.cs.getD i []).length≤20:=by
 unfold aho at h;simp only[Bool.not_eq_false',aeA,decide_eq_true_eq,afI]at h;refine⟨by omega,by omega,fun i=>?_⟩
 by_cases hi:i<s.cs.length
 ·have:=h.2.2 _ (pW (d:=([]:List Int)) hi);omega
 ·rw[aeo,List.getElem?_eq_none (by omega)];simp
theorem aix (s:St) (h:s.cs.length≤9223372036854775807):aF Tryz.prog 66 [stV s] (.bp (aho s)):=by
 have yes:aho s=true→Sup (bF [PV.bool true]) (.bp (aho s)):=fun e=>by rw[e];exact dK true
 by_cases h1:(s.cs.length:Int)≤20∧(s.ds.length:Int)≤20
 case neg=>
  have e:aho s=true:=by
   unfold aho;by_cases a:(s.cs.length:Int)≤20
   ·rw[decide_eq_false (fun b:(s.ds.length:Int)≤20=>h1 ⟨a,b⟩),agn,agR];rfl
   ·rw[decide_eq_false a,agn];rfl
  refine av (md:=1) (rf:=[]) mixed ak aD Tryz.func66 (by rfl) (by rfl) (by rfl) ?_
  repeat'((conv=>whnf);first|(intro hq;(try simp only[vw]at hq);try first|exact absurd hq (by decide)|exfalso;omega)|apply aI|with_reducible exact vM rfl|exact⟨⟩|apply nM|apply fM)
  all_goals((try apply vM);(try simp only[vq]at*);try omega)
  all_goals first|omega|exact yes e|skip
 refine av (md:=1) (rf:=[]) mixed ak aD Tryz.func66 (by rfl) (by rfl) (by rfl) ?_
 repeat'((conv=>whnf);first|(intro hq;(try simp only[vw]at hq);try first|exact absurd hq (by decide)|exfalso;omega)|apply aI|with_reducible exact vM rfl|exact⟨⟩|apply nM|apply fM)
 all_goals((try apply vM);(try simp only[vq]at*);try omega)
 all_goals(try omega)
 conv=>whnf
 refine aM (X:=Nat) (fun i=>i≤s.cs.length∧∀j,j<i→((s.cs.getD j []).length:Int)≤20) (fun i=>[(3,.int .i64 i)]) (fun i=>[]) (fun i=>s.cs.length-i) 0 ⟨aK,mixed,ak,aD,aQ⟩ (by rfl) ⟨by omega,fun j hj=>by omega⟩ ?_ ?_
 ·repeat'((conv=>whnf);first|intro _|apply aI|with_reducible exact vM rfl|exact⟨⟩|apply nM|apply fM)
  all_goals((try apply vM);(try simp only[vq]at*);try omega)
 intro i ⟨hi,hok⟩;by_cases hlt:i<s.cs.length
 ·repeat'((conv=>whnf);first|(intro hq;(try simp only[vw]at hq);try first|exact absurd hq (by decide)|exfalso;omega)|apply aI|with_reducible exact vM rfl|exact⟨⟩|apply nM|apply fM)
  all_goals((try apply vM);(try simp only[vq]at*);try omega)
  all_goals(try omega)
  ·refine yes ?_
   unfold aho;rw[ahh.2 ⟨_,pW (d:=([]:List Int)) hlt,by rw[decide_eq_false (by omega)];simp⟩,agR,agR];rfl
  ·refine⟨i+1,[],⟨⟨by omega,fun j hj=>?_⟩,by omega⟩,?_⟩
   ·by_cases e:j=i
    ·subst e;omega
    ·exact hok j (by omega)
   repeat'((conv=>whnf);first|intro _|apply aI|with_reducible exact vM rfl|exact⟨⟩|apply nM|apply fM)
   all_goals((try apply vM);(try simp only[vq]at*);try omega)
 have e:i=s.cs.length:=by omega
 subst e;have e:aho s=false:=by
  unfold aho;rw[decide_eq_true h1.1,decide_eq_true h1.2,agO,agO,afI.2];rfl;intro l hl;obtain⟨j,hj,rfl⟩:=List.getElem_of_mem hl;have:=hok j hj;rw[aeo,List.getElem?_eq_getElem hj]at this;exact decide_eq_true this
 rw[e]
 repeat'((conv=>whnf);first|(intro hq;(try simp only[vw]at hq);try first|exact absurd hq (by decide)|exfalso;omega)|apply aI|with_reducible exact vM rfl|exact⟨⟩|apply nM|apply fM)
 all_goals((try apply vM);(try simp only[vq]at*);try omega)
 all_goals first|omega|exact dK false
def aio:PSp:=fun xs K=>match xs with
 | [.agg [.isl (.rows .i64 CS) .none,.isl (.bools DS) .none]]=>VC (CS.length≤9223372036854775807)∧K (.bp (aho ⟨CS,DS⟩))
 |_=>False
theorem aiS:POK Tryz.prog 66 aio:=by
 intro xs K h;unfold aio at h;split at h
 ·exact⟨_,h.2,aix ⟨_,_⟩ h.1.get⟩
 ·exact h.elim
noncomputable def ai6:CPT:=aA 18 (aB ME) (aA 19 (aB Tz) (aA 24 (aB abD) (aA 49 (aB aiI) noC)))
theorem aib:aW Tryz.prog ai6:=aj (au Px) (aj (au abC) (aj (au adT) (aj (au ai0) aD)))
theorem aiT {c:Int} {ls:List (List Int)} {sum:Int} {gv:List Int} {s:St} (h:pzE c ls sum gv=0):dx c ls sum gv s=csE c s:=by
 by_cases hl:(s.cs.length:Int)≠c∨(s.ds.length:Int)≠c
 ·have e:aG [pzE c ls sum gv,2]=2:=by rw[h];rfl
  rw[PW (x:=2) (by rw[e];simp) (by rw[if_pos hl]),e]
  exact(if_pos hl).symm
 ·rw[JM (by omega) (by omega) h]
  exact(if_neg hl).symm
theorem ah3 (c:Int) (ls:List (List Int)) (sum:Int) (gv:List Int) (s:St) (h:bH ls) (hg:gv.length≤5000) (hs:aho s=false):aF Tryz.prog 69 [pzV c ls sum gv,stV s] (.int .i64 (dx c ls sum gv s)):=by
 obtain⟨h1,h2,h3⟩:=aiw hs;by_cases he:pzE c ls sum gv=0
 ·rw[aiT he]
  refine av (md:=1) (rf:=[]) mixed ak aib Tryz.func69 (by rfl) (by rfl) (by rfl) ?_
  repeat'((conv=>whnf);first|(intro hq;(try simp only[vw]at hq);try first|exact absurd hq (by decide)|exfalso;omega)|apply aI|with_reducible exact vM rfl|exact⟨⟩|apply nM|apply fM)
  all_goals((try apply vM);(try simp only[vq]at*);try omega)
  all_goals first|omega|exact⟨h,hg⟩|exact⟨⟨by omega,by omega⟩,fun i _=>by have:=h3 i;omega⟩|exact Sup.of rfl|(exfalso;exact hq he)|skip
 ·have:dx c ls sum gv s=pzE c ls sum gv:=by
   have:aG [pzE c ls sum gv,if(s.cs.length:Int)≠c∨(s.ds.length:Int)≠c then 2 else 0]=pzE c ls sum gv:=by simp[aG,he]
   rw[PW _ (by rw[this];exact he) rfl,this]
  rw[this];refine av (md:=1) (rf:=[]) mixed ak aib Tryz.func69 (by rfl) (by rfl) (by rfl) ?_
  repeat'((conv=>whnf);first|(intro hq;(try simp only[vw]at hq);try first|exact absurd hq (by decide)|exfalso;omega)|apply aI|with_reducible exact vM rfl|exact⟨⟩|apply nM|apply fM)
  all_goals((try apply vM);(try simp only[vq]at*);try omega)
  all_goals first|omega|exact⟨h,hg⟩|exact⟨⟨by omega,by omega⟩,fun i _=>by have:=h3 i;omega⟩|exact Sup.of rfl|(exfalso;exact he hq)|skip
end Go.Eng.YtcechbdgokjmgaaGreatDoor
namespace Go.Eng.YtcechbdgokjmgaaGreatDoor
open Go.Proofs Go.RowKit
set_option linter.unusedSimpArgs false
set_option linter.unusedVariables false
set_option maxHeartbeats 0
set_option maxRecDepth 100000
def aiJ:PSp:=fun xs K=>match xs with
 | [.agg [.int .i64 c,.isl (.rows .i64 ls) .none,.int .i64 sum,.isl (.ints .i64 gv) .none],.agg [.isl (.rows .i64 CS) .none,.isl (.bools DS) .none],.str r]=>VC (bH ls∧gv.length≤5000∧StS ⟨CS,DS⟩)∧K (.tup [.isl (dlC (SC c ls sum gv ⟨CS,DS⟩ r).1) .none,.int .i64 (SC c ls sum gv ⟨CS,DS⟩ r).2])
 |_=>False
theorem ai1:POK Tryz.prog 67 aiJ:=by
 intro xs K h;unfold aiJ at h;split at h
 ·exact⟨_,h.2,adl _ _ _ _ ⟨_,_⟩ h.1.get.1 h.1.get.2.1 h.1.get.2.2 _⟩
 ·exact h.elim
def aip:PSp:=fun xs K=>match xs with
 | [.agg [.int .i64 c,.isl (.rows .i64 ls) .none,.int .i64 sum,.isl (.ints .i64 gv) .none],.agg [.isl (.rows .i64 CS) .none,.isl (.bools DS) .none],.int .i64 g]=>VC (bH ls∧gv.length≤5000∧StS ⟨CS,DS⟩)∧K (.tup [ddO (SE c ls sum gv ⟨CS,DS⟩ g).1,.int .i64 (SE c ls sum gv ⟨CS,DS⟩ g).2])
 |_=>False
theorem aiU:POK Tryz.prog 68 aip:=by
 intro xs K h;unfold aip at h;split at h
 ·exact⟨_,h.2,abZ _ _ _ _ ⟨_,_⟩ h.1.get.1 h.1.get.2.1 h.1.get.2.2 _⟩
 ·exact h.elim
def aiq:PSp:=fun xs K=>match xs with
 | [.agg [.int .i64 c,.isl (.rows .i64 ls) .none,.int .i64 sum,.isl (.ints .i64 gv) .none],.agg [.isl (.rows .i64 CS) .none,.isl (.bools DS) .none]]=>VC (bH ls∧gv.length≤5000∧aho ⟨CS,DS⟩=false)∧K (.int .i64 (dx c ls sum gv ⟨CS,DS⟩))
 |_=>False
theorem aiV:POK Tryz.prog 69 aiq:=by
 intro xs K h;unfold aiq at h;split at h
 ·exact⟨_,h.2,ah3 _ _ _ _ ⟨_,_⟩ h.1.get.1 h.1.get.2.1 h.1.get.2.2⟩
 ·exact h.elim
def ah4 (g:Nat):PSp:=fun xs K=>match xs with
 | [.agg [.int .i64 c,.isl (.rows .i64 ls) .none,.int .i64 sum,.isl (.ints .i64 gv) .none],.agg [.isl (.rows .i64 CS) .none,.isl (.bools DS) .none],.str r]=>
  VC (r=nmG g∧(1≤g∧g≤5)∧bH ls∧bO c ls sum ⟨CS,DS⟩)∧K (.isl (dlC (gH g ⟨CS,DS⟩ sum ls)) .none)
 |_=>False
theorem aiK (g:Nat):POK Tryz.prog 71 (ah4 g):=by
 intro xs K hk;unfold ah4 at hk;split at hk
 ·obtain⟨⟨rfl,hg,hL,h⟩,hk⟩:=hk
  exact⟨_,hk,ahS _ _ _ _ ⟨_,_⟩ hL h g hg⟩
 ·exact hk.elim
def ah5:PSp:=fun xs K=>match xs with
 | [.agg [.int .i64 c,.isl (.rows .i64 ls) .none,.int .i64 sum,.isl (.ints .i64 gv) .none],.agg [.isl (.rows .i64 CS) .none,.isl (.bools DS) .none],.int .i64 m]=>VC ((0≤m∧m≤5)∧bH ls∧bO c ls sum ⟨CS,DS⟩)∧K (aaY (iH ⟨CS,DS⟩ sum ls m.toNat))
 |_=>False
theorem aiL:POK Tryz.prog 28 ah5:=by
 intro xs K hk;unfold ah5 at hk;split at hk
 ·rename_i c ls sum gv CS DS m
  obtain⟨⟨hm,h1,h2⟩,hk⟩:=hk;refine⟨_,hk,?_⟩;have:=ah7 c ls sum gv ⟨CS,DS⟩ h1 h2 m.toNat (by omega)
  rwa [show((m.toNat:Nat):Int)=m by omega]at this
 ·exact hk.elim
theorem aiW {s:St} (h:aho s=false):StS s:=by
 obtain⟨h1,h2,h3⟩:=aiw h;exact⟨by omega,by omega,fun i=>by have:=h3 i;unfold St.cd;omega⟩
theorem aiX {r:ByteArray} (h:aP r≠0):r=nmG (aP r).toNat∧1≤(aP r).toNat∧(aP r).toNat≤5:=by
 rcases l8 r with⟨h1,h2⟩|⟨h1,h2⟩|⟨h1,h2⟩|⟨h1,h2⟩|⟨h1,h2⟩|h2
 ·rw[h2];exact⟨h1,by decide,by decide⟩
 ·rw[h2];exact⟨h1,by decide,by decide⟩
 ·rw[h2];exact⟨h1,by decide,by decide⟩
 ·rw[h2];exact⟨h1,by decide,by decide⟩
 ·rw[h2];exact⟨h1,by decide,by decide⟩
 ·exact absurd h2 h
noncomputable def ahs (b1 b2:Bool) (w gi:Int) (g:Nat) (l:List Dd) (e:Int) (o:Option Dd) (f:Int) (p:Option Dd):CPT:=aA 16 (aB (aco Qw (.bool b1))) (aA 17 (aB Qs) (aA 19 (aB Tz) (aA 24 (aB abD) (aA 28 (aB (aco ah5 (aaY p))) (aA 34 (aB (aiG l)) (aA 66 (aB (aco aio (.bool b2))) (aA 67 (aB (aco aiJ (.tup [.isl (dlC l) .none,.int .i64 e]))) (aA 68 (aB (aco aip (.tup [ddO o,.int .i64 f]))) (aA 69 (aB (aco aiq (.int .i64 w))) (aA 70 (aB (aco ahO (.int .i64 gi))) (aA 71 (aB (aco (ah4 g) (.isl (dlC l) .none))) noC)))))))))))
theorem TS (b1 b2:Bool) (w gi:Int) (g:Nat) (l:List Dd) (e:Int) (o:Option Dd) (f:Int) (p:Option Dd):aW Tryz.prog (ahs b1 b2 w gi g l e o f p):=aj (au (adQ adJ (.bool b1))) (aj (au adE) (aj (au abC) (aj (au adT) (aj (au (adQ aiL (aaY p))) (aj (au (aiZ l)) (aj (au (adQ aiS (.bool b2))) (aj (au (adQ ai1 (.tup [.isl (dlC l) .none,.int .i64 e]))) (aj (au (adQ aiU (.tup [ddO o,.int .i64 f]))) (aj (au (adQ aiV (.int .i64 w))) (aj (au (adQ ais (.int .i64 gi))) (aj (au (adQ (aiK g) (.isl (dlC l) .none))) aD)))))))))))
theorem ahR (c:Int) (ls:List (List Int)) (sum:Int) (gv:List Int) (s:St) (r:ByteArray) (x:Int) (hm:s.cs.length≤9223372036854775807):aF Tryz.prog 11 [pzV c ls sum gv,stV s,.agg [.str r,.int .i64 x]] (.bp true):=by
 by_cases hg:TI c ls sum gv=true
 ·have hC:=TS true false 0 0 1 [] 0 none 0 none
  refine eD (md:=1) (rf:=[]) mixed ak hC Tryz.func11 (by rfl) (by rfl) (by rfl) ?_
  unfold ahs
  repeat'((conv=>whnf);first|(intro hq;(try simp only[vw]at hq);try first|exact absurd hq (by decide)|exfalso;omega)|apply aI|with_reducible exact vM rfl|exact⟨⟩|apply nM|apply fM)
  all_goals((try apply vM);(try simp only[vq]at*);try omega)
  all_goals first|exact adU hg|exact mg _|omega
 have hg:TI c ls sum gv=false:=by simpa using hg
 by_cases hlo:aho s=true
 ·have hC:=TS false true 0 0 1 [] 0 none 0 none
  refine eD (md:=1) (rf:=[]) mixed ak hC Tryz.func11 (by rfl) (by rfl) (by rfl) ?_
  unfold ahs
  repeat'((conv=>whnf);first|(intro hq;(try simp only[vw]at hq);try first|exact absurd hq (by decide)|exfalso;omega)|apply aI|with_reducible exact vM rfl|exact⟨⟩|apply nM|apply fM)
  all_goals((try apply vM);(try simp only[vq]at*);try omega)
  all_goals first|exact adU hg|exact mg _|exact adU hlo|exact hm|omega
 have hlo:aho s=false:=by simpa using hlo
 by_cases h20:20<(r.size:Int)
 ·have hC:=TS false false 0 0 1 [] 0 none 0 none
  refine eD (md:=1) (rf:=[]) mixed ak hC Tryz.func11 (by rfl) (by rfl) (by rfl) ?_
  unfold ahs
  repeat'((conv=>whnf);first|(intro hq;(try simp only[vw]at hq);try first|exact absurd hq (by decide)|exfalso;omega)|apply aI|with_reducible exact vM rfl|exact⟨⟩|apply nM|apply fM)
  all_goals((try apply vM);(try simp only[vq]at*);try omega)
  all_goals first|exact adU hg|exact mg _|exact adU hlo|exact hm|omega
 have hsh:vF ls gv=true:=by unfold TI at hg;cases h:vF ls gv<;>simp[h]at hg⊢
 obtain⟨hL,hgl⟩:=YO hsh;have hsts:=aiW hlo;obtain⟨w,he⟩:∃w,dx c ls sum gv s=w:=⟨_,rfl⟩;by_cases hw:w=0
 case neg=>
  have h1:PV.tup [.isl (dlC (SC c ls sum gv s r).1) .none,.int .i64 (SC c ls sum gv s r).2]=.tup [.isl (dlC []) .none,.int .i64 w]:=by
   unfold SC;rw[he,if_pos hw]
  have h2:PV.tup [ddO (SE c ls sum gv s x).1,.int .i64 (SE c ls sum gv s x).2]=.tup [ddO none,.int .i64 w]:=by
   have:aG [dx c ls sum gv s,fH x]=w:=by rw[he];simp[aG,hw]
   unfold SE;rw[this,if_pos hw]
  have hC:=TS false false w 0 1 [] w none w none;refine eD (md:=1) (rf:=[]) mixed ak hC Tryz.func11 (by rfl) (by rfl) (by rfl) ?_
  unfold ahs
  repeat'((conv=>whnf);first|(intro hq;(try simp only[vw]at hq);try first|exact absurd hq (by decide)|exfalso;omega)|apply aI|with_reducible exact vM rfl|exact⟨⟩|apply nM|apply fM)
  all_goals((try apply vM);(try simp only[vq]at*);try omega)
  all_goals(try first|exact adU hg|exact mg _|exact adU hlo|exact hm|exact adV he|exact adV hgi|exact⟨hL,by omega,hsts⟩|exact⟨hL,by omega,hlo⟩|(rw[h1];exact mg _)|(rw[h2];exact mg _)|exact⟨hnm,⟨by omega,by omega⟩,hL,hB⟩|exact⟨⟨by omega,by omega⟩,hL,hB⟩|(rw[ho];exact mg _)|(rw[hAl];exact mg _)|exact⟨hll,rfl,rfl⟩|exact⟨rfl,rfl⟩|rfl|omega)
 subst hw;obtain⟨hp,hB⟩:=kM he;have hf0:aG [dx c ls sum gv s,fH x]=fH x:=by rw[he];by_cases e:fH x=0<;>simp[aG,e]
 obtain⟨gi,hgi⟩:∃gi,aP r=gi:=⟨_,rfl⟩;by_cases hg0:gi=0
 ·subst hg0
  have h1:PV.tup [.isl (dlC (SC c ls sum gv s r).1) .none,.int .i64 (SC c ls sum gv s r).2]=.tup [.isl (dlC []) .none,.int .i64 13]:=by
   unfold SC;rw[he,if_neg (by simp),hgi,if_pos rfl]
  by_cases hx:1≤x∧x≤5
  ·have hx0:fH x=0:=by unfold fH;rw[if_neg (by omega)]
   cases ho:iH s sum ls x.toNat with
   |none=>
    have h2:PV.tup [ddO (SE c ls sum gv s x).1,.int .i64 (SE c ls sum gv s x).2]=.tup [ddO none,.int .i64 23]:=by
     unfold SE;rw[hf0,hx0,if_neg (by simp),ho]
    have hC:=TS false false 0 0 1 [] 13 none 23 none;refine eD (md:=1) (rf:=[]) mixed ak hC Tryz.func11 (by rfl) (by rfl) (by rfl) ?_
    unfold ahs
    repeat'((conv=>whnf);first|(intro hq;(try simp only[vw]at hq);try first|exact absurd hq (by decide)|exfalso;omega)|apply aI|with_reducible exact vM rfl|exact⟨⟩|apply nM|apply fM)
    all_goals((try apply vM);(try simp only[vq]at*);try omega)
    all_goals(try first|exact adU hg|exact mg _|exact adU hlo|exact hm|exact adV he|exact adV hgi|exact⟨hL,by omega,hsts⟩|exact⟨hL,by omega,hlo⟩|(rw[h1];exact mg _)|(rw[h2];exact mg _)|exact⟨hnm,⟨by omega,by omega⟩,hL,hB⟩|exact⟨⟨by omega,by omega⟩,hL,hB⟩|(rw[ho];exact mg _)|(rw[hAl];exact mg _)|exact⟨hll,rfl,rfl⟩|exact⟨rfl,rfl⟩|rfl|omega)
   |some d=>
    have h2:PV.tup [ddO (SE c ls sum gv s x).1,.int .i64 (SE c ls sum gv s x).2]=.tup [ddO (some d),.int .i64 0]:=by
     unfold SE;rw[hf0,hx0,if_neg (by simp),ho]
    have hC:=TS false false 0 0 1 [] 13 (some d) 0 (some d);refine eD (md:=1) (rf:=[]) mixed ak hC Tryz.func11 (by rfl) (by rfl) (by rfl) ?_
    unfold ahs
    repeat'((conv=>whnf);first|(intro hq;(try simp only[vw]at hq);try first|exact absurd hq (by decide)|exfalso;omega)|apply aI|with_reducible exact vM rfl|exact⟨⟩|apply nM|apply fM)
    all_goals((try apply vM);(try simp only[vq]at*);try omega)
    all_goals(try first|exact adU hg|exact mg _|exact adU hlo|exact hm|exact adV he|exact adV hgi|exact⟨hL,by omega,hsts⟩|exact⟨hL,by omega,hlo⟩|(rw[h1];exact mg _)|(rw[h2];exact mg _)|exact⟨hnm,⟨by omega,by omega⟩,hL,hB⟩|exact⟨⟨by omega,by omega⟩,hL,hB⟩|(rw[ho];exact mg _)|(rw[hAl];exact mg _)|exact⟨hll,rfl,rfl⟩|exact⟨rfl,rfl⟩|rfl|omega)
  ·have hx3:fH x=3:=by unfold fH;rw[if_pos (by omega)]
   have h2:PV.tup [ddO (SE c ls sum gv s x).1,.int .i64 (SE c ls sum gv s x).2]=.tup [ddO none,.int .i64 3]:=by
    unfold SE;rw[hf0,hx3,if_pos (by simp)]
   have hC:=TS false false 0 0 1 [] 13 none 3 none;refine eD (md:=1) (rf:=[]) mixed ak hC Tryz.func11 (by rfl) (by rfl) (by rfl) ?_
   unfold ahs
   repeat'((conv=>whnf);first|(intro hq;(try simp only[vw]at hq);try first|exact absurd hq (by decide)|exfalso;omega)|apply aI|with_reducible exact vM rfl|exact⟨⟩|apply nM|apply fM)
   all_goals((try apply vM);(try simp only[vq]at*);try omega)
   all_goals(try first|exact adU hg|exact mg _|exact adU hlo|exact hm|exact adV he|exact adV hgi|exact⟨hL,by omega,hsts⟩|exact⟨hL,by omega,hlo⟩|(rw[h1];exact mg _)|(rw[h2];exact mg _)|exact⟨hnm,⟨by omega,by omega⟩,hL,hB⟩|exact⟨⟨by omega,by omega⟩,hL,hB⟩|(rw[ho];exact mg _)|(rw[hAl];exact mg _)|exact⟨hll,rfl,rfl⟩|exact⟨rfl,rfl⟩|rfl|omega)
 ·obtain⟨hnm,hg1,hg5⟩:=aiX (by rw[hgi];exact hg0)
  rw[hgi]at hnm hg1 hg5;have h1:PV.tup [.isl (dlC (SC c ls sum gv s r).1) .none,.int .i64 (SC c ls sum gv s r).2]=.tup [.isl (dlC (gH gi.toNat s sum ls)) .none,.int .i64 0]:=by
   unfold SC;rw[he,if_neg (by simp),hgi,if_neg hg0]
  have hll:(gH gi.toNat s sum ls).length≤1000000:=by
   have:=Sz hB gi.toNat;omega
  by_cases hx:1≤x∧x≤5
  ·have hx0:fH x=0:=by unfold fH;rw[if_neg (by omega)]
   cases ho:iH s sum ls x.toNat with
   |none=>
    have h2:PV.tup [ddO (SE c ls sum gv s x).1,.int .i64 (SE c ls sum gv s x).2]=.tup [ddO none,.int .i64 23]:=by
     unfold SE;rw[hf0,hx0,if_neg (by simp),ho]
    have hC:=TS false false 0 gi gi.toNat (gH gi.toNat s sum ls) 0 none 23 none;refine eD (md:=1) (rf:=[]) mixed ak hC Tryz.func11 (by rfl) (by rfl) (by rfl) ?_
    unfold ahs
    repeat'((conv=>whnf);first|(intro hq;(try simp only[vw]at hq);try first|exact absurd hq (by decide)|exfalso;omega)|apply aI|with_reducible exact vM rfl|exact⟨⟩|apply nM|apply fM)
    all_goals((try apply vM);(try simp only[vq]at*);try omega)
    all_goals(try first|exact adU hg|exact mg _|exact adU hlo|exact hm|exact adV he|exact adV hgi|exact⟨hL,by omega,hsts⟩|exact⟨hL,by omega,hlo⟩|(rw[h1];exact mg _)|(rw[h2];exact mg _)|exact⟨hnm,⟨by omega,by omega⟩,hL,hB⟩|exact⟨⟨by omega,by omega⟩,hL,hB⟩|(rw[ho];exact mg _)|(rw[hAl];exact mg _)|exact⟨hll,rfl,rfl⟩|exact⟨rfl,rfl⟩|rfl|omega)
   |some d=>
    have h2:PV.tup [ddO (SE c ls sum gv s x).1,.int .i64 (SE c ls sum gv s x).2]=.tup [ddO (some d),.int .i64 0]:=by
     unfold SE;rw[hf0,hx0,if_neg (by simp),ho]
    have hC:=TS false false 0 gi gi.toNat (gH gi.toNat s sum ls) 0 (some d) 0 (some d);refine eD (md:=1) (rf:=[]) mixed ak hC Tryz.func11 (by rfl) (by rfl) (by rfl) ?_
    unfold ahs
    repeat'((conv=>whnf);first|(intro hq;(try simp only[vw]at hq);try first|exact absurd hq (by decide)|exfalso;omega)|apply aI|with_reducible exact vM rfl|exact⟨⟩|apply nM|apply fM)
    all_goals((try apply vM);(try simp only[vq]at*);try omega)
    all_goals(try first|exact adU hg|exact mg _|exact adU hlo|exact hm|exact adV he|exact adV hgi|exact⟨hL,by omega,hsts⟩|exact⟨hL,by omega,hlo⟩|(rw[h1];exact mg _)|(rw[h2];exact mg _)|exact⟨hnm,⟨by omega,by omega⟩,hL,hB⟩|exact⟨⟨by omega,by omega⟩,hL,hB⟩|(rw[ho];exact mg _)|(rw[hAl];exact mg _)|exact⟨hll,rfl,rfl⟩|exact⟨rfl,rfl⟩|rfl|omega)
  ·have hx3:fH x=3:=by unfold fH;rw[if_pos (by omega)]
   have h2:PV.tup [ddO (SE c ls sum gv s x).1,.int .i64 (SE c ls sum gv s x).2]=.tup [ddO none,.int .i64 3]:=by
    unfold SE;rw[hf0,hx3,if_pos (by simp)]
   have hC:=TS false false 0 gi gi.toNat (gH gi.toNat s sum ls) 0 none 3 none;refine eD (md:=1) (rf:=[]) mixed ak hC Tryz.func11 (by rfl) (by rfl) (by rfl) ?_
   unfold ahs
   repeat'((conv=>whnf);first|(intro hq;(try simp only[vw]at hq);try first|exact absurd hq (by decide)|exfalso;omega)|apply aI|with_reducible exact vM rfl|exact⟨⟩|apply nM|apply fM)
   all_goals((try apply vM);(try simp only[vq]at*);try omega)
   all_goals(try first|exact adU hg|exact mg _|exact adU hlo|exact hm|exact adV he|exact adV hgi|exact⟨hL,by omega,hsts⟩|exact⟨hL,by omega,hlo⟩|(rw[h1];exact mg _)|(rw[h2];exact mg _)|exact⟨hnm,⟨by omega,by omega⟩,hL,hB⟩|exact⟨⟨by omega,by omega⟩,hL,hB⟩|(rw[ho];exact mg _)|(rw[hAl];exact mg _)|exact⟨hll,rfl,rfl⟩|exact⟨rfl,rfl⟩|rfl|omega)
end Go.Eng.YtcechbdgokjmgaaGreatDoor
