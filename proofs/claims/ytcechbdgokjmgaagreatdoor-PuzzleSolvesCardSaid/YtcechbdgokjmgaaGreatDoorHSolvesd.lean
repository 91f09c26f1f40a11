/- Contracts of functions of the program: what each returns. Their conditions stand in them. -/
import Derived.Test.YtcechbdgokjmgaaGreatDoorHSolvesc
namespace Go.Eng.YtcechbdgokjmgaaGreatDoor
open Go.Proofs Go.RowKit
set_option linter.unusedSimpArgs false
set_option linter.unusedVariables false
set_option maxHeartbeats 0
set_option maxRecDepth 100000
def Vy:PSp:=fun xs K=>match xs with
 | [.agg [.int .i64 c,.isl (.rows .i64 ls) .none,.int .i64 sum,.isl (.ints .i64 gv) .none],.int .i64 g]=>VC (bG ls∧gv.length≤5000)∧K (nT (kI c ls sum gv g))
 |_=>False
theorem ac5:POK Tryz.prog 30 Vy:=by
 intro xs K h
 unfold Vy at h
 split at h
 ·exact⟨_,h.2,sW _ _ _ _ _ h.1.get.1 h.1.get.2⟩
 ·exact h.elim
def Vz:PSp:=fun xs K=>match xs with
 | [.agg [.int .i64 c,.isl (.rows .i64 ls) .none,.int .i64 sum,.isl (.ints .i64 gv) .none]]=>VC (bG ls∧gv.length≤5000)∧K (.tup [.int .i64 (dS c ls sum gv).1,.int .i64 (dS c ls sum gv).2.2])
 |_=>False
theorem ac6:POK Tryz.prog 31 Vz:=by
 intro xs K h
 unfold Vz at h
 split at h
 ·exact⟨_,h.2,zU _ _ _ _ h.1.get.1 h.1.get.2⟩
 ·exact h.elim
def VA:PSp:=fun xs K=>match xs with
 | [.agg [.int .i64 c,.isl (.rows .i64 ls) .none,.int .i64 sum,.isl (.ints .i64 gv) .none]]=>VC (bG ls∧gv.length≤5000)∧K (.tup [.isl (.ints .i64 (kJ c ls sum gv)) .none,.int .i64 (dS c ls sum gv).2.2])
 |_=>False
theorem ac7:POK Tryz.prog 32 VA:=by
 intro xs K h
 unfold VA at h
 split at h
 ·exact⟨_,h.2,zV _ _ _ _ h.1.get.1 h.1.get.2⟩
 ·exact h.elim
def VB:PSp:=fun xs K=>match xs with
 | [.agg [.int .i64 c,.isl (.rows .i64 ls) .none,.int .i64 sum,.isl (.ints .i64 gv) .none]]=>VC (bG ls∧dG c ls sum gv)∧K (.tup [.int .i64 (grO c ls sum gv).1,.int .i64 (grO c ls sum gv).2])
 |_=>False
theorem ac8:POK Tryz.prog 35 VB:=by
 intro xs K h
 unfold VB at h
 split at h
 ·exact⟨_,h.2,DU _ _ _ _ h.1.get.1 h.1.get.2⟩
 ·exact h.elim
def Ir (F:Int→List Dd × St × Int):PSp:=fun xs K=>match xs with
 | [.agg [.int .i64 c,.isl (.rows .i64 ls) .none,.int .i64 sum,.isl (.ints .i64 gv) .none],.int .i64 m]=>VC ((0≤m∧m≤5)∧bG ls∧dG c ls sum gv∧F m=gQ (sol c ls sum gv m.toNat))∧K (nT (F m))
 |_=>False
theorem VD (F:Int→List Dd × St × Int):POK Tryz.prog 33 (Ir F):=by
 intro xs K hk
 unfold Ir at hk
 split at hk
 ·rename_i c ls sum gv m
  obtain⟨⟨hn,h1,h2,h3⟩,hk⟩:=hk
  rw[h3]at hk
  refine⟨_,hk,?_⟩
  have:=xw c ls sum gv h1 h2 m.toNat (by omega)
  rwa [show((m.toNat:Nat):Int)=m by omega]at this
 ·exact hk.elim
def O5 (l:List Dd):PSp:=fun xs K=>match xs with
 | [.isl d .none]=>VC (d=dlC l∧l.length≤1000∧∀d∈l,1≤d.g∧d.g≤5)∧K (.isl (.ints .i64 (eD l)) .none)
 |_=>False
theorem aau (l:List Dd):POK Tryz.prog 37 (O5 l):=by
 intro xs K hk
 unfold O5 at hk
 split at hk
 ·obtain⟨⟨rfl,h1,h2⟩,hk⟩:=hk;exact⟨_,hk,JG l h1 h2⟩
 ·exact hk.elim
noncomputable def vT (b1 b2:Bool) (w:Int) (F:Int→List Dd × St × Int) (l0:List Dd) (r:List Dd × St × Int) (g e:Int) (sc:List Int) (al:List Dd):CPT:=aA 16 (aB (nk H8 (.bool b1))) (aA 17 (aB HZ) (aA 18 (aB (nk Gx (.int .i64 w))) (aA 19 (aB OI) (aA 23 (aB (nk Ve (.bool true))) (aA 24 (aB U8) (aA 29 (aB (nk Ew (.bool b2))) (aA 30 (aB (nk Vy (nT r))) (aA 31 (aB (nk Vz (.tup [.int .i64 g,.int .i64 e]))) (aA 32 (aB (nk VA (.tup [.isl (.ints .i64 sc) .none,.int .i64 e]))) (aA 33 (aB (Ir F)) (aA 34 (aB (Vx l0)) (aA 35 (aB (nk VB (.tup [.int .i64 g,.int .i64 e]))) (aA 36 (aB (nk lq (.bool true))) (aA 37 (aB (O5 al)) noC))))))))))))))
theorem mV (b1 b2:Bool) (w:Int) (F:Int→List Dd × St × Int) (l0:List Dd) (r:List Dd × St × Int) (g e:Int) (sc:List Int) (al:List Dd):aV Tryz.prog (vT b1 b2 w F l0 r g e sc al):=ak (au (kr Vd (.bool b1))) (ak (au U5) (ak (au (kr Gy (.int .i64 w))) (ak (au RD) (ak (au (kr ac2 (.bool true))) (ak (au ac0) (ak (au (kr KZ (.bool b2))) (ak (au (kr ac5 (nT r))) (ak (au (kr ac6 (.tup [.int .i64 g,.int .i64 e]))) (ak (au (kr ac7 (.tup [.isl (.ints .i64 sc) .none,.int .i64 e]))) (ak (au (VD F)) (ak (au (ac4 l0)) (ak (au (kr ac8 (.tup [.int .i64 g,.int .i64 e]))) (ak (au (kr ng (.bool true))) (ak (au (aau al)) aC))))))))))))))
theorem RZ {c:Int} {ls:List (List Int)} {sum:Int} {gv:List Int} (h:(dH c ls sum gv).2.2=0):∃n:Nat,(1≤n∧n≤5)∧dH c ls sum gv=((n:Int),(sol c ls sum gv n).1,0)∧(sol c ls sum gv n).2.2=0:=by
 by_cases h5:(sol c ls sum gv 5).2.2=0
 case neg=>unfold dH at h;rw[if_pos h5]at h;exact absurd h h5
 have key:∀k,k≤5→(∀j,1≤j→j<k+1→(sol c ls sum gv j).2.2≠0)∨∃n,(1≤n∧n≤k)∧(∀j,1≤j→j<n→(sol c ls sum gv j).2.2≠0)∧(sol c ls sum gv n).2.2=0:=by
  intro k
  induction k with
  |zero=>intro _;exact .inl fun j h1 h2=>by omega
  |succ k ih=>
   intro hk
   rcases ih (by omega)with h1|⟨n,h1,h2⟩
   ·by_cases e:(sol c ls sum gv (k+1)).2.2=0
    ·exact .inr ⟨k+1,⟨by omega,by omega⟩,fun j a b=>h1 j a b,e⟩
    ·refine .inl fun j a b=>?_
     by_cases q:j=k+1
     ·rw[q];exact e
     ·exact h1 j a (by omega)
   ·exact .inr ⟨n,⟨h1.1,by omega⟩,h2⟩
 rcases key 5 (by omega)with h1|⟨n,h1,h2,h3⟩
 ·exact absurd h5 (h1 5 (by omega) (by omega))
 ·refine⟨n,h1,?_,h3⟩
  have:=vJ (c:=c) (ls:=ls) (sum:=sum) (gv:=gv) 4 1 n h2 h3 h1.1 (by omega)
  unfold dH
  rw[if_neg (by rw[h5];simp),this]
theorem Iu {c:Int} {ls:List (List Int)} {sum:Int} {gv:List Int} (hp:dG c ls sum gv) {n:Nat} (hn:n≤5):(gQ (sol c ls sum gv n)).1.length≤273∧(gQ (sol c ls sum gv n)).2.1.cs.length≤1000000∧(gQ (sol c ls sum gv n)).2.1.ds.length≤1000000∧∀i,((gQ (sol c ls sum gv n)).2.1.cs.getD i []).length≤2000000:=by
 unfold gQ
 split
 ·exact⟨by simp,by simp[noS],by simp[noS],fun i=>by simp[noS]⟩
 ·have hB:=(Q5 hp hn).1
  have hc:=hp.c1
  have h1:=hB.cl
  have h2:=hB.dl
  have h3:=GR (c:=c) (ls:=ls) (sum:=sum) (n:=n) 273 (bgn c gv) []
  rw[List.length_nil,Nat.zero_add]at h3
  refine⟨h3,by omega,by omega,fun i=>?_⟩
  by_cases hi:i<(sol c ls sum gv n).2.1.cs.length
  ·have h16:((sol c ls sum gv n).2.1.cs.getD i []).length≤16:=jZ (hB.asc i hi).1;omega
  ·rw[List.getD_eq_getElem?_getD,List.getElem?_eq_none (by omega)];simp
theorem Ad {a b:St} (h:a=b):Sup (.bp (smB a b)) (.bool true):=dU (by subst h;exact decide_eq_true ⟨rfl,rfl⟩)
theorem O6 (c:Int) (ls:List (List Int)) (sum:Int) (gv:List Int) (g:Int):aF Tryz.prog 4 [pzV c ls sum gv,.int .i64 g] (.bp true):=by
 by_cases hg:Cb c ls sum gv=true
 ·have hC:=mV true false 0 (fun _=>([],noS,0)) [] ([],noS,0) 0 0 [] []
  refine dw (md:=1) (rf:=[]) mixed aj hC Tryz.func4 (by rfl) (by rfl) (by rfl) ?_
  unfold vT
  repeat'((conv=>whnf);first|(intro hq;(try simp only[vw]at hq);try first|exact absurd hq (by decide)|exfalso;omega)|apply aI|with_reducible exact vM rfl|exact⟨⟩|apply nM|apply fM)
  all_goals((try apply vM);(try simp only[vq]at*);try omega)
  all_goals first|exact dU hg|exact bJ _|skip
 have hg:Cb c ls sum gv=false:=by simpa using hg
 have hsh:qE ls gv=true:=by unfold Cb at hg;cases h:qE ls gv<;>simp[h]at hg⊢
 obtain⟨hL,hgl⟩:=KW hsh
 by_cases he:pzE c ls sum gv=0
 case neg=>
  obtain⟨e,hee⟩:∃e,pzE c ls sum gv=e:=⟨_,rfl⟩
  have h1:kI c ls sum gv g=([],noS,e):=by
   have:aL [pzE c ls sum gv,fD g]=e:=by rw[hee]at he⊢;simp[aL,he]
   unfold kI;rw[this,if_pos (by rw[←hee];exact he)]
  have h2:dS c ls sum gv=(0,[],e):=by unfold dS;rw[if_pos he,hee]
  have h3:kJ c ls sum gv=[]:=by unfold kJ;rw[h2,if_pos (by rw[←hee];exact he)]
  rw[hee]at he
  have hC:=mV false false e (fun _=>([],noS,0)) [] ([],noS,e) 0 e [] []
  refine dw (md:=1) (rf:=[]) mixed aj hC Tryz.func4 (by rfl) (by rfl) (by rfl) ?_
  unfold vT
  repeat'((conv=>whnf);first|(intro hq;(try simp only[vw]at hq);try first|exact absurd hq (by decide)|exfalso;omega)|apply aI|with_reducible exact vM rfl|exact⟨⟩|apply nM|apply fM)
  all_goals((try apply vM);(try simp only[vq]at*);try omega)
  all_goals first|exact dU hg|exact bJ _|exact qX hee|exact⟨hL,by omega⟩|(rw[h1];exact bJ _)|(rw[h2];exact bJ _)|(rw[h3,h2];exact bJ _)|exact⟨rfl,rfl⟩|exact dU rfl|omega|skip
 have hp:=dG.of he
 cases hw:H7 c ls sum gv 9 10 with
 |false=>
  have hC:=mV false false 0 (fun _=>([],noS,0)) [] ([],noS,0) 0 0 [] []
  refine dw (md:=1) (rf:=[]) mixed aj hC Tryz.func4 (by rfl) (by rfl) (by rfl) ?_
  unfold vT
  repeat'((conv=>whnf);first|(intro hq;(try simp only[vw]at hq);try first|exact absurd hq (by decide)|exfalso;omega)|apply aI|with_reducible exact vM rfl|exact⟨⟩|apply nM|apply fM)
  all_goals((try apply vM);(try simp only[vq]at*);try omega)
  all_goals first|exact dU hg|exact bJ _|exact qX he|exact dU hw|exact⟨hL,by omega⟩|omega|skip
 |true=>
 have e2:dS c ls sum gv=dH c ls sum gv:=by unfold dS;rw[if_neg (by rw[he];simp)]
 obtain⟨F,hF⟩:∃F:Int→List Dd × St × Int,F=fun m=>gQ (sol c ls sum gv m.toNat):=⟨_,rfl⟩
 have hsl:∀l,(eD l).length=5:=fun l=>by simp[eD]
 have hFm:∀m,F m=gQ (sol c ls sum gv m.toNat):=fun m=>by rw[hF]
 by_cases hgr:1≤g∧g≤5
 ·have hb1:=Iu hp (n:=g.toNat) (by omega)
  have hFg:=hFm g
  rw[←hFg]at hb1
  have h1:kI c ls sum gv g=F g:=by
   have e3:fD g=0:=by unfold fD;rw[if_neg (by omega)]
   have:aL [pzE c ls sum gv,fD g]=0:=by rw[he,e3];rfl
   unfold kI;rw[this,if_neg (by simp),hFg];rfl
  by_cases h0:(dH c ls sum gv).2.2=0
  ·obtain⟨n,hn,f1,f2⟩:=RZ h0
   have h2:PV.tup [.int .i64 (dS c ls sum gv).1,.int .i64 (dS c ls sum gv).2.2]=.tup [.int .i64 n,.int .i64 0]:=by rw[e2,f1]
   have h4:PV.tup [.int .i64 (grO c ls sum gv).1,.int .i64 (grO c ls sum gv).2]=.tup [.int .i64 n,.int .i64 0]:=by unfold grO;rw[f1]
   have hFn:F n=sol c ls sum gv n:=by
    rw[hFm,Int.toNat_natCast];unfold gQ;rw[if_neg (by rw[f2];simp)]
   have h3:PV.tup [.isl (.ints .i64 (kJ c ls sum gv)) .none,.int .i64 (dS c ls sum gv).2.2]=.tup [.isl (.ints .i64 (eD (F n).1)) .none,.int .i64 0]:=by
    unfold kJ;rw[e2,f1,hFn];rfl
   have hb2:=Iu hp hn.2
   have hFn2:=hFm n
   rw[Int.toNat_natCast]at hFn2
   rw[←hFn2]at hb2
   have hal:∀d∈(F n).1,1≤d.g∧d.g≤5:=fun d hd=>by
    rw[hFn]at hd
    have:=GQ (n:=n) 273 _ [] (fun d h=>by simp at h) d hd
    omega
   have hC:=mV false true 0 F (F g).1 (F g) n 0 (eD (F n).1) (F n).1
   refine dw (md:=1) (rf:=[]) mixed aj hC Tryz.func4 (by rfl) (by rfl) (by rfl) ?_
   unfold vT
   repeat'((conv=>whnf);first|(intro hq;(try simp only[vw]at hq);try first|exact absurd hq (by decide)|exfalso;omega)|apply aI|with_reducible exact vM rfl|exact⟨⟩|apply nM|apply fM)
   all_goals((try apply vM);(try simp only[vq]at*);try omega)
   all_goals first|exact dU hg|exact bJ _|exact qX he|exact dU hw|exact⟨hL,by omega⟩|exact⟨hL,hp⟩|(rw[h1];exact bJ _)|exact⟨⟨by omega,by omega⟩,hL,hp,hFm _⟩|exact⟨by omega,rfl,rfl⟩|exact⟨hb1.2.1,hb1.2.2⟩|exact dU rfl|exact Ad rfl|exact⟨rfl,rfl⟩|(rw[h2];exact bJ _)|(rw[h3];exact bJ _)|(rw[h4];exact bJ _)|exact⟨by omega,hal⟩|(rw[hsl];omega)|exact dU (decide_eq_true rfl)|omega|skip
  ·have h5:(sol c ls sum gv 5).2.2≠0:=fun e=>h0 (by unfold dH;rw[if_neg (by rw[e];simp)])
   have f1:dH c ls sum gv=(0,[],(sol c ls sum gv 5).2.2):=by unfold dH;rw[if_pos h5]
   obtain⟨e5,he5⟩:∃e5,(sol c ls sum gv 5).2.2=e5:=⟨_,rfl⟩
   rw[he5]at f1 h5
   have h2:PV.tup [.int .i64 (dS c ls sum gv).1,.int .i64 (dS c ls sum gv).2.2]=.tup [.int .i64 0,.int .i64 e5]:=by rw[e2,f1]
   have h4:PV.tup [.int .i64 (grO c ls sum gv).1,.int .i64 (grO c ls sum gv).2]=.tup [.int .i64 0,.int .i64 e5]:=by unfold grO;rw[f1]
   have h3:PV.tup [.isl (.ints .i64 (kJ c ls sum gv)) .none,.int .i64 (dS c ls sum gv).2.2]=.tup [.isl (.ints .i64 []) .none,.int .i64 e5]:=by
    unfold kJ;rw[e2,f1,if_pos h5]
   have hal:∀d∈([]:List Dd),1≤d.g∧d.g≤5:=fun d h=>by simp at h
   have hC:=mV false true 0 F (F g).1 (F g) 0 e5 [] []
   refine dw (md:=1) (rf:=[]) mixed aj hC Tryz.func4 (by rfl) (by rfl) (by rfl) ?_
   unfold vT
   repeat'((conv=>whnf);first|(intro hq;(try simp only[vw]at hq);try first|exact absurd hq (by decide)|exfalso;omega)|apply aI|with_reducible exact vM rfl|exact⟨⟩|apply nM|apply fM)
   all_goals((try apply vM);(try simp only[vq]at*);try omega)
   all_goals first|exact dU hg|exact bJ _|exact qX he|exact dU hw|exact⟨hL,by omega⟩|exact⟨hL,hp⟩|(rw[h1];exact bJ _)|exact⟨⟨by omega,by omega⟩,hL,hp,hFm _⟩|exact⟨by omega,rfl,rfl⟩|exact⟨hb1.2.1,hb1.2.2⟩|exact dU rfl|exact Ad rfl|exact⟨rfl,rfl⟩|(rw[h2];exact bJ _)|(rw[h3];exact bJ _)|(rw[h4];exact bJ _)|exact⟨by omega,hal⟩|(rw[hsl];omega)|exact dU (decide_eq_true rfl)|omega|skip
 ·have h1:kI c ls sum gv g=([],noS,3):=by
   have e3:fD g=3:=by unfold fD;rw[if_pos (by omega)]
   have:aL [pzE c ls sum gv,fD g]=3:=by rw[he,e3];rfl
   unfold kI;rw[this,if_pos (by simp)]
  have hb1:(0≤1)∧(0≤1):=⟨by omega,by omega⟩
  by_cases h0:(dH c ls sum gv).2.2=0
  ·obtain⟨n,hn,f1,f2⟩:=RZ h0
   have h2:PV.tup [.int .i64 (dS c ls sum gv).1,.int .i64 (dS c ls sum gv).2.2]=.tup [.int .i64 n,.int .i64 0]:=by rw[e2,f1]
   have h4:PV.tup [.int .i64 (grO c ls sum gv).1,.int .i64 (grO c ls sum gv).2]=.tup [.int .i64 n,.int .i64 0]:=by unfold grO;rw[f1]
   have hFn:F n=sol c ls sum gv n:=by
    rw[hFm,Int.toNat_natCast];unfold gQ;rw[if_neg (by rw[f2];simp)]
   have h3:PV.tup [.isl (.ints .i64 (kJ c ls sum gv)) .none,.int .i64 (dS c ls sum gv).2.2]=.tup [.isl (.ints .i64 (eD (F n).1)) .none,.int .i64 0]:=by
    unfold kJ;rw[e2,f1,hFn];rfl
   have hb2:=Iu hp hn.2
   have hFn2:=hFm n
   rw[Int.toNat_natCast]at hFn2
   rw[←hFn2]at hb2
   have hal:∀d∈(F n).1,1≤d.g∧d.g≤5:=fun d hd=>by
    rw[hFn]at hd
    have:=GQ (n:=n) 273 _ [] (fun d h=>by simp at h) d hd
    omega
   have hC:=mV false true 0 F [] ([],noS,3) n 0 (eD (F n).1) (F n).1
   refine dw (md:=1) (rf:=[]) mixed aj hC Tryz.func4 (by rfl) (by rfl) (by rfl) ?_
   unfold vT
   repeat'((conv=>whnf);first|(intro hq;(try simp only[vw]at hq);try first|exact absurd hq (by decide)|exfalso;omega)|apply aI|with_reducible exact vM rfl|exact⟨⟩|apply nM|apply fM)
   all_goals((try apply vM);(try simp only[vq]at*);try omega)
   all_goals first|exact dU hg|exact bJ _|exact qX he|exact dU hw|exact⟨hL,by omega⟩|exact⟨hL,hp⟩|(rw[h1];exact bJ _)|exact⟨⟨by omega,by omega⟩,hL,hp,hFm _⟩|exact⟨by omega,rfl,rfl⟩|exact⟨hb1.2.1,hb1.2.2⟩|exact dU rfl|exact Ad rfl|exact⟨rfl,rfl⟩|(rw[h2];exact bJ _)|(rw[h3];exact bJ _)|(rw[h4];exact bJ _)|exact⟨by omega,hal⟩|(rw[hsl];omega)|exact dU (decide_eq_true rfl)|omega|skip
  ·have h5:(sol c ls sum gv 5).2.2≠0:=fun e=>h0 (by unfold dH;rw[if_neg (by rw[e];simp)])
   have f1:dH c ls sum gv=(0,[],(sol c ls sum gv 5).2.2):=by unfold dH;rw[if_pos h5]
   obtain⟨e5,he5⟩:∃e5,(sol c ls sum gv 5).2.2=e5:=⟨_,rfl⟩
   rw[he5]at f1 h5
   have h2:PV.tup [.int .i64 (dS c ls sum gv).1,.int .i64 (dS c ls sum gv).2.2]=.tup [.int .i64 0,.int .i64 e5]:=by rw[e2,f1]
   have h4:PV.tup [.int .i64 (grO c ls sum gv).1,.int .i64 (grO c ls sum gv).2]=.tup [.int .i64 0,.int .i64 e5]:=by unfold grO;rw[f1]
   have h3:PV.tup [.isl (.ints .i64 (kJ c ls sum gv)) .none,.int .i64 (dS c ls sum gv).2.2]=.tup [.isl (.ints .i64 []) .none,.int .i64 e5]:=by
    unfold kJ;rw[e2,f1,if_pos h5]
   have hal:∀d∈([]:List Dd),1≤d.g∧d.g≤5:=fun d h=>by simp at h
   have hC:=mV false true 0 F [] ([],noS,3) 0 e5 [] []
   refine dw (md:=1) (rf:=[]) mixed aj hC Tryz.func4 (by rfl) (by rfl) (by rfl) ?_
   unfold vT
   repeat'((conv=>whnf);first|(intro hq;(try simp only[vw]at hq);try first|exact absurd hq (by decide)|exfalso;omega)|apply aI|with_reducible exact vM rfl|exact⟨⟩|apply nM|apply fM)
   all_goals((try apply vM);(try simp only[vq]at*);try omega)
   all_goals first|exact dU hg|exact bJ _|exact qX he|exact dU hw|exact⟨hL,by omega⟩|exact⟨hL,hp⟩|(rw[h1];exact bJ _)|exact⟨⟨by omega,by omega⟩,hL,hp,hFm _⟩|exact⟨by omega,rfl,rfl⟩|exact⟨hb1.2.1,hb1.2.2⟩|exact dU rfl|exact Ad rfl|exact⟨rfl,rfl⟩|(rw[h2];exact bJ _)|(rw[h3];exact bJ _)|(rw[h4];exact bJ _)|exact⟨by omega,hal⟩|(rw[hsl];omega)|exact dU (decide_eq_true rfl)|omega|skip
end Go.Eng.YtcechbdgokjmgaaGreatDoor
