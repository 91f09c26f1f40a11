/- Contracts of functions of the program: what each returns. Their conditions stand in them. -/
import Derived.Shelf.Slices.Delete
import Derived.LoopTactic
import Derived.Laws.RangeAny
import Derived.Tactics2
import Derived.ProofKit
import Derived.OpenShut
import Derived.Deep.Grids
import Derived.LaidMore
import Derived.Stop.Joined
import Derived.Stop.LaidErr
import Derived.Lib.LaidTab
import Derived.MakeChecks
import Derived.Lay
import Derived.Test.YtmkagljofpddpaaGreatDoorProg
import Derived.Test.YtmkagljofpddpaaGreatDoorCards
import Derived.Test.YtmkagljofpddpaaGreatDoorTie
import Derived.Test.YtmkagljofpddpaaGreatDoorHIntegersc
open Array renaming getElem?_eq_getElem→alv,getD_eq_getD_getElem?→alz,getElem?_eq_none→alr,getElem?_modify→alx
open Bool renaming eq_false_iff→apQ,and_eq_true→alM,not_eq_true'→ama,not_eq_false'→apU,not_false→ame
open Int renaming mul_le_mul→apw,toNat_natCast→anG,natAbs_natCast→aoW,natCast_mul→an9,ofNat_le→apV,toNat→an8,zero_sub→apW
open List renaming ext_getElem→anz,getD_eq_getElem?_getD→alC,getElem?_eq_getElem→alH,getElem_mem→apG,replicate→alL,getElem?_drop→amK,length_eq_zero_iff→amT,size_toArray→aoN,length_eraseIdx_of_lt→apR,length_append→amL,length_cons→alj,length_nil→alf,range→alA,range_succ→aoQ,length_drop→amJ,length_take→amh,take→aoz,drop→aoA,append_nil→apX
open Nat renaming lt_of_not_le→ape,sub_zero→ao6,mul_one→alV,lt_or_ge→alq,lt_of_lt_of_le→alp,zero_add→alO,zero_le→aml,mul_le_mul→amy,pow_le_pow_right→anL,le_trans→als,pow_succ'→apS,div_lt_of_lt_mul→apT,lt_of_le_of_lt→an4,gcd→aoF,div_le_self→aon
open Option renaming map_some→aly
namespace Go.Eng.YtmkagljofpddpaaGreatDoor
open Go.Proofs Go.Eng.Dig
set_option linter.unusedSimpArgs false
set_option linter.unusedVariables false
set_option maxHeartbeats 0
set_option maxRecDepth 100000
theorem Wu (a n:Int) (h:(0<n/\n≤1000000000)/\ -9223372036854775808≤a/\a≤9223372036854775807):aB Tryz.prog 143 [.int .i64 a,.int .i64 n] (.int .i64 (a % n)):=by
 obtain⟨e,e2,e3⟩:=qZ a n h.1.1;refine au (md:=1) (rf:=[]) mixed ak aC Tryz.func143 qqR qqR qqR ?_;refine wk1 ?_;all_goals(try simp only[e])
 all_goals first|omega|(rw[<-e];exact Sup.of rfl)|exact Sup.of rfl
def Sc:PSp:=λxs K=>match xs with
 | [.int .i64 a,.int .i64 n]=>VC ((0<n/\n≤1000000000)/\ -9223372036854775808≤a/\a≤9223372036854775807)/\K (.int .i64 (a % n))
 |_=>False
theorem afL:POK Tryz.prog 143 Sc:=by
 intro xs K h;unfold Sc at h;split at h
 ·exact⟨_,h.2,Wu _ _ h.1.get⟩
 ·exact h.elim
theorem ZJ (n:Int) (hn:n≤999999999/\ -999999999≤n):aB Tryz.prog 48 [.int .i64 n] (.bp (kV n)):=by
 by_cases hn2:n<2
 ·have e:kV n=false:=apQ.2 λg=>by have:=((qF n).1 g).1;omega
  rw[e];refine au (md:=1) (rf:=[]) mixed ak aC Tryz.func48 qqR qqR qqR ?_;refine wk1 λhq=>?_;all_goals first|omega|exact dY rfl|exact Sup.of rfl
 refine au (md:=1) (rf:=[]) mixed ak aC Tryz.func48 qqR qqR qqR ?_;refine wk1 λhq=>?_;conv=>whnf
 refine aR (X:=Nat) (λd=>(2≤d/\d≤40000)/\∀e:Nat,2≤e->e<d->(e:Int)*e≤n/\¬n % e=0) (λd=>[(3,.int .i64 d)]) (λ_=>[]) (λd=>40000-d) 2 ⟨aH,mixed,ak,aC,aN⟩ qqR ⟨qqO,λe h1 h2=>qqO⟩ ?_ ?_
 ·all_goals exact iG
 intro d ⟨⟨h1,h2⟩,h3⟩;have hdd:(d:Int)*d≤1600000000:=by
  have:=apw (show(d:Int)≤40000 by omega) (show(d:Int)≤40000 by omega) qqO qqO
  omega
 have hd0:0≤(d:Int)*d:=Int.mul_nonneg qqO qqO;have hd1:(d:Int)*d≤n->d<40000:=λh=>by
  refine ape λg=>?_;have:=apw (show(40000:Int)≤d by omega) (show(40000:Int)≤d by omega) qqO qqO
  omega
 have hmono:∀e:Nat,d≤e->(d:Int)*d≤(e:Int)*e:=λe h=>apw qqO qqO qqO qqO;by_cases hc:(d:Int)*d≤n
 ·have hlt:=hd1 hc
  have htm:n.tmod d=n % d:=Int.tmod_eq_emod_of_nonneg qqO;by_cases hz:n % (d:Int)=0
  ·have e:kV n=false:=by
    exact apQ.2 λg=>((qF n).1 g).2 d h1 hc hz
   rw[e];rw[<-htm]at hz;clear hmono h3 hd1;all_goals exact uG
  ·have hz':¬n.tmod (d:Int)=0:=by rw[htm];exact hz
   have h3':∀e:Nat,2≤e->e<d+1->(e:Int)*e≤n/\¬n % e=0:=λe a b=>by
    by_cases ed:e=d
    ·subst ed;exact⟨hc,hz⟩
    ·exact h3 e a qqO
   clear hmono h3 hd1;all_goals exact E5
 ·have e:kV n=decide (2≤n):=by
   rw[Bool.eq_iff_iff,qF,decide_eq_true_iff];refine⟨λg=>g.1,λg=>⟨g,λe a b=>(h3 e a ?_).2⟩⟩;refine ape λg2=>?_;have:=hmono e g2;omega
  rw[e,decide_eq_true (show 2≤n by omega)]
  clear hmono h3 hd1;refine wk1 λhq=>?_;all_goals first|omega|exact dY rfl|exact Sup.of rfl
def aii:PSp:=λxs K=>match xs with
 | [.int .i64 n]=>VC (n≤999999999/\ -999999999≤n)/\K (.bp (kV n))
 |_=>False
theorem Wv:POK Tryz.prog 48 aii:=by
 intro xs K h;unfold aii at h;split at h
 ·exact⟨_,h.2,ZJ _ h.1.get⟩
 ·exact h.elim
theorem Ww (a b:List Int) (hl:a.length≤1000000000/\b.length≤1000000000):aB Tryz.prog 51 [.isl (.ints .i64 a) .none,.isl (.ints .i64 b) .none] (.bp (decide (a=b))):=by
 by_cases hab:a.length=b.length
 ·skip
  refine au (md:=1) (rf:=[]) mixed ak aC Tryz.func51 qqR qqR qqR ?_;refine wk1 λhq=>?_;all_goals try(exfalso;omega)
  conv=>whnf
  refine aR (X:=Nat) (λi=>i≤a.length/\∀j,j<i->a.getD j 0=b.getD j 0) (λi=>[(5,.int .i64 i)]) (λ_=>[]) (λi=>a.length-i) 0 ⟨aH,mixed,ak,aC,aN⟩ qqR ⟨qqO,λj h=>qqO⟩ ?_ ?_
  ·exact wk0
   all_goals skip
  intro i ⟨h1,h2⟩;have h2':∀_:Unit,∀j,j<i->a.getD j 0=b.getD j 0:=λ_=>h2;clear h2;by_cases hlt:i<a.length
  ·by_cases he:a.getD i 0=b.getD i 0
   ·refine wk1 λhq hq=>?_
    all_goals first
     |omega
     |contradiction
     |(refine⟨i+1,[],⟨⟨qqO,λj hj=>by
        by_cases e:j=i
        ·subst e;exact he
        ·exact h2' () j qqO⟩,qqO⟩,?_⟩
       exact wk0;all_goals skip)
   ·have hm:decide (a=b)=false:=decide_eq_false (λhm=>he (by rw[hm]))
    rw[hm];refine wk1 λhq hq=>?_;all_goals first|omega|exact dY rfl|exact Sup.of rfl|contradiction
  ·have:i=a.length:=qqO
   subst this;have hm:decide (a=b)=true:=decide_eq_true (by
    refine anz hab λj g1 g2=>?_;have:=h2' () j g1;rw[alC,alH g1,alC,alH g2]at this;exact this)
   rw[hm];refine wk1 λhq=>?_;all_goals first|omega|exact dY rfl|exact Sup.of rfl
 ·have hm:decide (a=b)=false:=decide_eq_false (λhm=>hab (by rw[hm]))
  rw[hm];refine au (md:=1) (rf:=[]) mixed ak aC Tryz.func51 qqR qqR qqR ?_;refine wk1 λhq=>?_;all_goals first|omega|exact dY rfl|exact Sup.of rfl
def GZ:PSp:=λxs K=>match xs with
 | [.isl (.ints .i64 a) .none,.isl (.ints .i64 b) .none]=>VC (a.length≤1000000000/\b.length≤1000000000)/\K (.bp (decide (a=b)))
 |_=>False
theorem Ow:POK Tryz.prog 51 GZ:=by
 intro xs K h;unfold GZ at h;split at h
 ·exact⟨_,h.2,Ww _ _ h.1.get⟩
 ·exact h.elim
noncomputable def ak3:CPT:=ay 143 (aJ Sc) noC
theorem EJ:aZ Tryz.prog ak3:=aj (aA afL) aC
theorem aij (e:Int) (c:Bool):Sup (dJ [.int .i64 e,PV.bool c]) (.tup [.int .i64 e,.bp c]):=by all_goals(refine Sup.via ?_;repeat'((conv=>whnf);first|intro _|apply aI|exact aD|apply nM|apply fM);all_goals((try apply vM);(try simp only[vq]at*);try omega);all_goals(try(simp[CL.sub];done)))
theorem ZK (a:Int):iI a 1=(0,true):=by
 unfold iI Ad;simp only[Int.emod_one];rfl
theorem Wx (a n:Int) (hn:0<n/\n≤999999999) (ha: -999999999≤a/\a≤999999999):aB Tryz.prog 46 [.int .i64 a,.int .i64 n] (.tup [.int .i64 (iI a n).1,.bp (iI a n).2]):=by
 by_cases h1n:n=1
 ·subst h1n
  rw[ZK];refine au (md:=1) (rf:=[]) mixed ak EJ Tryz.func46 qqR qqR qqR ?_;refine wk1 λhq=>?_;all_goals first|omega|exact aij _ _
 have hm0:=Int.emod_nonneg a (show n≠0 by omega)
 have hm1:=Int.emod_lt_of_pos a hn.1;have hstart:Ad a n=uZ ((a % n).toNat+1) n (a % n) 0 1:=rfl;unfold iI;generalize Ad a n=R at*
 refine au (md:=1) (rf:=[]) mixed ak EJ Tryz.func46 qqR qqR qqR ?_;refine wk1 λhq=>?_;all_goals first
  |omega
  |exact⟨⟨qqO,qqO⟩,qqO,qqO⟩
  |skip
 generalize a % n=m at*
 have w1:=trivial;have w2:=trivial;have w3:=trivial;conv=>whnf
 refine aR (X:=EuX) (λp=>EuI n p.r p.s p.x p.y/\p.s.toNat<p.k/\R=uZ p.k p.r p.s p.x p.y) (λp=>[(6,.int .i64 p.r),(7,.int .i64 p.s),(8,.int .i64 p.x),(9,.int .i64 p.y),(10,.any)]) (λp=>[]) (λp=>p.s.toNat) ⟨m.toNat+1,n,m,0,1⟩ ⟨aH,mixed,ak,EJ,aN⟩ qqR ⟨EuI.start hn.1 hm0 hm1,by simp only;omega,hstart⟩ ?_ ?_
 ·exact wk0
  all_goals skip
 rintro⟨k,r,s,x,y⟩ ⟨h1,h2,h3⟩
 simp only at h1 h2 h3;clear w1 w2 w3 hm0 hm1 hstart;by_cases hs:s=0
 ·subst hs
  rw[FI]at h3;subst h3;have v1:x % n=x % n:=rfl;have hx:=h1.xn;refine wk1 λhq=>?_;all_goals first
   |omega
   |exact⟨⟨qqO,qqO⟩,qqO,qqO⟩
   |exact Sup.of rfl
   |exact dY rfl
   |(refine Sup.of ?_;simp[dJ, *];done)
 ·obtain⟨k1,k2,k3,k4,k5⟩:=h1.step hs
  obtain⟨z,a,b,c,d,e⟩:=h1;have htd:r.tdiv s=r / s:=Int.tdiv_eq_ediv_of_nonneg qqO;have hqr:r / s≤r:=Int.ediv_le_self _ qqO;have hxy:=k1.yn;have hk3:=k1.s0;all_goals exact I9
def abO:PSp:=λxs K=>match xs with
 | [.int .i64 a,.int .i64 n]=>VC ((0<n/\n≤999999999)/\(-999999999≤a/\a≤999999999))/\K (.tup [.int .i64 (iI a n).1,.bp (iI a n).2])
 |_=>False
theorem afM:POK Tryz.prog 46 abO:=by
 intro xs K h;unfold abO at h;split at h
 ·exact⟨_,h.2,Wx _ _ h.1.get.1 h.1.get.2⟩
 ·exact h.elim
noncomputable def ak4:CPT:=ay 51 (aJ GZ) noC
theorem EK:aZ Tryz.prog ak4:=aj (aA Ow) aC
def Sd (m:Nat) (f:Nat->List Int):PV:=.isl (.gen m λi=>.isl (.ints .i64 (f i)) .none) .none
def ajq (m k:Nat) (f g:Nat->List Int):Prop:=m=k/\∀i,i<m->f i=g i
theorem Wy (m k:Nat) (f g:Nat->List Int) (hm:m≤1000000/\k≤1000000) (hf:∀i,i<m->(f i).length≤1000000000) (hg:∀i,i<k->(g i).length≤1000000000) (b:Bool) (hb:b=true↔ajq m k f g):
 aB Tryz.prog 61 [Sd m f,Sd k g] (.bp b):=by
 by_cases hmk:m=k
 ·subst hmk
  refine au (md:=1) (rf:=[]) mixed ak EK Tryz.func61 qqR qqR qqR ?_;refine wk1 λhq=>?_;all_goals try(exfalso;omega)
  conv=>whnf
  refine aR (X:=Nat) (λi=>i≤m/\∀j,j<i->f j=g j) (λi=>[(5,.int .i64 i)]) (λ_=>[]) (λi=>m-i) 0 ⟨aH,mixed,ak,EK,aN⟩ qqR ⟨qqO,λj h=>qqO⟩ ?_ ?_
  ·exact wk0
   all_goals skip
  intro i ⟨h1,h2⟩;have h2':∀_:Unit,∀j,j<i->f j=g j:=λ_=>h2;clear h2;by_cases hlt:i<m
  ·have k1:=hf i hlt
   have k2:=hg i hlt;by_cases he:f i=g i
   ·refine wk2 (λhq hq=>?_) λhq hq=>?_
    all_goals first
     |omega
     |contradiction
     |(refine⟨i+1,[],⟨⟨qqO,λj hj=>by
        by_cases e:j=i
        ·subst e;exact he
        ·exact h2' () j qqO⟩,qqO⟩,?_⟩
       exact wk0;all_goals skip)
     |(exfalso;simp_all;done)
   ·have hm:b=false:=apQ.2 λhh=>he ((hb.1 hh).2 i hlt)
    rw[hm];refine wk2 (λhq hq=>?_) λhq hq=>?_;all_goals first|omega|exact dY rfl|exact Sup.of rfl|contradiction|(exfalso;simp_all;done)
  ·have:i=m:=qqO
   subst this;have hm:b=true:=hb.2 ⟨rfl,h2' ()⟩;rw[hm];refine wk1 λhq=>?_;all_goals first|omega|exact dY rfl|exact Sup.of rfl
 ·have hm':b=false:=apQ.2 λhh=>hmk (hb.1 hh).1
  rw[hm'];refine au (md:=1) (rf:=[]) mixed ak EK Tryz.func61 qqR qqR qqR ?_;refine wk1 λhq=>?_;all_goals first|omega|exact dY rfl|exact Sup.of rfl
end Go.Eng.YtmkagljofpddpaaGreatDoor
namespace Go.Eng.YtmkagljofpddpaaGreatDoor
open Go.Proofs Go.Eng.Dig Go.Eng.Dec Go.Eng.Pm
set_option linter.unusedSimpArgs false
set_option linter.unusedVariables false
set_option maxHeartbeats 0
set_option maxRecDepth 100000
theorem Wz (a b:List ByteArray) (hl:a.length≤1000000000/\b.length≤1000000000):aB Tryz.prog 106 [.isl (.strs a) .none,.isl (.strs b) .none] (.bp (decide (a=b))):=by
 by_cases hab:a.length=b.length
 ·skip
  refine au (md:=1) (rf:=[]) mixed ak aC Tryz.func106 qqR qqR qqR ?_;refine wk1 λhq=>?_;all_goals try(exfalso;omega)
  conv=>whnf
  refine aR (X:=Nat) (λi=>i≤a.length/\∀j,j<i->a.getD j .empty=b.getD j .empty) (λi=>[(5,.int .i64 i)]) (λ_=>[]) (λi=>a.length-i) 0 ⟨aH,mixed,ak,aC,aN⟩ qqR ⟨qqO,λj h=>qqO⟩ ?_ ?_
  ·exact wk0
   all_goals skip
  intro i ⟨h1,h2⟩;have h2':∀_:Unit,∀j,j<i->a.getD j .empty=b.getD j .empty:=λ_=>h2;clear h2;by_cases hlt:i<a.length
  ·by_cases he:a.getD i .empty=b.getD i .empty
   ·refine wk2 (λhq hq=>?_) λhq hq=>?_
    all_goals first
     |omega
     |contradiction
     |(refine⟨i+1,[],⟨⟨qqO,λj hj=>by
        by_cases e:j=i
        ·subst e;exact he
        ·exact h2' () j qqO⟩,qqO⟩,?_⟩
       exact wk0;all_goals skip)
   ·have hm:decide (a=b)=false:=decide_eq_false (λhm=>he (by rw[hm]))
    rw[hm];refine wk2 (λhq hq=>?_) λhq hq=>?_;all_goals first|omega|exact dY rfl|exact Sup.of rfl|contradiction
  ·have:i=a.length:=qqO
   subst this;have hm:decide (a=b)=true:=decide_eq_true (by
    refine anz hab λj g1 g2=>?_;have:=h2' () j g1;rw[alC,alH g1,alC,alH g2]at this;exact this)
   rw[hm];refine wk1 λhq=>?_;all_goals first|omega|exact dY rfl|exact Sup.of rfl
 ·have hm:decide (a=b)=false:=decide_eq_false (λhm=>hab (by rw[hm]))
  rw[hm];refine au (md:=1) (rf:=[]) mixed ak aC Tryz.func106 qqR qqR qqR ?_;refine wk1 λhq=>?_;all_goals first|omega|exact dY rfl|exact Sup.of rfl
def G5:PSp:=λxs K=>match xs with
 | [.isl (.strs a) .none,.isl (.strs b) .none]=>VC (a.length≤1000000000/\b.length≤1000000000)/\K (.bp (decide (a=b)))
 |_=>False
theorem Ox:POK Tryz.prog 106 G5:=by
 intro xs K h;unfold G5 at h;split at h
 ·exact⟨_,h.2,Wz _ _ h.1.get⟩
 ·exact h.elim
noncomputable def ak5:CPT:=ay 106 (aJ G5) noC
theorem EL:aZ Tryz.prog ak5:=aj (aA Ox) aC
def aik (m k:Nat) (f g:Nat->List ByteArray):Prop:=m=k/\∀i,i<m->f i=g i
theorem WA (m k:Nat) (f g:Nat->List ByteArray) (hm:m≤1000000/\k≤1000000) (hf:∀i,i<m->(f i).length≤1000000000) (hg:∀i,i<k->(g i).length≤1000000000) (b:Bool) (hb:b=true↔aik m k f g):
 aB Tryz.prog 77 [tmV m f,tmV k g] (.bp b):=by
 by_cases hmk:m=k
 ·subst hmk
  refine au (md:=1) (rf:=[]) mixed ak EL Tryz.func77 qqR qqR qqR ?_;refine wk1 λhq=>?_;all_goals try(exfalso;omega)
  conv=>whnf
  refine aR (X:=Nat) (λi=>i≤m/\∀j,j<i->f j=g j) (λi=>[(5,.int .i64 i)]) (λ_=>[]) (λi=>m-i) 0 ⟨aH,mixed,ak,EL,aN⟩ qqR ⟨qqO,λj h=>qqO⟩ ?_ ?_
  ·exact wk0
   all_goals skip
  intro i ⟨h1,h2⟩;have h2':∀_:Unit,∀j,j<i->f j=g j:=λ_=>h2;clear h2;by_cases hlt:i<m
  ·have k1:=hf i hlt
   have k2:=hg i hlt;by_cases he:f i=g i
   ·refine wk2 (λhq hq=>?_) λhq hq=>?_
    all_goals first
     |omega
     |contradiction
     |(refine⟨i+1,[],⟨⟨qqO,λj hj=>by
        by_cases e:j=i
        ·subst e;exact he
        ·exact h2' () j qqO⟩,qqO⟩,?_⟩
       exact wk0;all_goals skip)
     |(exfalso;simp_all;done)
   ·have hm:b=false:=apQ.2 λhh=>he ((hb.1 hh).2 i hlt)
    rw[hm];refine wk2 (λhq hq=>?_) λhq hq=>?_;all_goals first|omega|exact dY rfl|exact Sup.of rfl|contradiction|(exfalso;simp_all;done)
  ·have:i=m:=qqO
   subst this;have hm:b=true:=hb.2 ⟨rfl,h2' ()⟩;rw[hm];refine wk1 λhq=>?_;all_goals first|omega|exact dY rfl|exact Sup.of rfl
 ·have hm':b=false:=apQ.2 λhh=>hmk (hb.1 hh).1
  rw[hm'];refine au (md:=1) (rf:=[]) mixed ak EL Tryz.func77 qqR qqR qqR ?_;refine wk1 λhq=>?_;all_goals first|omega|exact dY rfl|exact Sup.of rfl
theorem vE (l:List (List Int)):gW (.rows .i64 l) (.gen l.length λi=>.isl (.ints .i64 (l.getD i [])) .none):=⟨rfl,rfl,λj hj=>by simp only[CL.get]⟩
theorem WB (a b:List (List Int)) (hl:a.length≤1000000/\b.length≤1000000) (ha:∀r,r∈a->r.length≤1000000000) (hb:∀r,r∈b->r.length≤1000000000):aB Tryz.prog 61 [.isl (.rows .i64 a) .none,.isl (.rows .i64 b) .none] (.bp (decide (a=b))):=by
 refine dh (ys:=[Sd a.length λi=>a.getD i [],Sd b.length λi=>b.getD i []]) (λS wd vs hA=>⟨hA.1,λi hi=>?_⟩) (Wy a.length b.length (λi=>a.getD i []) (λi=>b.getD i []) hl (λi hi=>?_) (λi hi=>?_) _ ?_)
 ·have:=hA.2 i hi
  match i,hi with
  |0,_=>exact jK (vE a) this
  |1,_=>exact jK (vE b) this
 ·exact ha _ (by rw[alC,alH hi];exact apG _)
 ·exact hb _ (by rw[alC,alH hi];exact apG _)
 ·rw[decide_eq_true_iff]
  constructor
  ·rintro rfl;exact⟨rfl,λ_ _=>rfl⟩
  ·rintro⟨h1,h2⟩
   refine anz h1 λj g1 g2=>?_;have:a.getD j []=b.getD j []:=h2 j g1;rw[alC,alH g1,alC,alH g2]at this;exact this
end Go.Eng.YtmkagljofpddpaaGreatDoor
namespace Go.Eng.YtmkagljofpddpaaGreatDoor
open Go.Proofs
set_option linter.unusedSimpArgs false
set_option linter.unusedVariables false
set_option maxHeartbeats 0
set_option maxRecDepth 100000
theorem nY {p:Prop} (h:p:=by
 repeat'((conv=>whnf);first|(intro hq;(try simp only[vw]at hq);try exact aV hq)|apply aI|exact aD|apply nM|apply fM|refine Exists.intro ([]:Sg) ?_|refine zq 12 ?_|refine rounds_succ qqA qqR ?_)
 all_goals((try apply vM);first|decide|exact .inl rfl|exact .inl trivial|rfl|exact Sup.of rfl|assumption)):p:=h
theorem Aw {C:CPT} (h:aZ Tryz.prog C) (r:Option Nat):Walk Tryz.prog r rA tab.get C noY:=⟨aH,mixed,ak,h,aN⟩
abbrev exU:List Int:=[1,2,0,4,3]
abbrev nN:PV:=.isl (.ints .i64 exU) .none
abbrev cyE:PV:=.fn (.func 217) [] [.ip (.pv [nN]) 0]
abbrev cyR:List (List Int):=[[0,1,2],[3,4]]
abbrev cyA:PV:=.isl (.ints .i64 [0,1,2]) .none
abbrev cyB:PV:=.isl (.ints .i64 [3,4]) .none
abbrev cyV:List PV:=[cyA,cyB]
theorem ail:aB Tryz.prog 80 [nN] (.int .i64 0):=by
 have W:=Aw aC none;refine au (md:=1) (rf:=[]) mixed ak aC Tryz.func80 qqR qqR qqR ?_;exact nY
theorem abP:aB Tryz.prog 167 [nN] cyE:=by
 refine au (md:=1) (rf:=[]) mixed ak aC Tryz.func167 qqR qqR qqR ?_;exact nY
theorem Si:Qa Tryz.prog 217 [] [.ip (.pv [nN]) 0] 1 cyV:=by
 refine XE (md:=1) (rf:=[]) mixed ak Tryz.func217 qqR qqR qqR λG go b hY=>⟨_,aC,?_⟩;have W:Walk Tryz.prog none rA tab.get noC (XD b 1 G go cyV):=⟨aH,mixed,ak,aC,hY _ _⟩;have n0:Nxt go cyV [] cyA:=⟨0,qqD,rfl,rfl,GoTo.zero⟩;have n1:(!go [cyA])=false->Nxt go cyV [cyA] cyB:=λh=>⟨1,qqD,rfl,rfl,λj hj=>by(have:j=0:=qqO);subst this;simpa using h⟩
 have c0:(!go [cyA])=true->[cyA]=mF go [] cyV:=λh=>by simp at h;simp[mF,h]
 have c1:(!go [cyA])=false->[cyA,cyB]=mF go [] cyV:=λh=>by simp at h;simp[mF,h];split<;>rfl
 repeat'((conv=>whnf);first|(intro hq;(try simp only[vw]at hq);try exact aV hq)|apply aI|exact aD|apply nM|apply fM|refine zq 12 ?_|refine rounds_succ W qqR ?_)
 all_goals((try apply vM);first|decide|exact .inl rfl|exact .inl trivial|exact⟨rfl,rfl,rfl⟩|exact n0|exact⟨rfl,n0⟩|exact n1 qqA|exact⟨rfl,n1 qqA⟩|exact c0 qqA|exact c1 qqA|exact⟨rfl,c0 qqA⟩|exact⟨rfl,c1 qqA⟩)
def tdR (xs:List PV) (r:PV):PSp:=λys K=>VC (ys=xs)/\K r
theorem sU {g:FuncId} {xs:List PV} {r:PV} (h:aB Tryz.prog g xs r):POK Tryz.prog g (tdR xs r):=by
 rintro ys K ⟨⟨rfl⟩,hK⟩
 exact⟨r,hK,h⟩
theorem ajr:aB Tryz.prog 218 [.nils,cyE] (.isl (.rows .i64 cyR) .none):=by
 refine au (md:=1) (rf:=[]) mixed ak aC Tryz.func218 qqR qqR qqR ?_
 repeat'((conv=>whnf);first|intro _|apply aI|exact aD|apply nM|apply fM)
 all_goals((try apply vM);(try simp only[vq]at*);try omega)
 conv=>whnf
 refine zN aH mixed ak aC (λr=>aN) (fs:=[]) (cs:=[.ip (.pv [nN]) 0]) cyV (λ_=>true) (λi=>[(0,.cells (.pv [.isl (.rows .i64 (cyR.take i)) (.own 5)]) false),(5,.tok 1 i)]) qqR qqR qqR Si qqR qqR qqR qqR ?_ ?_ ?_
 ·all_goals exact iG
 ·intro hall
  repeat'((conv=>whnf);first|intro _|apply aI|exact aD|apply nM|apply fM)
  all_goals((try apply vM);(try simp only[vq]at*);try omega)
  all_goals exact Sup.of rfl
 ·intro i x hx hall lp
  match i,hx with
  |0,hx=>
   cases hx
   exact nY
  |1,hx=>
   cases hx
   exact nY
  |n+2,hx=>cases hx
theorem ajs:aB Tryz.prog 168 [cyE] (.isl (.rows .i64 cyR) .none):=by
 have hc:=aj (IW (sU ajr)) aC;have W:=Aw hc none;refine au (md:=1) (rf:=[]) mixed ak hc Tryz.func168 qqR qqR qqR ?_;exact nY
theorem ak6:aB Tryz.prog 84 [nN] (.tup [.isl (.rows .i64 cyR) .none,.int .i64 0]):=by
 have hc:=aj (IW (sU ajs)) (aj (aA (sU abP)) (aj (aA (sU ail)) aC));have W:=Aw hc none;refine au (md:=1) (rf:=[]) mixed ak hc Tryz.func84 qqR qqR qqR ?_;exact nY
noncomputable def ak7:CPT:=ay 167 (aJ (tdR [nN] cyE)) (ay 80 (aJ (tdR [nN] (.int .i64 0))) noC)
theorem pV:aZ Tryz.prog ak7:=aj (aA (sU abP)) (aj (aA (sU ail)) aC)
theorem ak8:aB Tryz.prog 85 [nN] (.tup [.int .i64 (-1),.int .i64 0]):=by
 have hc:=pV;have W:=Aw hc none;refine au (md:=1) (rf:=[]) mixed ak hc Tryz.func85 qqR qqR qqR ?_
 repeat'((conv=>whnf);first|(intro hq;(try simp only[vw]at hq);try exact aV hq)|apply aI|exact aD|apply nM|apply fM)
 all_goals((try apply vM);(try simp only[vq]at*);try omega)
 conv=>whnf
 refine zN aH mixed ak pV (λr=>aN) (fs:=[]) (cs:=[.ip (.pv [nN]) 0]) cyV (λ_=>true) (λi=>[(4,.cells (.pv [.int .i64 ([1,1,-1].getD i 0)]) false)]) qqR qqR qqR Si qqR qqR qqR qqR ?_ ?_ ?_
 ·all_goals exact Fh
 ·intro hall
  all_goals exact Fj
 ·intro i x hx hall lp
  have W:=Aw pV (some lp)
  match i,hx with
  |0,hx=>
   cases hx
   exact nY
  |1,hx=>
   cases hx
   exact nY
  |n+2,hx=>cases hx
theorem ak9:aB Tryz.prog 83 [nN,.int .i64 2] (.tup [.isl (.ints .i64 [2,0,1,3,4]) .none,.int .i64 0]):=by
 have hc:=pV;have W:=Aw hc none;refine au (md:=1) (rf:=[]) mixed ak hc Tryz.func83 qqR qqR qqR ?_
 repeat'((conv=>whnf);first|(intro hq;(try simp only[vw]at hq);try exact aV hq)|apply aI|exact aD|apply nM|apply fM)
 all_goals((try apply vM);(try simp only[vq]at*);try omega)
 all_goals try exact .inl trivial
 conv=>whnf
 refine zN aH mixed ak pV (λr=>aN) (fs:=[]) (cs:=[.ip (.pv [nN]) 0]) cyV (λ_=>true) (λi=>[(5,.cells (.ints .i64 ([[0,0,0,0,0],[2,0,1,0,0],[2,0,1,3,4]].getD i [])) false)]) qqR qqR qqR Si qqR qqR qqR qqR ?_ ?_ ?_
 ·all_goals exact Fh
 ·intro hall
  all_goals exact Fj
 ·intro i x hx hall lp
  have W:=Aw pV (some lp)
  match i,hx with
  |0,hx=>
   cases hx
   exact nY
  |1,hx=>
   cases hx
   exact nY
  |n+2,hx=>cases hx
end Go.Eng.YtmkagljofpddpaaGreatDoor
namespace Go.Eng.YtmkagljofpddpaaGreatDoor
open Go.Proofs Go.Eng.Pm
set_option linter.unusedSimpArgs false
set_option linter.unusedVariables false
set_option maxHeartbeats 0
set_option maxRecDepth 100000
theorem Sj (p:List Int) (hp:p.length≤1000000):aB Tryz.prog 80 [.isl (.ints .i64 p) .none] (.int .i64 (xG 5 p)):=by
 unfold xG;refine au (md:=1) (rf:=[]) mixed ak aC Tryz.func80 qqR qqR qqR ?_;refine wk3 (λhq=>?_) (λhq=>?_) λhq=>?_
 ·rw[if_pos qqO];exact Sup.of rfl
 all_goals try exact .inl trivial
 rw[if_neg qqO];conv=>whnf
 refine aR (X:=Nat) (λi=>i≤p.length/\∀j,j<i->Ew p j=0) (λi=>[(14,.int .i64 i)]) (λi=>[(0,.cells (.bools (kN p i)) false)]) (λi=>p.length-i) 0 ⟨aH,mixed,ak,aC,aN⟩ qqR ⟨qqO,λj hj=>qqO⟩ ?_ ?_
 ·refine wk1 ?_
  all_goals exact RH p
 intro i ⟨hi,hok⟩;have hsl:=VP p i;by_cases hlt:i<p.length
 ·have eS:Ew p i=if p.getD i 0<0∨p.length≤p.getD i 0∨p.getD i 0∈p.take i then 14 else 0:=rfl
  have eA:=Y7 p i (p.getD i 0);have fin:∀e,Ew p i=e->e≠0->jl (Ew p) p.length=e:=λe a1 a2=>(nX hlt (by rw[a1];exact a2) hok).trans a1
  refine wk4 (λhq hq hq hq=>?_) (λhq hq hq hq=>?_) (λhq hq hq=>?_) λhq hq=>?_;all_goals(try(rw[hsl];omega))
  ·rw[eA qqO,decide_eq_true_eq]at hq
   refine Sup.of (congrArg (PV.int .i64) (fin _ ?_ qqO).symm);rw[eS,if_pos (.inr (.inr hq))]
  ·rw[eA qqO,decide_eq_false_iff_not]at hq
   refine⟨i+1,[],⟨⟨qqO,λj hj=>?_⟩,qqO⟩,?_⟩
   ·by_cases e:j=i
    ·subst e;rw[eS,if_neg (by rintro(h|h|h);omega;omega;exact hq h)]
    ·exact hok j qqO
   refine wk1 ?_;all_goals exact RI p i hlt qqO
  ·refine Sup.of (congrArg (PV.int .i64) (fin _ ?_ qqO).symm)
   rw[eS,if_pos (.inr (.inl hq))]
  ·refine Sup.of (congrArg (PV.int .i64) (fin _ ?_ qqO).symm)
   rw[eS,if_pos (.inl hq)]
 ·have:p.length=i:=qqO
  rw[nW (n:=p.length) (by rw[this];exact hok)]
  refine wk1 λhq=>?_;exact Sup.of rfl
def Kw:PSp:=λxs K=>match xs with
 | [.isl (.ints .i64 p) .none]=>VC (p.length≤1000000)/\K (.int .i64 (xG 5 p))
 |_=>False
theorem ZL:POK Tryz.prog 80 Kw:=by
 intro xs K h;unfold Kw at h;split at h
 ·exact⟨_,h.2,Sj _ h.1.get⟩
 ·exact h.elim
end Go.Eng.YtmkagljofpddpaaGreatDoor
namespace Go.Eng.Pm
set_option linter.unusedSimpArgs false
set_option linter.unusedVariables false
end Go.Eng.Pm
namespace Go.Eng.YtmkagljofpddpaaGreatDoor
open Go.Proofs Go.Eng.Pm
set_option linter.unusedSimpArgs false
set_option linter.unusedVariables false
set_option maxHeartbeats 0
set_option maxRecDepth 100000
end Go.Eng.YtmkagljofpddpaaGreatDoor
namespace Go.Proofs
open Go.Shelf Go.RowKit Go.Lib Go.Sort
def Tryz.laysNm223_ren:Go.Shelf.Ren:=⟨λ|23=>121|n=>n,λ|22=>22|3=>3|4=>4|0=>0|n=>n,λ|n=>n⟩
theorem Tryz.laysNm223:Go.Proofs.Lays2.n23 Tryz.prog Tryz.laysNm223_ren:={
 mixed:=by kernel_rfl
 f23:=Tryz.func121.trans (congrArg some (by kernel_rfl))
 t0:=Tryz.underlying0
 a0:=Tryz.isAgg0
 z0:=Tryz.sizeOf0
 v0:=Tryz.zeroValue0
 t3:=Tryz.underlying3
 a3:=Tryz.isAgg3
 z3:=Tryz.sizeOf3
 v3:=Tryz.zeroValue3
 t4:=Tryz.underlying4
 a4:=Tryz.isAgg4
 z4:=Tryz.sizeOf4
 v4:=Tryz.zeroValue4
 t22:=Tryz.underlying22
 a22:=Tryz.isAgg22
 z22:=Tryz.sizeOf22
 v22:=Tryz.zeroValue22
 i3:=by kernel_rfl}
section
variable {P:Program} {ρ:Ren}
set_option maxHeartbeats 4000000 in
set_option maxRecDepth 1000000 in
theorem ain (L:Lays2.n23 P ρ) (blk off cap i j:Nat) (d:Array Int) (w:World) (hH:Holds encI w blk off d) (hcap:d.size≤cap) (hij:i≤j) (hj:j≤d.size):
 Calls P (ρ.f 23) #[.slice (some ⟨blk,off,none⟩) d.size cap,.int .i64 i,.int .i64 j] w λe w'=>e=.returned (.slice (some ⟨blk,off,none⟩) (d.size-(j-i)) cap)/\∃q,w'=putRow encI (Sort.ahead w q) blk off (d.toList.take i++d.toList.drop j++alL (j-i) 0).toArray:=by
 have mixed:=L.mixed;have t0:=L.t0;have a0:=L.a0;have z0:=L.z0;have v0:=L.v0;have t3:=L.t3;have a3:=L.a3;have z3:=L.z3;have v3:=L.v3;have t4:=L.t4;have a4:=L.a4;have z4:=L.z4;have v4:=L.v4;have t22:=L.t22;have a22:=L.a22;have z22:=L.z22;have v22:=L.v22;obtain⟨i0,hi0,hz0,hz1,hz2⟩:=info_parts L.i3;by_cases heq:i=j
 ·subst heq
  have h0:Calls P (ρ.f 23) #[.slice (some ⟨blk,off,none⟩) d.size cap,.int .i64 i,.int .i64 i] w λe w'=>e=.returned (.slice (some ⟨blk,off,none⟩) d.size cap)/\w'=w:=by
   clear hH
   go_enter L.f23,Body2.n23_ntmps ρ
   go_wp2
   all_goals(go_ret;exact⟨rfl,rfl⟩)
  refine h0.mono ?_
  rintro e w' ⟨rfl,rfl⟩
  have e:(d.toList.take i++d.toList.drop i++alL (i-i) 0).toArray=d:=qqS;refine⟨by rw[Nat.sub_self,ao6],0,?_⟩
  rw[e];exact(putRow_self encI (Sort.ahead w' 0) blk off d hH).symm
 ·have hlt:i<j:=qqO
  obtain⟨news,hnews⟩:∃news,news=(d.toList.drop j).map encI:=⟨_,rfl⟩;have hlen:news.length=d.size-j:=by rw[hnews];simp
  have hget:∀t,t<d.size-j->news[t]? =some (encI d[j+t]!):=by
   intro t ht;rw[hnews,List.getElem?_map,amK,Array.getElem?_toList,getElem!_pos d (j+t) qqO,alv qqO];rfl
  obtain⟨A,hA,hsrc⟩:∃A:Addr,(if cap=j then some (⟨blk,off,none⟩:Addr)else some ⟨blk,off+j,none⟩)=some A/\Hid (∀t u,news[t]? =some u->w.drew.cell? (A.add t)=some u):=by
   by_cases h:cap=j
   ·refine⟨⟨blk,off,none⟩,by simp[h],λt u hu=>?_⟩
    have h0:news.length=0:=by rw[hlen];omega
    rw[amT.1 h0]at hu;simp at hu
   ·refine⟨⟨blk,off+j,none⟩,by simp[h],λt u hu=>?_⟩
    have ht:t<d.size-j:=by
     have:=(List.getElem?_eq_some_iff.1 hu).1
     rwa [hlen]at this
    rw[hget t ht]at hu;rw[Addr.add_lit,show off+j+t=off+(j+t) by omega]
    exact(hH (j+t) qqO).1.trans hu
  have s1:Hid (news.length=(d.size-j)*1):=by rw[alV];exact hlen
  have s2:Hid (∀u∈news,u.oneCell'=true):=by
   intro u hu;rw[hnews]at hu;obtain⟨x,_,rfl⟩:=List.mem_map.1 hu;rfl
  have s3:Hid (∀t,t<news.length->(w.drew.cell? ⟨blk,off+i*1+t,none⟩).isSome=true/\w.drew.frozen? ⟨blk,off+i*1+t,none⟩=false):=by
   intro t ht;rw[hlen]at ht;rw[alV,Nat.add_assoc];exact⟨by show(w.cell? _).isSome=true;rw[(hH (i+t) qqO).1];rfl,(hH (i+t) qqO).2⟩
  obtain⟨W1,hW1⟩:∃W1,W1=w.drew.setCells blk (off+i*1) news:=⟨_,rfl⟩;have hW1':W1=putRow encI (Sort.ahead w 1) blk off (lay d i (d.toList.drop j)):=by
   rw[hW1,hnews,alV,<-putRow_setCells encI (Sort.ahead w 1) blk off _ d i (by simp;omega),putRow_self encI (Sort.ahead w 1) blk off d (holds_ahead encI w 1 blk off d hH)]
   rfl
  have hH1:Holds encI W1 blk off (lay d i (d.toList.drop j)):=by rw[hW1'];exact holds_putRow encI _ blk off d _ (holds_ahead encI w 1 blk off d hH) (lay_size _ _ _)
  have hcl:∀ty,(Builtin.clear_ #[ρ.t 22] ty #[.slice (some ⟨blk,off+(i+(d.size-j)),none⟩) (d.size-(i+(d.size-j))) (cap-(i+(d.size-j)))]).run P W1=.ok (.tuple #[]) (W1.setCells blk (off+(i+(d.size-j))) (alL (d.size-(i+(d.size-j))) (encI 0))):=
   λty=>Lib.run_clear_slice W1 _ _ ty _ t22 v3 rfl rfl blk (off+(i+(d.size-j))) _ _ qqO (λt ht=>by rw[show off+(i+(d.size-j))+t=off+(i+(d.size-j)+t) by omega,(hH1 _ (by rw[lay_size];omega)).1];rfl) (λt ht=>by rw[show off+(i+(d.size-j))+t=off+(i+(d.size-j)+t) by omega];exact(hH1 _ (by rw[lay_size];omega)).2)
  have X:Aside (W1=putRow encI (Sort.ahead w 1) blk off (lay d i (d.toList.drop j))):=hW1';have hW:Hid (W1=w.drew.setCells blk (off+i*1) news):=hW1;have hic:i≤cap:=qqO;have hjc:j≤cap:=qqO;clear hW1 hW1' hH1 hH hget hnews hlen
  go_enter L.f23,Body2.n23_ntmps ρ
  go_wp2_with fail
  go_region_law_o (refine step_append_room rfl (.tmp 22) (.tmp 25) (ρ.t 22) rfl (ρ.t 3) i0 1 t22 hi0 hz1 blk off i cap (by simp[Act.eval,Act.put]) A (d.size-j) (cap-j) news (by simp[Act.eval,Act.put]) s1.out hsrc.out s2.out qqO s3.out ?_;rw[<-hW.out])
  go_wp2
  go_ret
  refine⟨by rw[show d.size-(j-i)=i+(d.size-j) by omega];rfl,1,?_⟩
  rw[<-delete_arr d i j 0 hij hj,<-putRow_setCells encI _ blk off _ _ (i+(d.size-j)) (by rw[lay_size];simp;omega),<-X.out,List.map_replicate,show d.size-(i+(d.size-j))=j-i by omega]
end
end Go.Proofs
namespace Go.Eng.YtmkagljofpddpaaGreatDoor
open Go.Proofs Go.RowKit Go.Sort Go.Shelf
set_option linter.unusedSimpArgs false
set_option linter.unusedVariables false
set_option maxHeartbeats 0
set_option maxRecDepth 100000
theorem WC (blk off cap i:Nat) (zs:List Int) (w:World) (hH:Holds (Value.int .i64) w blk off zs.toArray) (hcap:zs.length≤cap) (hj:i<zs.length):
 Calls Tryz.prog 121 #[.slice (some ⟨blk,off,none⟩) zs.length cap,.int .i64 i,.int .i64 ((i+1:Nat):Int)] w λe w'=>e=.returned (.slice (some ⟨blk,off,none⟩) (zs.length-1) cap)/\∃q,w'=Sort.putRow (Value.int .i64) (Sort.ahead w q) blk off (zs.eraseIdx i++[0]).toArray:=by
 have h:=ain Tryz.laysNm223 blk off cap i (i+1) zs.toArray w hH (by simpa using hcap) qqO (by rw[aoN];omega)
 change Calls Tryz.prog 121 _ _ _ at h;have e:i+1-i=1:=qqO;rw[e]at h;rw[List.eraseIdx_eq_take_drop_succ];simp only[aoN]at h;exact h
def Sk:CT:=λargs n H K=>match args with
 | [p,q,r]=>match p with
  |.rsl k off m=>match q with
   |.int q1 a=>match r with
    |.int q2 b=>bR H k λo=>match o with
     |.cells c fz=>match fz with
      |true=>False
      |false=>match c with
       |.ints q xs=>ifK (decide (q=.i64)&&(decide (q1=.i64)&&(decide (q2=.i64)&&Nat.beq off 0))) (VC (m=xs.length/\0≤a/\a<m/\b=a+1)/\K (.rsl k 0 (m-1)) [(k,.cells (.ints .i64 (xs.eraseIdx a.toNat)) false)] [k] [])
       |_=>False
     |_=>False
    |_=>False
   |_=>False
  |_=>False
 |_=>False
theorem ZM:COK Tryz.prog 121 Sk:=by
 intro args n H K hk;unfold Sk at hk;split at hk
 ·split at hk
  ·rename_i k off m
   split at hk
   ·rename_i q1 a
    split at hk
    ·rename_i q2 b2
     rw[bD]at hk;obtain⟨ob,hob,hk⟩:=hk;split at hk
     ·rename_i c fz
      split at hk
      ·exact hk.elim
      ·split at hk
       ·rename_i q xs
        simp only[aK,alM,decide_eq_true_eq]at hk;obtain⟨⟨rfl,rfl,rfl,hoff⟩,⟨⟨rfl,ha0,ham,rfl⟩⟩,hk⟩:=hk;have hoff:=Nat.eq_of_beq_eq_true hoff;subst hoff;obtain⟨i,rfl⟩:=Int.eq_ofNat_of_zero_le ha0;rw[anG]at hk;have him:i<xs.length:=qqO;refine⟨_,_,_,[],hk,.inl ⟨enters' Tryz.func121 qqR qqR,λS w ι H' vs _ M hr ha _=>?_⟩⟩;have hob':=(ha k qqS).trans hob;obtain⟨b,arr,e,g1,g2,g3,g4,g5⟩:=M.obj k _ hob';have hsz:vs.size=3:=hr.1.symm;have hv0:∃cap,vs= #[.slice (some ⟨b,0,none⟩) xs.length cap,.int .i64 i,.int .i64 ((i+1:Nat):Int)]/\xs.length≤cap/\∀j,j<cap->(rd w b j).isSome:=by
         have h0:=hr.2 0 qqS;have h1:=hr.2 1 qqS;have h2:=hr.2 2 qqS;simp only[aG]at h0 h1 h2;have hvs:vs= #[vs.getD 0 undef,vs.getD 1 undef,vs.getD 2 undef]:=by
          apply Array.ext (by simp[hsz])
          intro j h1 h2;have:j=0∨j=1∨j=2:=qqO;rcases this with rfl|rfl|rfl<;>simp[alz,h1]
         rw[hvs];generalize vs.getD 0 undef=v0 at h0
         generalize vs.getD 1 undef=v1 at h1
         generalize vs.getD 2 undef=v2 at h2
         cases h1
         cases h2
         generalize hml:xs.length=ml at h0
         cases h0 with
         |rsl _ _ _ _ b' cap hk' hc hrd=>rw[g1]at hk';cases hk';exact⟨cap,rfl,hc,hrd rfl⟩
         |rslz _ _ _ b' o hk'=>omega
        obtain⟨cap,rfl,hcap,hcr⟩:=hv0;have hbw:b<w.heap.size:=by
         rcases alq b w.heap.size with h6|h6
         ·exact h6
         ·rw[alr h6]at g2;cases g2
        have hg4:∀j,j<xs.length->arr[j]? =some (.int .i64 (xs.getD j 0)):=λj hj=>by
         have h7:=g4 j hj;have h8:j<arr.size:=alp hj g3;rw[alz,alv h8]at h7;rw[alv h8];simp only[CL.get,Option.getD_some]at h7;generalize arr[j]=y at h7
         cases h7;rfl
        have hH:Holds (Value.int .i64) w b 0 xs.toArray:=λj hj=>by
         have hj':j<xs.length:=by simpa using hj
         rw[alO];refine⟨?_,by simp[World.frozen?,g2]⟩
         rw[jA,aL g2,hg4 j hj'];simp[alC,alH hj']
        refine(callsIn_wide.2 (WC b 0 cap i xs w hH hcap him)).mono ?_
        rintro ex w' ⟨rfl,n',hw'⟩
        have hel:(xs.eraseIdx i).length=xs.length-1:=apR him;obtain⟨arr',harr,hsz',hget⟩:∃arr',w'.heap[b]? =some (.cells arr' e (0,0))/\arr'.size=arr.size/\∀j,j<xs.length-1->arr'[j]? =some (.int .i64 ((xs.eraseIdx i).getD j 0)):=by
         refine⟨putCells (Value.int .i64) 0 (xs.eraseIdx i++[0]).toArray arr,?_,by simp[putCells],λj hj=>?_⟩
         ·rw[hw']
          show(mapBlock (Sort.ahead w n') b _).heap[b]? =_;simp only[mapBlock,Sort.ahead,alx,if_true,g2,aly,onCells];try rfl
         ·have h8:j<arr.size:=alp (show j<xs.length by omega) g3
          have h9:j<(xs.eraseIdx i++[0]).length:=by rw[amL,hel,alj,alf];omega
          simp only[putCells,Array.getElem?_mapIdx,alv h8,aly,aml,alO,true_and,aoN,if_pos h9,ao6];have h10:j<(xs.eraseIdx i).length:=qqO;simp[alC,List.getElem?_append_left h10,alH h10]
        have hoth:∀b',b'<w.heap.size->b'≠b->w'.heap[b']? =w.heap[b']? :=λb' h1 h2=>by
         rw[hw'];show(mapBlock (Sort.ahead w n') b _).heap[b']? =_;simp only[mapBlock,Sort.ahead,alx,if_neg (Ne.symm h2)]
        have hbel:Bel w w':=by
         have hlen0:∀b0,b0<w.heap.size->bsz w' b0=bsz w b0:=λb0 hb0=>by
          by_cases e0:b0=b
          ·subst e0;unfold bsz;rw[harr,g2];simp[hsz']
          ·exact gM (hoth b0 hb0 e0)
         rw[hw']at hlen0⊢;exact⟨rfl,rfl,rfl,by simp[Sort.putRow,mapBlock,Sort.ahead],hlen0⟩
        obtain⟨M',K',T'⟩:=M.write' (c':=.ints .i64 (xs.eraseIdx i)) hob' g1 g2 hbel hoth harr qqO (by simp only[CL.ncell,hel];simp only[CL.ncell]at g3;omega) (λj hj=>by
         simp only[CL.ncell,hel]at hj;rw[alz,hget j hj];exact .int _ _ _)
        refine⟨_,S,ι,rfl,M',.refl _,K',.rsl _ _ _ _ b cap g1 qqO (λ_ j hj=>?_),T'⟩;have:=hcr j hj;rw[aL g2]at this;rw[aL harr];have h11:j<arr.size:=by
         rcases alq j arr.size with h1|h1
         ·exact h1
         ·rw[alr h1]at this;simp at this
        rw[alv qqO];rfl
       ·exact hk.elim
     ·exact hk.elim
    ·exact hk.elim
   ·exact hk.elim
  ·exact hk.elim
 ·exact hk.elim
end Go.Eng.YtmkagljofpddpaaGreatDoor
namespace Go.Eng.YtmkagljofpddpaaGreatDoor
open Go.Proofs Go.Eng.Dig Go.Eng.Dec Go.Eng.Pm
set_option linter.unusedSimpArgs false
set_option linter.unusedVariables false
set_option maxHeartbeats 0
set_option maxRecDepth 100000
def fac:Nat->Nat
 |0=>1
 |n+1=>fac n*(n+1)
theorem Oy:∀n,0<fac n:=by
 intro n;induction n with
 |zero=>decide
 |succ n ih=>exact Nat.mul_pos ih qqO
theorem WE:∀n,n≤256->fac n≤256 ^ n:=by
 intro n;induction n with
 |zero=>intro _;decide
 |succ n ih=>
  intro h;rw[fac,Nat.pow_succ];exact amy (ih qqO) h
theorem aio:256 ^ 260<W ^ 40:=qqV
set_option exponentiation.threshold 4000 in
theorem abQ {n:Nat} (h:n≤256):Lw (fac n)≤40:=by
 refine qV ?_;have h1:=WE n h;have h2:256 ^ n≤256 ^ 260:=anL qqO qqO;have:=aio;omega
abbrev niC (a:NI):List PV:=[.int .i64 a.s,.nnl (.ints .u64 a.w)]
def fcC (j:Nat):List PV:=match j with|0=>[.int .i64 1,.nils]|j+1=>niC (nr (fac (j+1)))
def fcL (i:Nat):List (List PV):=(alA i).map fcC
theorem EM (i:Nat):(fcL i).length=i:=by simp[fcL]
theorem WG {i j:Nat} (h:j<i):(fcL i).getD j []=fcC j:=by simp[fcL,alC,h]
theorem Kz (i:Nat):fcL (i+1)++[niC (nr (fac (i+1)))]=fcL (i+2):=by simp[fcL,aoQ,fcC]
structure abR (c d:CL):Prop where
 cnt:d.cnt=c.cnt
 esz:d.esz=c.esz
 get:∀j,j<c.ncell->∀{S:Imm} {w:World} {ι:Ix} {v:Value},Rep S w ι (c.get j) v->Rep S w ι (d.get j) v
theorem WH {c d:CL} (h:abR c d) (t:Tok):Sup (.isl c t) (.isl d .none):=⟨λ{S w ι v} hr=>by
 have hc:=h.cnt;have hn:d.ncell=c.ncell:=by rw[bI,bI,hc,h.esz]
 cases hr with
 |islnil _ _ _ g=>exact .islnil _ _ _ (by rw[hc];exact g)
 |isl _ _ _ b off cap h1 h2 h3 h4 h5=>
  rw[<-hc];exact .isl _ _ _ b off cap (by rw[hc];exact h1) (λj hj=>h2 j qqO) (λj hj=>h.get j qqO (h3 j qqO)) (λg=>by cases g) (λk g=>by cases g)⟩
abbrev fcV (n:Nat):PV:=.isl (.genr 2 n λj=>niC (nr (fac j))) .none
noncomputable def ala:CPT:=ay 108 (aU ofP) (ay 110 (aU uT) noC)
theorem Oz:aZ Tryz.prog ala:=aj (aF oU) (aj (aF pI) aC)
theorem WI:nr (fac 0)=⟨1,[]⟩:=iZ (by unfold fac;omega)
theorem OA (n:Nat):abR (.recs 2 (fcL n)) (.genr 2 n λj=>niC (nr (fac j))):=⟨by simp[CL.cnt,EM],rfl,λj hj {S w ι v} hr=>by
 simp only[CL.ncell,EM]at hj;simp only[CL.get]at hr⊢;rw[WG qqO]at hr;have hj2:j % 2=0∨j % 2=1:=qqO;cases hq:j / 2 with
 |zero=>
  rw[hq]at hr;rw[WI];rcases hj2 with e|e
  ·rw[e]at hr⊢;exact hr
  ·rw[e]at hr⊢
   have hr':Rep S w ι .nils v:=hr;show Rep S w ι (.nnl (.ints .u64 [])) v;cases hr';exact .nnl0 _ _ rfl
 |succ q=>rw[hq]at hr;exact hr⟩
theorem G6 {x:Int} (h:0≤x/\x≤1000000000):(⟨x,[]⟩:NI).OK/\(⟨x,[]⟩:NI).L≤100000000000:=
 ⟨.inl ⟨rfl,by show smI x;unfold smI;omega⟩,by unfold NI.L;rw[NI.val_sm];exact als (ow qqO) qqD⟩
theorem Dh {n:Nat} (h:n≤256):(nr (fac n)).OK/\(nr (fac n)).L≤100000000000:=
 ⟨bQ _,by unfold nr;rw[NI.L_nrm,aoW];exact als (abQ h) qqD⟩
theorem aip (j:Nat):nrm ((nr (fac j)).val*NI.val ⟨(j:Int)+1,[]⟩)=nr (fac (j+1)):=by
 unfold nr;rw[bg,NI.val_sm,fac,an9];rfl
theorem ajt:nrm (NI.val ⟨1,[]⟩*NI.val ⟨((0:Nat):Int)+1,[]⟩)=nr (fac 1):=by
 have:=aip 0;rw[WI]at this;exact this
theorem WJ:Qk.size=2:=qqR
theorem Di (n:Nat) (hn:n≤256):aB Tryz.prog 107 [.int .i64 n] (fcV (n+1)):=by
 refine au (md:=1) (rf:=[]) mixed ak Oz Tryz.func107 qqR qqR qqR ?_;refine wk1 ?_;conv=>whnf
 refine aR (X:=Nat) (λi=>i≤n) (λi=>[(8,.int .i64 i),(4,.any),(3,match i with|0=>.isl (.recs 2 [[.int .i64 1,.nils]]) .full|j+1=>.isl (.recs 2 (fcL (j+2))) (.own 5))]) (λi=>match i with|0=>[]|j+1=>[(5,.tok 2 (j+2))]) (λi=>n-i) 0 ⟨aH,mixed,ak,Oz,aN⟩ qqR qqO ?_ ?_
 ·exact wk0
  all_goals first|rfl
 intro i hi;cases i with
 |zero=>
  have v1:=G6 (x:=1) qqO;have v2:=G6 (x:=((0:Nat):Int)+1) qqO;by_cases hlt:0<n
  ·refine wk5 (λhq=>?_) (λhq=>?_) (λhq=>?_) (λhq=>?_) λhq=>?_
   all_goals(try simp only[ajt,WJ])
   all_goals first
    |rfl
    |exact⟨v1.1,v2.1,v1.2,v2.2⟩
    |exact .inr qqD
    |(simp only[amL,chunks,alj,alf];omega)
    |(refine⟨1,[(14,5)],⟨qqO,qqO⟩,?_⟩
      exact wk0;all_goals first|exact congrArg (CL.recs 2) (Kz 0)|rfl)
  ·have:n=0:=qqO
   subst this;refine wk1 λhq=>?_;all_goals first|exact WH (OA 1) _
 |succ i=>
  have hl:=EM (i+2);have hg:(CL.recs 2 (fcL (i+2))).rcd (i+1)=niC (nr (fac (i+1))):=WG (i:=i+2) (j:=i+1) qqO;by_cases hlt:i+1<n
  ·refine wk2 (λhq=>?_) λhq=>?_
   ·rw[hg];rfl
   rw[hg];have v1:=Dh (n:=i+1) qqO;have v2:=G6 (x:=((i+1:Nat):Int)+1) qqO;have hm:=aip (i+1);refine wk4 ?_ ?_ ?_ ?_;all_goals(try simp only[dD,hm,WJ])
   all_goals first
    |rfl
    |exact⟨v1.1,v2.1,v1.2,v2.2⟩
    |(simp only[amL,chunks,alj,alf];omega)
    |(refine⟨i+2,[],⟨qqO,qqO⟩,?_⟩
      refine wk1 ?_;all_goals first|exact congrArg (CL.recs 2) (Kz (i+1))|rfl)
  ·have:n=i+1:=qqO
   subst this;refine wk1 λhq=>?_;all_goals first|exact WH (OA _) _
def lsT (p:List Int) (i t:Nat):Nat:=((p.drop (i+1)).take t).countP λy=>decide (y<p.getD i 0)
def lsN (p:List Int) (i:Nat):Nat:=lsT p i (p.length-(i+1))
theorem ZN {p:List Int} {i t:Nat} (h:i+1+t<p.length):lsT p i (t+1)=lsT p i t+(if p.getD (i+1+t) 0<p.getD i 0 then 1 else 0):=by
 unfold lsT;have hl:t<(p.drop (i+1)).length:=by rw[amJ];omega
 rw[List.take_add_one,alH hl,List.countP_append];congr 1;rw[List.getElem_drop];have:p.getD (i+1+t) 0=p[i+1+t]:=by rw[alC,alH h];rfl
 rw[this];simp[List.countP_cons]
theorem WK (p:List Int) (i t:Nat):lsT p i t≤t:=by
 unfold lsT;exact als List.countP_le_length (by rw[amh];omega)
def rkT (p:List Int):Nat->Nat
 |0=>0
 |i+1=>rkT p i+lsN p i*fac (p.length-1-i)
def rkN (p:List Int):Nat:=rkT p p.length
set_option exponentiation.threshold 4000 in
theorem aiq {p:List Int} (h:p.length≤256):∀i,i≤256->rkT p i≤i*256 ^ 257:=by
 intro i;induction i with
 |zero=>intro _;exact aml _
 |succ i ih=>
  intro hi;have h1:=ih qqO;have h2:lsN p i≤256:=als (WK _ _ _) qqO;have h3:fac (p.length-1-i)≤256 ^ 256:=als (WE _ qqO) (anL qqO qqO);have h4:=amy h2 h3;rw[rkT,Nat.succ_mul];have:(256:Nat)*256 ^ 256=256 ^ 257:=(apS (m:=256) (n:=256)).symm;omega
set_option exponentiation.threshold 4000 in
theorem Sl {p:List Int} (h:p.length≤256) {i:Nat} (hi:i≤256):Lw (rkT p i)≤40:=by
 refine qV ?_;have h1:=aiq h i hi;have h2:i*256 ^ 257≤256*256 ^ 257:=Nat.mul_le_mul_right _ hi;have h3:(256:Nat)*256 ^ 257=256 ^ 258:=(apS (m:=256) (n:=257)).symm;have h4:(256:Nat) ^ 258≤256 ^ 260:=anL qqO qqO;have:=aio;omega
noncomputable def alb:CPT:=ay 80 (aJ Kw) (ay 108 (aU ofP) (ay 110 (aU uT) (ay 109 (aU Ec) (ay 112 (aU xu) (ay 111 (aU GR) noC)))))
theorem afN:aZ Tryz.prog alb:=aj (aA ZL) (aj (aF oU) (aj (aF pI) (aj (aF wV) (aj (aF uW) (aj (aF Ev) aC)))))
theorem afO {a b:NI} (ha:0≤a.val) (hb:0≤b.val):addN a b=nrm (a.val+b.val):=by
 unfold addN;rw[if_neg]
 rintro⟨h1,h2,h3⟩
 have e1:a.val=a.s:=gQ h1;have e2:b.val=b.s:=gQ h2;omega
theorem Sm (p:List Int) (hp:p.length≤1000000) (h:xG 5 p=0):aB Tryz.prog 18 [.isl (.ints .i64 p) .none] (.tup [.str (rsS (rkN p:Nat)),.int .i64 (rsE (rkN p:Nat))]):=by
 have hP:=ajk qqD h;have hl:=Y9 qqD h;have hc:=bB (Di p.length hl) afN;refine au (md:=1) (rf:=[]) mixed ak hc Tryz.func18 qqR qqR qqR ?_;refine wk1 λhq=>?_;all_goals(try contradiction)
 conv=>whnf
 refine aR (X:=Nat) (λi=>i≤p.length) (λi=>[(23,.int .i64 i),(7,.any),(8,.any),(9,.any),(11,.any)]) (λi=>[(12,.cells (.pv (niC (nr (rkT p i)))) false)]) (λi=>p.length-i) 0 ⟨aH,mixed,ak,hc,aN⟩ qqR qqO ?_ ?_
 ·exact wk0
  all_goals trace_state
 intro i hi;by_cases hlt:i<p.length
 ·refine wk1 λhq=>?_
  all_goals(try omega)
  conv=>whnf
  refine aR (X:=Nat) (λt=>t≤p.length-(i+1)) (λt=>[(33,.int .i64 t),(11,.any),(9,.int .i64 (lsT p i t:Nat))]) (λt=>[]) (λt=>p.length-(i+1)-t) 0 ⟨aH,mixed,ak,hc,aN⟩ qqR qqO ?_ ?_
  ·exact wk0
   all_goals trace_state
  intro t ht;have hle:=WK p i t;have hRl:(aoz (p.length-((i:Int)+1).toNat) (aoA ((i:Int)+1).toNat p)).length=p.length-(i+1):=by
   rw[amh,amJ];omega
  have hRn:((CL.ints IntKind.i64 p).sub ((i:Int)+1).toNat p.length).ncell=p.length-(i+1):=hRl;by_cases hlt2:t<p.length-(i+1)
  ·have hRg:(aoz (p.length-((i:Int)+1).toNat) (aoA ((i:Int)+1).toNat p)).getD t 0=p.getD (i+1+t) 0:=by
    rw[alC,alC,List.getElem?_take,if_pos qqO,amK];congr 2
   have hs:=ZN (p:=p) (i:=i) (t:=t) qqO;refine wk2 (λhq hq=>?_) λhq hq=>?_;all_goals(try simp only[hRg]at*)
   all_goals first
    |omega
    |(rw[hRn];omega)
    |(refine⟨t+1,[],⟨qqO,qqO⟩,?_⟩
      first|rw[if_pos qqA]at hs|rw[if_neg qqA]at hs
      exact wk0;all_goals first|omega)
  ·have:t=p.length-(i+1):=qqO
   subst this;have hk:((p.length:Int)-1-i).toNat=p.length-1-i:=qqO;have v1:=G6 (x:=(lsT p i (p.length-(i+1)):Nat)) qqO;have v2:=Dh (n:=p.length-1-i) qqO;have hm:nrm (NI.val ⟨(lsT p i (p.length-(i+1)):Nat),[]⟩*(nr (fac (p.length-1-i))).val)=nr (lsN p i*fac (p.length-1-i)):=by
    unfold nr;rw[NI.val_sm,bg,<-an9];rfl
   have hL1:(nr (rkT p i)).L≤100000000000:=by unfold nr;rw[NI.L_nrm,aoW];exact als (Sl hl qqO) qqD
   have hL2:(nr (lsN p i*fac (p.length-1-i))).L≤100000000000:=by
    unfold nr;rw[NI.L_nrm,aoW];refine als (fK (?_:_≤rkT p (i+1))) (als (Sl hl qqO) qqD);rw[rkT];omega
   have ha:addN (nr (rkT p i)) (nr (lsN p i*fac (p.length-1-i)))=nr (rkT p (i+1)):=by
    rw[afO (by unfold nr;rw[bg];omega) (by unfold nr;rw[bg];omega)]
    unfold nr;rw[bg,bg,<-Int.natCast_add];rfl
   refine wk4 (λhq=>?_) (λhq=>?_) (λhq=>?_) λhq=>?_;all_goals(try simp only[hk,dD,hm,ha])
   all_goals first
    |omega
    |rfl
    |exact⟨v1.1,v2.1,v1.2,v2.2⟩
    |exact⟨bQ _,bQ _,hL1,hL2⟩
    |(refine⟨i+1,[],⟨qqO,qqO⟩,?_⟩
      exact wk0;all_goals first|omega)
 ·have:i=p.length:=qqO
  subst this;have hft:FT ⟨nr (rkT p p.length),gD⟩:=by
   refine⟨?_,?_⟩
   ·have:=eY ((rkT p p.length:Nat):Rat)
    have e:can ((rkT p p.length:Nat):Rat)=⟨nr (rkT p p.length),gD⟩:=rfl;rw[e]at this;exact this
   ·have e:(⟨nr (rkT p p.length),gD⟩:Fr)=can ((rkT p p.length:Nat):Rat):=rfl
    rw[e,mO];show RL _≤_;unfold RL;have h1:=Sl hl (i:=p.length) qqO;have h2:Lw 1≤1:=ow qqO;show max (Lw (Int.natAbs ((rkT p p.length:Nat):Int))) (Lw 1)≤_;rw[aoW];omega
  have hv:Fr.val ⟨nr (rkT p p.length),gD⟩=((rkT p p.length:Nat):Rat):=by
   have e:(⟨nr (rkT p p.length),gD⟩:Fr)=can ((rkT p p.length:Nat):Rat):=rfl;rw[e,d9]
  refine wk1 λhq=>?_;all_goals(try simp only[cu,hv])
  all_goals first
   |exact hft
   |exact Sup.of rfl
def upI (n:Nat):List Int:=(alA n).map λi:Nat=>(i:Int)
theorem OB (n:Nat):(upI n).length=n:=by simp[upI]
theorem ZO (n:Nat):upI n++[(n:Int)]=upI (n+1):=by simp[upI,aoQ]
structure Ur where
 l:Nat
 r:List Int
 o:List Int
def urT (n x:Nat):Nat->Ur
 |0=>⟨x,upI n,[]⟩
 |i+1=>⟨(urT n x i).l % fac (n-1-i),(urT n x i).r.eraseIdx ((urT n x i).l / fac (n-1-i)),(urT n x i).o++[(urT n x i).r.getD ((urT n x i).l / fac (n-1-i)) 0]⟩
def air (n x:Nat):List Int:=(urT n x n).o
theorem WL {n x:Nat} (hx:x<fac n):∀i,i≤n->(urT n x i).l<fac (n-i)/\(urT n x i).r.length=n-i/\(urT n x i).o.length=i:=by
 intro i;induction i with
 |zero=>intro _;exact⟨hx,OB n,rfl⟩
 |succ i ih=>
  intro hi;obtain⟨h1,h2,h3⟩:=ih qqO;have hf:=Oy (n-1-i);have hfe:fac (n-i)=fac (n-1-i)*(n-i):=by
   obtain⟨k,hk⟩:∃k,n-i=k+1:=⟨n-i-1,qqO⟩;rw[hk,show n-1-i=k by omega,fac]
  have hk:(urT n x i).l / fac (n-1-i)<n-i:=apT (by rw[<-hfe];exact h1)
  refine⟨?_,?_,?_⟩
  ·rw[show n-(i+1)=n-1-i by omega];exact Nat.mod_lt _ hf
  ·show((urT n x i).r.eraseIdx _).length=_
   rw[apR qqO,h2];omega
  ·show((urT n x i).o++[_]).length=_
   rw[amL,h3];rfl
theorem alc {n x:Nat} (hx:x<fac n) {i:Nat} (hi:i<n):(urT n x i).l / fac (n-1-i)<n-i:=by
 obtain⟨h1,h2,h3⟩:=WL hx i qqO;have hfe:fac (n-i)=fac (n-1-i)*(n-i):=by
  obtain⟨k,hk⟩:∃k,n-i=k+1:=⟨n-i-1,qqO⟩;rw[hk,show n-1-i=k by omega,fac]
 exact apT (by rw[<-hfe];exact h1)
noncomputable def ald:CPT:=ay 100 (aJ RN) (ay 113 (aJ rJ) (ay 114 (aJ lu) (ay 115 (aJ GQ) (ay 116 (aU QW) (ay 117 (aU YE) (ay 118 (aU Gw) (ay 119 (aU dmP) (ay 120 (aU Uv) (ay 121 Sk noC)))))))))
theorem afP:aZ Tryz.prog ald:=aj (aA VR) (aj (aA jr) (aj (aA jJ) (aj (aA NZ) (aj (aF JF) (aj (aF UW) (aj (aF Ed) (aj (aF QB) (aj (aF Yd) (aj ZM aC)))))))))
theorem aju {z:Int}:decide (fC z<0)=decide (z<0):=by
 rw[decide_eq_decide];unfold fC;(repeat' split)<;>omega
theorem ajv {a b:Int}:decide (0≤kT a b)=decide (b≤a):=by
 rw[decide_eq_decide];unfold kT;(repeat' split)<;>omega
theorem ZP (n:Nat) (hn:1≤n/\n≤256) (q:Rat) (hs:(txQ q).size≤1000000000) (hc0:xD (txQ q)=0) (hD:Lw q.num.natAbs≤1000/\Lw q.den≤1000) (x:Nat) (hq1:q.den=1) (hq2:q.num=x) (hx0:x<fac n):aB Tryz.prog 19 [.int .i64 n,.str (txQ q)] (.tup [.isl (.ints .i64 (air n x)) .none,.int .i64 0]):=by
 have hc1:=bB (Di n hn.2) afP;have e0:dZ [if 256<(n:Int)then 3 else 0,xD (txQ q)]=0:=by rw[hc0,if_neg qqO];rfl
 have hr:=jR q;have hx:=sJ q;have k1:(can q).OK:=eY q;have k2:(can q).d.val=1:=by show(nr q.den).val=_;unfold nr;rw[bg,hq1];try rfl
 have k3:(can q).n.val=x:=by show(nrm q.num).val=_;rw[bg,hq2]
 have k5:(can q).n=nr x:=by show nrm q.num=_;rw[hq2];try rfl
 have v2:=Dh hn.2;have v3:(can q).n.L≤100000000000:=by show(nrm q.num).L≤_;rw[NI.L_nrm];omega
 have k4:(nr (fac n)).val=(fac n:Nat):=by unfold nr;rw[bg]
 have a1:¬fC (x:Int)<0:=λh=>by have:=(decide_eq_decide.1 (aju (z:=(x:Int)))).1 h;omega
 have a2:¬0≤kT (x:Int) ((fac n:Nat):Int):=λh=>by have:=(decide_eq_decide.1 (ajv (a:=(x:Int)) (b:=((fac n:Nat):Int)))).1 h;omega
 have hsl:((nr x).val)=x:=by unfold nr;rw[bg]
 generalize txQ q=s at*
 subst hr;refine au (md:=1) (rf:=[63]) mixed ak hc1 Tryz.func19 qqR qqR qqR ?_;refine wk7 (λhq hq=>?_) (λhq hq hq hq=>?_) (λhq hq hq hq=>?_) (λhq hq hq hq hq=>?_) (λhq hq hq hq hq=>?_) (λhq hq hq hq=>?_) λhq hq hq=>?_;all_goals first
  |exact⟨hx,hs⟩
  |exact k1
  |rfl
  |exact⟨bQ _,v2.1,v3,v2.2⟩
  |contradiction
  |(exfalso
    simp only[dD,k2,k3,k4,ama,decide_eq_false_iff_not,not_true]at*
    done)
  |(exfalso
    simp only[dD,k2,k3,k4,ama,decide_eq_false_iff_not,not_true]at*
    contradiction)
  |skip
 clear k1 k2 k3 a1 a2 e0 hc0 v2 v3 k4;conv=>whnf
 refine aR (X:=Nat) (λi=>i≤n) (λi=>[(57,.int .i64 i),(12,.any),(10,match i with|0=>.nils|j+1=>.rsl 5 0 (j+1))]) (λi=>match i with|0=>[]|j+1=>[(5,.cells (.ints .i64 (upI (j+1))) false)]) (λi=>n-i) 0 ⟨aH,mixed,ak,hc1,aN⟩ qqR qqO ?_ ?_
 ·exact wk0
  all_goals trace_state
 intro i hi;cases i with
 |zero=>
  refine wk1 λhq=>?_;all_goals first
   |omega
   |(refine⟨1,[(36,5)],⟨qqO,qqO⟩,?_⟩
     exact wk0;all_goals first|rfl)
 |succ i=>
  have hul:=OB (i+1);by_cases hlt:i+1<n
  ·have hus:=ZO (i+1)
   have hus2:aoz (i+1-0) (aoA 0 (upI (i+1)))++[((i+1:Nat):Int)]=upI (i+2):=by
    rw[ao6,List.drop_zero,List.take_of_length_le qqO];exact hus
   refine wk1 λhq=>?_;all_goals first
    |omega
    |(refine⟨i+2,[(36,5)],⟨qqO,qqO⟩,?_⟩
      exact wk0;all_goals first|exact hus|exact hus2)
  ·have:n=i+1:=qqO
   subst this;refine wk1 λhq=>?_;all_goals(try omega)
   conv=>whnf
   have hinv:=λj hj=>WL hx0 j hj;have hkk:=λj hj=>alc hx0 (i:=j) hj;refine aR (X:=Nat) (λj=>j≤i+1) (λj=>[(66,.int .i64 j),(13,.any),(14,.any),(15,.any),(16,.any),(17,.any),(69,.any),(81,.any),(12,.any),(10,.rsl 5 0 (i+1-j)),(11,.isl (.ints .i64 (urT (i+1) x j).o) (.own 9))]) (λj=>[(5,.cells (.ints .i64 (urT (i+1) x j).r) false),(9,.tok 1 j),(34,.cells (.pv (niC (nr (urT (i+1) x j).l))) false)]) (λj=>i+1-j) 0 ⟨aH,mixed,ak,hc1,aN⟩ qqR qqO ?_ ?_
   ·rw[k5]
    exact wk0;all_goals first|rfl
   intro j hj;obtain⟨i1,i2,i3⟩:=hinv j hj;by_cases hlt2:j<i+1
   ·have hk1:=hkk j hlt2
    have hu:urT (i+1) x (j+1)=⟨(urT (i+1) x j).l % fac (i+1-1-j),(urT (i+1) x j).r.eraseIdx ((urT (i+1) x j).l / fac (i+1-1-j)),(urT (i+1) x j).o++[(urT (i+1) x j).r.getD ((urT (i+1) x j).l / fac (i+1-1-j)) 0]⟩:=rfl;clear hinv hkk;generalize urT (i+1) x j=U at*
    have hi1:(((i+1:Nat):Int)-1-j).toNat=i+1-1-j:=qqO;have v2:=Dh (n:=i+1-1-j) qqO;have hlL:(nr U.l).L≤100000000000:=by
     unfold nr;rw[NI.L_nrm,aoW];exact als (fK (Nat.le_of_lt i1)) (als (abQ qqO) qqD)
    have hfp:=Oy (i+1-1-j);have hfv:(nr (fac (i+1-1-j))).val=(fac (i+1-1-j):Nat):=by unfold nr;rw[bg]
    have hlv:(nr U.l).val=(U.l:Nat):=by unfold nr;rw[bg]
    have hdc:((U.l:Nat):Int) / (fac (i+1-1-j):Nat)=((U.l / fac (i+1-1-j):Nat):Int):=(Int.natCast_ediv _ _).symm;have hmv:nrm ((nr U.l).val % (nr (fac (i+1-1-j))).val)=nr (U.l % fac (i+1-1-j)):=by
     rw[hlv,hfv,<-Int.natCast_emod];try rfl
    have hnl:¬((nr U.l).s<0):=by
     rw[NI.neg_iff (bQ _),hlv];omega
    generalize hD:U.l / fac (i+1-1-j)=d at*
    generalize hE:U.l % fac (i+1-1-j)=e at*
    have hdv:divN (nr U.l) (nr (fac (i+1-1-j)))=⟨(d:Int),[]⟩:=by
     unfold divN;have e:nrm ((nr U.l).val / (nr (fac (i+1-1-j))).val)=⟨(d:Int),[]⟩:=by
      rw[hlv,hfv,hdc];exact iZ qqO
     split
     ·exact e
     ·rw[if_neg (λh=>hnl h.1)];exact e
    generalize hF:fac (i+1-1-j)=F at*
    repeat'((conv=>whnf);first|(intro hq;(try simp only[vw]at hq);try exact aV hq)|apply aI|exact aD|apply nM|apply fM)
    all_goals((try apply vM);(try simp only[vq]at*);try omega)
    all_goals(try simp only[hi1,hF,dD,hdv,hmv,anG,hfv])
    all_goals first
     |omega
     |rfl
     |exact⟨bQ _,v2.1,qqO,hlL,v2.2⟩
     |(rw[amL,alj,alf];omega)
     |(refine⟨j+1,[],⟨qqO,qqO⟩,?_⟩
       rw[hu];refine wk2 ?_ ?_;all_goals first|rfl|omega|(rw[<-hfv,hmv]))
   ·have:j=i+1:=qqO
    subst this;refine wk1 λhq=>?_;all_goals first|exact Sup.of rfl
end Go.Eng.YtmkagljofpddpaaGreatDoor
namespace Go.Eng.YtmkagljofpddpaaGreatDoor
open Go.Proofs Go.RowKit
set_option linter.unusedSimpArgs false
set_option linter.unusedVariables false
set_option maxHeartbeats 0
set_option maxRecDepth 1000000
def nmB (i:Nat) (c:Nat):Bool:=decide ((97≤c/\c≤122)∨(65≤c/\c≤90)∨(i≠0/\(c=95∨(48≤c/\c≤57))))
theorem Dj {i c:Nat}:nmB i c=true↔((97≤c/\c≤122)∨(65≤c/\c≤90)∨(i≠0/\(c=95∨(48≤c/\c≤57)))):=decide_eq_true_iff
def nO (s:ByteArray):Bool:=decide ((∀i,i<s.size->nmB i (s.get! i).toNat=true)/\0<s.size/\s.size≤24)
theorem WM (s:ByteArray):s.toList=[]↔s.size=0:=by rw[ByteArray.toList_eq,<-amT,Array.length_toList];exact Iff.rfl
theorem ZQ (s:ByteArray) (w:World):Calls Tryz.prog 37 #[.string s] w λe w'=>e=.returned (.bool (nO s))/\∃pos,w'=w.iter s pos:=by
 go_enter Tryz.func37,Tryz.ntmps37
 go_wp2
 go_loopw [2] (λn w'=>∃(pos:Nat),w'=w.iter s pos/\pos≤s.size/\∀i,i<pos->nmB i (s.get! i).toNat=true) (λ_ w'=>s.size-w'.iterPos w.heap.size)
 case atStart=>exact⟨0,rfl,qqO,λi h=>qqO⟩
 case round=>
  obtain⟨pos,rfl,hps,hok⟩:=hrel;by_cases hp:pos<s.size
  ·have hnx:∀ty,(Instr.next (.pointer (some ⟨w.heap.size,0,none⟩)) true ty).run Tryz.prog (w.iter s pos)=_:=λty=>run_next_any w s pos ty hp
   obtain⟨D,hD⟩:∃D,Utf8.decode s pos=D:=⟨_,rfl⟩;have hle:=decode_le s pos;have hhi:=decode_high s pos hp;have hlo:=decode_ascii s pos hp;rw[hD]at hle hhi hlo;simp only[hD]at hnx;obtain⟨r,m⟩:=D;simp only at hle hhi hlo hnx;obtain⟨b,hb⟩:∃b,(s[pos]'hp).toNat=b:=⟨_,rfl⟩;have hg:s.get! pos=s[pos]'hp:=by simp[ByteArray.get!,getElem!_pos,hp];rfl
   have hF:nmB pos (s.get! pos).toNat=true↔nmB pos r=true:=by
    rw[hg,hb];by_cases h:b<128
    ·have:=hlo qqO
     rw[hb]at this;rw[(Prod.mk.inj this).1]
    ·have:=hhi qqO
     rw[Dj,Dj];omega
   have hm:nmB pos r=true->m=1:=λh=>by
    rw[Dj]at h;by_cases h2:b<128
    ·exact(Prod.mk.inj (hlo qqO)).2
    ·have:=hhi qqO;omega
   have good:nmB pos r=true->(∃q,w.iter s (pos+m)=w.iter s q/\q≤s.size/\∀(i:Nat),i<q->nmB i (s.get! i).toNat=true)/\s.size-(w.iter s (pos+m)).iterPos w.heap.size<s.size-(w.iter s pos).iterPos w.heap.size:=λh=>by
    have e:=hm h;subst e;refine⟨⟨pos+1,rfl,qqO,λi hi=>?_⟩,?_⟩
    ·by_cases e:i=pos
     ·subst e;exact hF.2 h
     ·exact hok i qqO
    ·rw[World.iterPos_iter,World.iterPos_iter];omega
   have bad:¬nmB pos r=true->nO s=false:=λh=>decide_eq_false λg=>h (hF.1 (g.1 pos hp));rw[Dj]at good bad;clear hF hm hhi hlo
   go_wp2
   all_goals(try simp only[ama,decide_eq_false_iff_not,apU,decide_eq_true_eq,bne_iff_ne,beq_iff_eq,Bool.not_eq_eq_eq_not,Bool.not_true,ame,ne_eq,bne_eq_false_iff_eq,beq_eq_false_iff_ne]at*)
   all_goals first
    |(refine good ?_;omega)
    |(go_ret;rw[bad qqO];exact⟨rfl,_,rfl⟩)
    |(have hz:pos=0:=qqO
      subst hz;simp only[alO]at good;refine good ?_;omega)
  ·have hnx:∀ty,(Instr.next (.pointer (some ⟨w.heap.size,0,none⟩)) true ty).run Tryz.prog (w.iter s pos)=_:=λty=>run_next_end w s pos ty hp
   have he:pos=s.size:=qqO;subst he;have e1:(∃q,w.iter s s.size=w.iter s q):=⟨_,rfl⟩
   go_wp2
   ·rename_i h
    have e0:=WM s
    go_ret
    have:nO s=false:=decide_eq_false λg=>by have:=e0.1 h;omega
    rw[this];exact⟨rfl,e1⟩
   ·rename_i h
    have e0:=WM s
    go_ret
    have h1:s.toList.isEmpty=false:=by rw[apQ];simpa using h
    have h2:=λg=>h (e0.2 g);have:nO s=(!s.toList.isEmpty&&decide ((s.size:Int)≤24)):=by
     rw[h1];unfold nO;rw[ame,Bool.true_and,decide_eq_decide];exact⟨λg=>apV.2 g.2.2,λg=>⟨hok,Nat.pos_of_ne_zero h2,apV.1 g⟩⟩
    rw[this];exact⟨rfl,e1⟩
theorem KA (s:ByteArray):aB Tryz.prog 37 [.str s] (.bp (nO s)):=by
 refine fT (enters' Tryz.func37 qqR qqR) λS w vs himm hA=>?_;rw[Ni hA];refine⟨_,.bp _ _,(ZQ s w).mono ?_⟩
 rintro e w' ⟨rfl,pos,rfl⟩
 refine⟨rfl,rfl,rfl,rfl,?_,λk hk=>?_⟩
 ·show _≤(w.heap.push _).size
  rw[Array.size_push];omega
 ·show(w.heap.push _)[k]? =_
  rw[Array.getElem?_push,if_neg qqO]
def ZR:PSp:=λxs K=>match xs with
 | [.str s]=>VC (True)/\K (.bp (nO s))
 |_=>False
theorem ais:POK Tryz.prog 37 ZR:=by
 intro xs K h;unfold ZR at h;split at h
 ·exact⟨_,h.2,KA _⟩
 ·exact h.elim
end Go.Eng.YtmkagljofpddpaaGreatDoor
namespace Go.Eng.YtmkagljofpddpaaGreatDoor
open Go.Proofs Go.Eng.Dig Go.Eng.Dec Go.Eng.Pm Go.Eng.ElG
set_option linter.unusedSimpArgs false
set_option linter.unusedVariables false
set_option maxHeartbeats 0
set_option maxRecDepth 100000
theorem Sn {n:Nat} {f:Nat->PV} {cs:List PV} (hl:cs.length=n) (h:∀i,i<n->f i=aG cs i):gW (.gen n f) (.pv cs):=⟨hl,rfl,λj hj=>by simp only[CL.ncell]at hj;simp only[CL.get];exact(h j hj).symm⟩
abbrev stF (l:List ByteArray):PV:=.isl (.strs l) .full
theorem sV (L:List (List ByteArray)) {n:Nat} (hn:L.length=n) {f:Nat->List ByteArray} (hf:∀i,i<n->L.getD i []=f i) {S:Imm} {w:World} {ι:Ix} {t:Tok} {v:Value} (hr:Rep S w ι (.isl (.pv (L.map stF)) t) v):Rep S w ι (tmV n f) v:=by
 have hl:(L.map stF).length=n:=by rw[List.length_map,hn]
 have hg:∀(l:List (List ByteArray)) (i:Nat),i<l.length->aG (l.map stF) i=stF (l.getD i []):=by
  intro l;induction l with
  |nil=>intro i h;cases h
  |cons x l ih=>
   intro i h;cases i with
   |zero=>rfl
   |succ i=>exact ih i (by simpa using h)
 show Rep S w ι (.isl (.gen n λi=>stV (f i)) .none) v;cases hr with
 |islnil _ _ _ g=>exact .islnil _ _ _ (by rw[<-hl];exact g)
 |isl _ _ _ b off cap h1 h2 h3 h4 h5=>
  rw[show(CL.pv (L.map stF)).cnt=(CL.gen n λi=>stV (f i)).cnt from hl];refine .isl ι (.gen n λi=>stV (f i)) .none b off cap ?_ (λj hj=>h2 j ?_) (λj hj=>?_) (λg=>by cases g) (λk g=>by cases g)
  ·show n≤cap;rw[<-hl];exact h1
  ·show j<(L.map stF).length;rw[hl];exact hj
  have hj':j<n:=hj;have h:=h3 j (by show j<(L.map stF).length;rw[hl];exact hj)
  have e:(CL.pv (L.map stF)).get j=stF (f j):=by
   show aG (L.map stF) j=_;rw[hg L j qqO,hf j hj']
  rw[e]at h;exact jK (gW.rfl' _) h
def qOf (l:List (List Rat)):Nat->Nat->Rat:=λi j=>(l.getD i []).getD j 0
def vOf (l:List Rat):Nat->Rat:=λi=>l.getD i 0
def iOf (l:List (List Int)):Nat->List Int:=λi=>l.getD i []
abbrev exM:List (List Rat):=[[1,2,3],[2,4,7]]
abbrev exD:List (List Rat):=[[1,2],[3,4]]
abbrev exR:List (List Rat):=[[1,1],[2,2]]
theorem WO:jM 2 3 1 (qOf exM):=⟨qqD,qqD,qqV,qqV,qqV,qqV⟩
theorem ait:jM 2 2 1 (qOf exD):=⟨qqD,qqD,qqV,qqV,qqV,qqV⟩
theorem aiu:jM 2 2 1 (qOf exR):=⟨qqD,qqD,qqV,qqV,qqV,qqV⟩
theorem aiv:mP 2 1 (vOf [4,9]):=⟨qqV,qqV,qqV⟩
theorem aiw:mP 2 1 (vOf [1,3]):=⟨qqV,qqV,qqV⟩
theorem aix:mP 2 1 (vOf [-2,1]):=⟨qqV,qqV,qqV⟩
abbrev Sr:List (List ByteArray):=[[⟨#[49]⟩,⟨#[50]⟩,⟨#[51]⟩],[⟨#[50]⟩,⟨#[52]⟩,⟨#[55]⟩]]
abbrev ZT:List (List ByteArray):=[[⟨#[49]⟩,⟨#[50]⟩],[⟨#[51]⟩,⟨#[52]⟩]]
abbrev ZU:List (List ByteArray):=[[⟨#[49]⟩,⟨#[49]⟩],[⟨#[50]⟩,⟨#[50]⟩]]
abbrev ZV:List (List ByteArray):=[[⟨#[49]⟩,⟨#[45,49,47,50]⟩,⟨#[48]⟩]]
abbrev Sv:PV:=.isl (.pv (Sr.map stF)) .none
abbrev aiy:PV:=.isl (.pv (ZT.map stF)) .none
abbrev aiz:PV:=.isl (.pv (ZU.map stF)) .none
theorem abS:∀i,i<2->Sr.getD i []=qmL 3 (qOf exM) i:=qqV
theorem ajw:∀i,i<2->ZT.getD i []=qmL 2 (qOf exD) i:=qqV
theorem ajx:∀i,i<2->ZU.getD i []=qmL 2 (qOf exR) i:=qqV
theorem a1:aB Tryz.prog 39 [.int .i64 6,.int .i64 (-4)] (.tup [.str ⟨#[45,51,47,50]⟩,.int .i64 0]):=by
 have h:=J2 6 (-4) (by unfold iO;decide) (by unfold iO;decide)
 rw[show ofS 6 (-4)=⟨#[45,51,47,50]⟩from by decide+kernel,show ofE 6 (-4)=0 from by decide+kernel]at h
 exact h
theorem a2:aB Tryz.prog 41 [.int .i64 12,.int .i64 (-18)] (.tup [.int .i64 6,.int .i64 0]):=by
 have h:=FH 12 (-18);rw[show xA 12 (-18)=(6,0)from by decide+kernel]at h
 exact h
theorem a3:aB Tryz.prog 45 [.int .i64 3,.int .i64 10] (.tup [.int .i64 7,.int .i64 0]):=by
 have h:=FJ 3 10;rw[show Ae 3 10=(7,0)from by decide+kernel]at h
 exact h
theorem a7:aB Tryz.prog 18 [.isl (.ints .i64 [2,0,1]) .none] (.tup [.str ⟨#[52]⟩,.int .i64 0]):=by
 have h:=Sm [2,0,1] qqD qqV;rw[show rsS (rkN [2,0,1]:Nat)=⟨#[52]⟩from by decide+kernel,show rsE (rkN [2,0,1]:Nat)=0 from by decide+kernel]at h
 exact h
theorem a8:aB Tryz.prog 19 [.int .i64 4,.str ⟨#[50,51]⟩] (.tup [.isl (.ints .i64 [3,2,1,0]) .none,.int .i64 0]):=by
 have h:=ZP 4 qqD 23 qqV qqV qqV 23 qqV qqV qqV;rw[show txQ 23=⟨#[50,51]⟩from by decide+kernel,show air 4 23=[3,2,1,0]from by decide+kernel]at h
 exact h
theorem a9:aB Tryz.prog 70 [Sv] (.tup [.isl (.pv [stV [⟨#[49]⟩,⟨#[45,49,47,50]⟩,⟨#[48]⟩]]) .none,.int .i64 0]):=by
 have h:=ZB WO qqD (by unfold ah8;decide+kernel)
 unfold mtR at h;rw[show mtE (keQ 2 3 (qOf exM)).piv.length 3 (keQ 2 3 (qOf exM)).M=0 from by decide+kernel,show mtN (keQ 2 3 (qOf exM)).piv.length 3 (keQ 2 3 (qOf exM)).M=1 from by decide+kernel]at h
 refine ku (dh (ys:=[tmV 2 (qmL 3 (qOf exM))]) (λS wd vs hA=>⟨hA.1,λi hi=>?_⟩) h) (vg (Sn (n:=1) rfl λi hi=>?_) _ _)
 ·have:=hA.2 i hi
  match i,hi with
  |0,_=>exact sV Sr rfl abS this
 ·obtain rfl:i=0:=qqO
  exact congrArg stV qqV
theorem a10:aB Tryz.prog 93 [Sv,stV [⟨#[52]⟩,⟨#[57]⟩]] (.tup [stV [⟨#[49]⟩,⟨#[48]⟩,⟨#[49]⟩],.int .i64 0]):=by
 have h:=ZF WO aiv qqD qqV;unfold Kv at h;rw[show ZE 3 (svQ (slQ 2 3 (qOf exM) (vOf [4,9])) 3 (slQ 2 3 (qOf exM) (vOf [4,9])).piv.length)=[⟨#[49]⟩,⟨#[48]⟩,⟨#[49]⟩]from by decide+kernel,show R8 3 (svQ (slQ 2 3 (qOf exM) (vOf [4,9])) 3 (slQ 2 3 (qOf exM) (vOf [4,9])).piv.length)=0 from by decide+kernel]at h
 refine dh (ys:=[tmV 2 (qmL 3 (qOf exM)),stV (qsL 2 (vOf [4,9]))]) (λS wd vs hA=>⟨hA.1,λi hi=>?_⟩) h;have:=hA.2 i hi
 match i,hi with
 |0,_=>exact sV Sr rfl abS this
 |1,_=>rw[show qsL 2 (vOf [4,9])=[⟨#[52]⟩,⟨#[57]⟩]from by decide+kernel];exact this
theorem a11:aB Tryz.prog 33 [aiy] (.tup [.str ⟨#[45,50]⟩,.int .i64 0]):=by
 have h:=ZC ait qqV;rw[show rsS (deQ 2 (qOf exD))=⟨#[45,50]⟩from by decide+kernel,show rsE (deQ 2 (qOf exD))=0 from by decide+kernel]at h
 refine dh (ys:=[tmV 2 (qmL 2 (qOf exD))]) (λS wd vs hA=>⟨hA.1,λi hi=>?_⟩) h;have:=hA.2 i hi
 match i,hi with
 |0,_=>exact sV ZT rfl ajw this
theorem a13:aB Tryz.prog 95 [aiz,stV [⟨#[49]⟩,⟨#[51]⟩],stV [⟨#[45,50]⟩,⟨#[49]⟩]] (.int .i64 0):=by
 have h:=ZI aiu aiw aix qqD qqD;rw[show crQ 2 2 (qOf exR) (vOf [1,3]) (vOf [-2,1])=true from by decide+kernel,if_pos rfl]at h
 refine dh (ys:=[tmV 2 (qmL 2 (qOf exR)),stV (qsL 2 (vOf [1,3])),stV (qsL 2 (vOf [-2,1]))]) (λS wd vs hA=>⟨hA.1,λi hi=>?_⟩) h;have:=hA.2 i hi
 match i,hi with
 |0,_=>exact sV ZU rfl ajx this
 |1,_=>rw[show qsL 2 (vOf [1,3])=[⟨#[49]⟩,⟨#[51]⟩]from by decide+kernel];exact this
 |2,_=>rw[show qsL 2 (vOf [-2,1])=[⟨#[45,50]⟩,⟨#[49]⟩]from by decide+kernel];exact this
abbrev exI:List (List Int):=[[1,2],[3,4]]
theorem aiA:Zy 2 2 (iOf exI) 2:=⟨qqD,qqD,⟨qqD,qqD⟩,qqV,⟨qqD,qqD⟩,qqD,qqD⟩
abbrev aiB:PV:=.isl (.rows .i64 exI) .none
theorem a12:aB Tryz.prog 57 [aiB,.int .i64 2] (.tup [.isl (.rows .i64 [[0,1]]) .none,.int .i64 0]):=by
 have h:=Zz 2 2 (iOf exI) 2 aiA (k:=0) qqV;rw[show(gZ (Fp 2) 0 1 2 2 (rsM 2 (iOf exI))).piv.length=1 from by decide+kernel]at h
 refine ku (dh (ys:=[tmI 2 (iOf exI),.int .i64 2]) (λS wd vs hA=>⟨hA.1,λi hi=>?_⟩) (Ga h qqD)) (vg ?_ _ _)
 ·have:=hA.2 i hi
  match i,hi with
  |0,_=>exact jK (vE exI) this
  |1,_=>exact this
 ·refine⟨rfl,rfl,λj hj=>?_⟩
  obtain rfl:j=0:=by simp only[CL.ncell]at hj;omega
  show PV.isl (.ints .i64 [0,1]) .none=PV.isl (.ints .i64 (cO 2 ((gZ (Fp 2) 0 1 2 2 (rsM 2 (iOf exI))).M 0))) .none;rw[show cO 2 ((gZ (Fp 2) 0 1 2 2 (rsM 2 (iOf exI))).M 0)=[0,1]from by decide+kernel]
theorem b1:aB Tryz.prog 77 [.isl (.pv [stV [⟨#[49]⟩,⟨#[45,49,47,50]⟩,⟨#[48]⟩]]) .none,.isl (.pv (ZV.map stF)) .none] (.bp true):=by
 have h:=WA 1 1 (λ_=>[⟨#[49]⟩,⟨#[45,49,47,50]⟩,⟨#[48]⟩]) (λ_=>[⟨#[49]⟩,⟨#[45,49,47,50]⟩,⟨#[48]⟩]) qqD qqD qqD true (by simp[aik])
 refine dh (ys:=[tmV 1 λ_=>[⟨#[49]⟩,⟨#[45,49,47,50]⟩,⟨#[48]⟩],tmV 1 λ_=>[⟨#[49]⟩,⟨#[45,49,47,50]⟩,⟨#[48]⟩]]) (λS wd vs hA=>⟨hA.1,λi hi=>?_⟩) h;have:=hA.2 i hi
 match i,hi with
 |0,_=>exact jK (CX (n:=1) rfl λi hi=>by(obtain rfl:i=0:=qqO);rfl) this
 |1,_=>exact sV ZV rfl qqD this
def Sw:PSp:=λxs K=>match xs with
 | [.isl (.rows .i64 a) .none,.isl (.rows .i64 b) .none]=>VC ((a.length≤1000000/\b.length≤1000000)/\(∀r,r∈a->r.length≤1000000000)/\(∀r,r∈b->r.length≤1000000000))/\K (.bp (decide (a=b)))
 |_=>False
theorem afQ:POK Tryz.prog 61 Sw:=by
 intro xs K hk;unfold Sw at hk;split at hk
 ·exact⟨_,hk.2,WB _ _ hk.1.get.1 hk.1.get.2.1 hk.1.get.2.2⟩
 ·exact hk.elim
noncomputable def ale:CPT:=iJ 39 [.int .i64 6,.int .i64 (-4)] (.tup [.str ⟨#[45,51,47,50]⟩,.int .i64 0])
 (iJ 41 [.int .i64 12,.int .i64 (-18)] (.tup [.int .i64 6,.int .i64 0])
 (iJ 45 [.int .i64 3,.int .i64 10] (.tup [.int .i64 7,.int .i64 0])
 (iJ 84 [nN] (.tup [.isl (.rows .i64 cyR) .none,.int .i64 0])
 (iJ 85 [.isl (.ints .i64 exU) .none] (.tup [.int .i64 (-1),.int .i64 0])
 (iJ 83 [.isl (.ints .i64 exU) .none,.int .i64 2] (.tup [.isl (.ints .i64 [2,0,1,3,4]) .none,.int .i64 0])
 (iJ 18 [.isl (.ints .i64 [2,0,1]) .none] (.tup [.str ⟨#[52]⟩,.int .i64 0])
 (iJ 19 [.int .i64 4,.str ⟨#[50,51]⟩] (.tup [.isl (.ints .i64 [3,2,1,0]) .none,.int .i64 0])
 (iJ 70 [Sv] (.tup [.isl (.pv [stV [⟨#[49]⟩,⟨#[45,49,47,50]⟩,⟨#[48]⟩]]) .none,.int .i64 0])
 (iJ 93 [Sv,stV [⟨#[52]⟩,⟨#[57]⟩]] (.tup [stV [⟨#[49]⟩,⟨#[48]⟩,⟨#[49]⟩],.int .i64 0])
 (iJ 33 [aiy] (.tup [.str ⟨#[45,50]⟩,.int .i64 0])
 (iJ 57 [aiB,.int .i64 2] (.tup [.isl (.rows .i64 [[0,1]]) .none,.int .i64 0])
 (iJ 95 [aiz,stV [⟨#[49]⟩,⟨#[51]⟩],stV [⟨#[45,50]⟩,⟨#[49]⟩]] (.int .i64 0)
 (iJ 77 [.isl (.pv [stV [⟨#[49]⟩,⟨#[45,49,47,50]⟩,⟨#[48]⟩]]) .none,.isl (.pv (ZV.map stF)) .none] (.bp true)
 (ay 61 (aJ Sw) (ay 51 (aJ GZ) (ay 106 (aJ G5) (ay 37 (aJ ZR) noC)))))))))))))))))
theorem afR:aZ Tryz.prog ale:=bB a1 (bB a2 (bB a3 (bB ak6 (bB ak8 (bB ak9 (bB a7 (bB a8 (bB a9 (bB a10 (bB a11 (bB a12 (bB a13 (bB b1 (aj (aA afQ) (aj (aA Ow) (aj (aA Ox) (aj (aA ais) aC)))))))))))))))))
theorem Sy:aB Tryz.prog 17 [] (.bp true):=by
 refine au (md:=1) (rf:=[]) mixed ak afR Tryz.func17 qqR qqR qqR ?_
 repeat'((conv=>whnf);first|(intro hq;(try simp only[vw]at hq);try exact aV hq)|apply aI|exact aD|apply nM|apply fM)
 all_goals((try apply vM);(try simp only[vq]at*);try omega)
 all_goals(try rfl)
 all_goals(try decide+kernel)
 all_goals(try(exfalso;exact absurd hq qqV))
 have hb:∀b,b=true->Sup (dJ [PV.bp b]) (PV.bp true):=λb e=>by subst e;exact Sup.of rfl
 all_goals first|exact hb _ qqV
end Go.Eng.YtmkagljofpddpaaGreatDoor
namespace Go.Eng.YtmkagljofpddpaaGreatDoor
open Go.Proofs Go.Eng.Dig Go.Eng.Pm
set_option linter.unusedSimpArgs false
set_option linter.unusedVariables false
set_option maxHeartbeats 0
set_option maxRecDepth 100000
theorem ZW (n:Int):aB Tryz.prog 42 [.int .i64 n] (.bp (!smQ n)):=by
 have e1:n< -999999999->smQ n=false:=λh=>(Ru n).2 qqO;have e2:999999999<n->smQ n=false:=λh=>(Ru n).2 qqO;have e3:¬n< -999999999->¬999999999<n->smQ n=true:=λa b=>(nJ n).2 qqO;have e4:¬n< -999999999->decide (999999999<n)=!smQ n:=λa=>by
  by_cases b:999999999<n
  ·rw[e2 b];simp[b]
  ·rw[e3 a b];simp[b]
 refine au (md:=1) (rf:=[]) mixed ak aC Tryz.func42 qqR qqR qqR ?_;refine wk2 (λhq=>?_) λhq=>?_;all_goals first
  |(rw[e1 qqA];exact dY rfl)
  |(rw[<-e4 qqA];exact Sup.of rfl)
def lC (x e b y:Int):Prop:=if b≠0 then x=0/\e=b else e=0/\x=y
theorem KC (x e b y:Int) (h:lC x e b y):aB Tryz.prog 43 [.int .i64 x,.int .i64 e,.int .i64 b,.int .i64 y] (.bp true):=by
 by_cases hb:b=0
 ·subst hb
  unfold lC at h;rw[if_neg qqS]at h;obtain⟨rfl,rfl⟩:=h;refine au (md:=1) (rf:=[]) mixed ak aC Tryz.func43 qqR qqR qqR ?_;refine wk1 λhq hq=>?_;all_goals first|exact dY rfl|exact Sup.of rfl|(rw[decide_eq_true rfl];exact Sup.of rfl)|(exfalso;omega)
 ·unfold lC at h
  rw[if_pos hb]at h;obtain⟨rfl,rfl⟩:=h;refine au (md:=1) (rf:=[]) mixed ak aC Tryz.func43 qqR qqR qqR ?_;refine wk1 λhq hq=>?_;all_goals first|exact dY rfl|exact Sup.of rfl|(rw[decide_eq_true rfl];exact Sup.of rfl)|(exfalso;omega)
end Go.Eng.YtmkagljofpddpaaGreatDoor
namespace Go.Eng.YtmkagljofpddpaaGreatDoor
open Go.Proofs Go.Eng.Dig Go.Eng.Dec
set_option linter.unusedSimpArgs false
set_option linter.unusedVariables false
set_option maxHeartbeats 0
set_option maxRecDepth 100000
noncomputable def ajy:CPT:=ay 138 (aJ Es) (ay 137 (aJ NW) (ay 139 (aJ Rl) (ay 140 (aJ CU) noC)))
theorem Ay:aZ Tryz.prog ajy:=aj (aA Vw) (aj (aA VI) (aj (aA aeO) (aj (aA JO) aC)))
theorem sW {x:Nat} (h:x≤9223372036854775808):L9 x≤400000000:=als (CQ (k:=3) (an4 h qqD)) qqD
def G7 (n d:Int):Prop:=n< -4000000000000000000∨4000000000000000000<n∨d< -4000000000000000000∨4000000000000000000<d
theorem Sz (n d:Int) (hn:iO n) (hd:iO d) (h0:d≠0) (hb:G7 n d):aB Tryz.prog 40 [.int .i64 n,.int .i64 d] (.str (txQ (Rat.divInt n d))):=by
 have h1:=hn;have h2:=hd;unfold G7 at hb;unfold iO at h1 h2;have l1:L9 n.natAbs≤400000000:=sW qqO;have l2:L9 d.natAbs≤400000000:=sW qqO;have V:∀_:Unit,(D9 (dl B9 n.natAbs)/\decide (n<0)=decide (sgz (decide (n<0)) (v9 (dl B9 n.natAbs))<0))/\(D9 (dl B9 d.natAbs)/\decide (d<0)=decide (sgz (decide (d<0)) (v9 (dl B9 d.natAbs))<0)):=λ_=>⟨GH _,GH _⟩;have en:sgz (decide (n<0)) (v9 (dl B9 n.natAbs))=n:=uY n;have ed:sgz (decide (d<0)) (v9 (dl B9 d.natAbs))=d:=uY d;refine au (md:=1) (rf:=[]) mixed ak Ay Tryz.func40 qqR qqR qqR ?_
 repeat'((conv=>whnf);first|(intro hq;(try simp only[vw]at hq);try exact aV hq)|apply aI|exact aD|apply nM|apply fM)
 all_goals((try apply vM);(try simp only[vq]at*);try omega)
 all_goals first
  |exact(V ()).1
  |exact(V ()).2
  |(rw[en,ed];exact⟨h0,l1,l2⟩)
  |(rw[en,ed];exact Sup.of rfl)
theorem KD (n d:Int) (hd:0<d) (hn:n.natAbs≤4000000000000000000) (hd2:d≤4000000000000000000):∃(G:Nat) (v B:Int),
 aoF (max n (0-n)).toNat d.toNat=G/\0<G/\n.tdiv G=v/\d.tdiv G=B/\v.natAbs≤4000000000000000000/\0<B/\B≤4000000000000000000/\
 (bF v.natAbs).size≤100/\(bF B.toNat).size≤100/\
 txQ (Rat.divInt n d)=(if B=1 then sgB v++bF v.natAbs else sgB v++bF v.natAbs++kSl++bF B.toNat):=by
 obtain⟨A,B,G,hA,hB,hG,hlA,hlB,hlG,hne,hAi,hBi,hone,htx⟩:=rM n d hd (sW qqO) (sW qqO);have hGp:0<G:=by rw[<-hG];exact Nat.gcd_pos_of_pos_right _ qqO
 have e1:(max n (0-n)).toNat=n.natAbs:=qqO;have e2:d.toNat=d.natAbs:=qqO;rw[hG]at hA hB;have hBp:0<B:=by
  rw[<-hB];exact Nat.div_pos (by rw[<-hG];exact Nat.gcd_le_right _ qqO) hGp
 have hv:n.tdiv (G:Int)=sgz (decide (n<0)) A:=by
  unfold sgz;by_cases h:n<0
  ·rw[decide_eq_true h,if_pos rfl,<-hA]
   have e:n= -((n.natAbs:Nat):Int):=qqO;generalize n.natAbs=x at*
   subst e;rw[Int.neg_tdiv];rfl
  ·rw[decide_eq_false h,if_neg qqS,<-hA]
   have e:n=((n.natAbs:Nat):Int):=qqO;generalize n.natAbs=x at*
   subst e;rfl
 have hd3:d.tdiv (G:Int)=(B:Int):=by
  rw[<-hB];have e:d=((d.natAbs:Nat):Int):=qqO;generalize d.natAbs=x at*
  subst e;rfl
 have hAl:A≤4000000000000000000:=by rw[<-hA];exact als (aon _ _) hn
 have hBl:B≤4000000000000000000:=by rw[<-hB];exact als (aon _ _) qqO
 have sz:∀x,x≤4000000000000000000->(bF x).size≤100:=λx h=>by
  have h1:=yM x;have h2:L9 x≤3:=CQ (an4 h qqD);omega
 refine⟨G,sgz (decide (n<0)) A,B,by rw[e1,e2];exact hG,hGp,hv,hd3,by rw[jX];exact hAl,qqO,qqO,by rw[jX];exact sz A hAl,sz _ hBl,?_⟩
 rw[htx,gX (sgz (decide (n<0)) A),jX,pQ];by_cases h:B=1
 ·rw[if_pos h,if_pos qqO]
 ·rw[if_neg h,if_neg qqO];rfl
theorem SA (n d:Int) (hd:0<d) (hn: -4000000000000000000≤n/\n≤4000000000000000000) (hd2:d≤4000000000000000000):aB Tryz.prog 40 [.int .i64 n,.int .i64 d] (.str (txQ (Rat.divInt n d))):=by
 obtain⟨G,v,B,hG,hGp,hv,hB,hvl,hBp,hBl,z1,z2,htx⟩:=KD n d hd qqO hd2;rw[htx];clear htx;have e1:(max v (0-v)).toNat=v.natAbs:=qqO;have hsm:(⟨#[45]⟩:ByteArray).size=1:=rfl;have hsl:(⟨#[47]⟩:ByteArray).size=1:=rfl;have hse:(⟨#[]⟩:ByteArray).size=0:=rfl;have hn1:(max n (0-n)).toNat=n.natAbs:=qqO;have hGr:n.tdiv ((aoF (max n (0-n)).toNat d.toNat:Nat):Int)=v:=by rw[hG];exact hv
 have hBr:d.tdiv ((aoF (max n (0-n)).toNat d.toNat:Nat):Int)=B:=by rw[hG];exact hB
 have hGi:((aoF (max n (0-n)).toNat d.toNat:Nat):Int)=G:=by rw[hG]
 have hem:∀s:ByteArray,(⟨#[]⟩:ByteArray)++s=s:=λs=>ByteArray.empty_append;have hone:an8 1=1:=rfl;clear hG hv hB;unfold sgB;refine au (md:=1) (rf:=[]) mixed ak Ay Tryz.func40 qqR qqR qqR ?_;all_goals exact Fu
theorem SB (n' d':Int) (hd:d'<0) (hn: -4000000000000000000≤n'/\n'≤4000000000000000000) (hd2: -4000000000000000000≤d'):aB Tryz.prog 40 [.int .i64 n',.int .i64 d'] (.str (txQ (Rat.divInt n' d'))):=by
 have hdi:Rat.divInt n' d'=Rat.divInt (0-n') (0-d'):=by rw[apW,apW,Rat.divInt_neg',Int.neg_neg]
 rw[hdi];obtain⟨G,v,B,hG,hGp,hv,hB,hvl,hBp,hBl,z1,z2,htx⟩:=KD (0-n') (0-d') qqO qqO qqO;rw[htx];clear htx;have e1:(max v (0-v)).toNat=v.natAbs:=qqO;have hsm:(⟨#[45]⟩:ByteArray).size=1:=rfl;have hsl:(⟨#[47]⟩:ByteArray).size=1:=rfl;have hse:(⟨#[]⟩:ByteArray).size=0:=rfl;have hGr:(0-n').tdiv ((aoF (max (0-n') (0-(0-n'))).toNat (0-d').toNat:Nat):Int)=v:=by rw[hG];exact hv
 have hBr:(0-d').tdiv ((aoF (max (0-n') (0-(0-n'))).toNat (0-d').toNat:Nat):Int)=B:=by rw[hG];exact hB
 have hGi:((aoF (max (0-n') (0-(0-n'))).toNat (0-d').toNat:Nat):Int)=G:=by rw[hG]
 have hem:∀s:ByteArray,(⟨#[]⟩:ByteArray)++s=s:=λs=>ByteArray.empty_append;have hone:an8 1=1:=rfl;clear hG hv hB;unfold sgB;refine au (md:=1) (rf:=[]) mixed ak Ay Tryz.func40 qqR qqR qqR ?_;all_goals exact Fu
theorem KE (n d:Int) (hn:iO n) (hd:iO d) (h0:d≠0):aB Tryz.prog 40 [.int .i64 n,.int .i64 d] (.str (txQ (Rat.divInt n d))):=by
 by_cases hb:G7 n d
 ·exact Sz n d hn hd h0 hb
 ·unfold G7 at hb
  by_cases h:0<d
  ·exact SA n d h qqO qqO
  ·exact SB n d qqO qqO qqO
structure QT (t:ByteArray) (x d:Nat):Prop where
 sl:slP t.data.toList=(bF x).size
 sz:t.size=(bF x).size+(if d=1 then 0 else(bF d).size+1)
 hd:t.extract 0 (bF x).size=bF x
 tl:d≠1->t.extract ((bF x).size+1) t.size=bF d
def qk (q:Rat):Bool:=decide ((bF q.num.natAbs).size≤9)&&decide ((bF q.den).size≤9)
theorem ajz {n d:Int} {k:Nat} (h0:d≠0) (h1:L9 n.natAbs≤k) (h2:L9 d.natAbs≤k):Q9 (Rat.divInt n d)≤k:=by
 have e1:(Rat.divInt n d).num.natAbs≤n.natAbs:=by
  rw[Rat.num_divInt,Int.natAbs_ediv_of_dvd (by
   refine Int.dvd_mul_of_dvd_right ?_;exact Int.gcd_dvd_right ..)]
  refine als (aon _ _) ?_;rw[Int.natAbs_mul,Int.natAbs_sign_of_ne_zero h0,Nat.one_mul];exact Nat.le_refl _
 have e2:(Rat.divInt n d).den≤d.natAbs:=by
  rw[Rat.den_divInt,if_neg h0];exact aon _ _
 have:=pR e1;have:=pR e2;unfold Q9;omega
end Go.Eng.YtmkagljofpddpaaGreatDoor
namespace Go.Eng.YtmkagljofpddpaaGreatDoor
open Go.Proofs Go.Eng.Dig Go.Eng.Dec Go.Eng.Pm
set_option linter.unusedSimpArgs false
set_option linter.unusedVariables false
set_option maxHeartbeats 0
set_option maxRecDepth 100000
theorem oD {b c:Bool} (h:b=c):Sup (.bp b) (.bool c):=⟨λhr=>by subst h;cases hr;exact .bool _ _⟩
theorem KF (z:Int):txQ (z:Rat)=itB z:=by rw[qH qqR];rfl
theorem afS (z:Int):xE (z:Rat)=((z.natAbs:Int):Rat):=by
 obtain⟨h1,h2⟩:=ahW (z:Rat);refine Rat.ext ?_ ?_
 ·rw[h1];rfl
 ·rw[h2];rfl
theorem aiC (z:Int) (hs:(itB z).size≤1000000000000):aB Tryz.prog 154 [.str (itB z)] (.str (bF z.natAbs)):=by
 have h:=ae4 [.str (itB z)] (λv=>v=.str (bF z.natAbs)) ⟨⟨⟨_,(KF z).symm⟩,hs⟩,by
  show PV.str (txQ (xE (rdQ (itB z))))=_;rw[<-KF,jR,afS,KF,pQ]⟩
 obtain⟨v,rfl,h⟩:=h;exact h
theorem aiD (q:Rat) (hs:(txQ q).size≤1099511627776):aB Tryz.prog 155 [.str (txQ q)] (.str (itB q.num)):=by
 have h:=ae5 [.str (txQ q)] (λv=>v=.str (itB q.num)) ⟨⟨sJ q,hs⟩,by
  show PV.str (itB (rdQ (txQ q)).num)=_;rw[jR]⟩
 obtain⟨v,rfl,h⟩:=h;exact h
theorem aiE (q:Rat) (hs:(txQ q).size≤1099511627776):aB Tryz.prog 156 [.str (txQ q)] (.str (bF q.den)):=by
 have h:=ae6 [.str (txQ q)] (λv=>v=.str (bF q.den)) ⟨⟨sJ q,hs⟩,by
  show PV.str (itB ((rdQ (txQ q)).den:Int))=_;rw[jR,pQ]⟩
 obtain⟨v,rfl,h⟩:=h;exact h
theorem L8 (q:Rat) (hs:(txQ q).size≤1000000000000):aB Tryz.prog 122 [.str (txQ q)] (.int .i64 (rsE q)):=by
 have h1:=iR q;have hc:=bB (aiD q qqO) (bB (aiC q.num qqO) (bB (aiE q qqO) aC));have e:rsE q=if 600<(bF q.num.natAbs).size∨600<(bF q.den).size then 4 else 0:=by
  unfold rsE lgQ lgI;simp only[aoW];by_cases a:600<(bF q.num.natAbs).size<;>by_cases b:600<(bF q.den).size<;>simp[a,b]
 rw[e];generalize(bF q.num.natAbs)=A at*
 generalize(bF q.den)=B at*
 refine au (md:=1) (rf:=[]) mixed ak hc Tryz.func122 qqR qqR qqR ?_;refine wk3 (λhq hq=>?_) (λhq hq=>?_) λhq=>?_;all_goals first
  |rfl
  |(rw[if_pos qqO];exact Sup.of rfl)
  |(rw[if_neg qqO];exact Sup.of rfl)
def G8 (x:ByteArray) (e b:Int) (y:ByteArray):Prop:=(b≠0/\x=⟨#[]⟩/\e=b)∨(b=0/\∃q,y=txQ q/\y.size≤1000000000000/\x=rsS q/\e=rsE q)
theorem aiF {q:Rat} (h:rsE q=0):rsS q=txQ q:=by
 unfold rsE at h;unfold rsS;split
 ·rename_i g;rw[if_pos g]at h;cases h
 ·rfl
theorem aiG {q:Rat} (h:¬rsE q=0):rsS q=⟨#[]⟩:=by
 unfold rsE at h;unfold rsS;split
 ·rfl
 ·rename_i g;rw[if_neg g]at h;exact absurd rfl h
theorem Md (x:ByteArray) (e b:Int) (y:ByteArray) (h:G8 x e b y):aB Tryz.prog 21 [.str x,.int .i64 e,.int .i64 b,.str y] (.bool true):=by
 have hem:(ByteArray.empty:ByteArray)=⟨#[]⟩:=rfl;rcases h with⟨h1,rfl,rfl⟩|⟨rfl,q,rfl,hs,rfl,rfl⟩
 ·skip
  refine au (md:=1) (rf:=[]) mixed ak aC Tryz.func21 qqR qqR qqR ?_;refine wk1 λhq hq hq=>?_;all_goals first
   |rfl
   |omega
   |contradiction
   |exact oD rfl
   |exact Sup.of rfl
   |(exact oD (decide_eq_true rfl))
 ·have hc:=bB (L8 q hs) aC
  by_cases h0:rsE q=0
  ·rw[aiF h0]
   rw[h0]at hc⊢;refine au (md:=1) (rf:=[]) mixed ak hc Tryz.func21 qqR qqR qqR ?_;refine wk1 λhq hq hq=>?_;all_goals first
    |rfl
    |omega
    |contradiction
    |exact oD rfl
    |exact Sup.of rfl
    |(exact oD (decide_eq_true rfl))
  ·rw[aiG h0]
   generalize rsE q=E at*
   refine au (md:=1) (rf:=[]) mixed ak hc Tryz.func21 qqR qqR qqR ?_;refine wk1 λhq hq hq=>?_;all_goals first
    |rfl
    |omega
    |contradiction
    |exact oD rfl
    |exact Sup.of rfl
    |(exact oD (decide_eq_true rfl))
def abT:PSp:=λxs K=>match xs with
 | [.str x,.int .i64 e,.int .i64 b,.str y]=>VC (G8 x e b y)/\K (.bool true)
 |_=>False
theorem OC:POK Tryz.prog 21 abT:=by
 intro xs K h;unfold abT at h;split at h
 ·exact⟨_,h.2,Md _ _ _ _ h.1.get⟩
 ·exact h.elim
def abU:PSp:=λxs K=>match xs with
 | [.int .i64 x,.int .i64 e,.int .i64 b,.int .i64 y]=>VC (lC x e b y)/\K (.bool true)
 |_=>False
theorem OD:POK Tryz.prog 43 abU:=by
 intro xs K h;unfold abU at h;split at h
 ·exact⟨_,h.2,ku (KC _ _ _ _ h.1.get) (oD rfl)⟩
 ·exact h.elim
theorem WQ (n:Int):aB Tryz.prog 42 [.int .i64 n] (.bp (decide (n< -999999999∨999999999<n))):=by
 have h:=ZW n;have e:(!smQ n)=decide (n< -999999999∨999999999<n):=by
  unfold smQ;rw[<-decide_not,decide_eq_decide];omega
 rw[e]at h;exact h
def abV:PSp:=λxs K=>match xs with
 | [.int .i64 n]=>VC (True)/\K (.bp (decide (n< -999999999∨999999999<n)))
 |_=>False
theorem OE:POK Tryz.prog 42 abV:=by
 intro xs K h;unfold abV at h;split at h
 ·exact⟨_,h.2,WQ _⟩
 ·exact h.elim
theorem WR (x y:Int) (hx: -999999999≤x/\x≤999999999) (hy: -999999999≤y/\y≤999999999):aB Tryz.prog 44 [.int .i64 x,.int .i64 y] (.int .i64 (aoF x.natAbs y.natAbs:Nat)):=by
 have e1:max x (0-x)=(x.natAbs:Nat):=qqO;have e2:max y (0-y)=(y.natAbs:Nat):=qqO;have hc:=bB (FD x.natAbs y.natAbs qqO qqO) aC;refine au (md:=1) (rf:=[]) mixed ak hc Tryz.func44 qqR qqR qqR ?_;refine wk2 ?_ ?_;all_goals(try simp only[e1,e2])
 all_goals first
  |rfl
  |omega
  |exact Sup.of rfl
def abW:PSp:=λxs K=>match xs with
 | [.int .i64 x,.int .i64 y]=>VC ((-999999999≤x/\x≤999999999)/\(-999999999≤y/\y≤999999999))/\K (.int .i64 (aoF x.natAbs y.natAbs:Nat))
 |_=>False
theorem OG:POK Tryz.prog 44 abW:=by
 intro xs K h;unfold abW at h;split at h
 ·exact⟨_,h.2,WR _ _ h.1.get.1 h.1.get.2⟩
 ·exact h.elim
theorem abX (s:ByteArray) (i:Nat):s.get! i=s.data.getD i 0:=by
 cases s
 simp[ByteArray.get!,getElem!_def,alz];split
 ·simp_all
 ·simp_all
  all_goals rfl
theorem WS (s:ByteArray) (hs:s.size≤1000000):aB Tryz.prog 38 [.str s] (.bp (nO s)):=by
 by_cases hz:0<s.size/\s.size≤24
 ·skip
  refine au (md:=1) (rf:=[]) mixed ak aC Tryz.func38 qqR qqR qqR ?_
  repeat'((conv=>whnf);first|(intro hq;(try simp only[vw]at hq);try exact aV hq)|apply aI|exact aD|apply nM|apply fM)
  all_goals((try apply vM);(try simp only[vq]at*);try omega)
  all_goals try(exfalso;omega)
  conv=>whnf
  refine aR (X:=Nat) (λi=>i≤s.size/\∀j,j<i->nmB j (s.data.getD j 0).toNat=true) (λi=>[(3,.int .i64 i),(4,.any),(5,.any)]) (λ_=>[]) (λi=>s.size-i) 0 ⟨aH,mixed,ak,aC,aN⟩ qqR ⟨qqO,λj h=>qqO⟩ ?_ ?_
  ·exact wk0
   all_goals skip
  intro i ⟨h1,h2⟩;by_cases hlt:i<s.size
  ·have hy:nmB i (s.data.getD i 0).toNat=true->∀j,j<i+1->nmB j (s.data.getD j 0).toNat=true:=λa j hj=>by
    by_cases e:j=i
    ·subst e;exact a
    ·exact h2 j qqO
   have hf:¬nmB i (s.data.getD i 0).toNat=true->nO s=false:=λa=>decide_eq_false λh=>a (by have:=h.1 i hlt;rw[abX]at this;exact this)
   clear h2;have hn:=Dj (i:=i) (c:=(s.data.getD i 0).toNat);have hf':¬((97≤(s.data.getD i 0).toNat/\(s.data.getD i 0).toNat≤122)∨(65≤(s.data.getD i 0).toNat/\(s.data.getD i 0).toNat≤90)∨(i≠0/\((s.data.getD i 0).toNat=95∨(48≤(s.data.getD i 0).toNat/\(s.data.getD i 0).toNat≤57))))->nO s=false:=λa=>hf (λg=>a (hn.1 g));clear hf
   repeat'((conv=>whnf);first|(intro hq;(try simp only[vw]at hq);try exact aV hq)|apply aI|exact aD|apply nM|apply fM)
   all_goals((try apply vM);(try simp only[vq]at*);try omega)
   all_goals(try simp only[ama,apU,decide_eq_false_iff_not,decide_eq_true_eq]at*)
   all_goals first
    |omega
    |(rw[hf' qqO];first|exact Sup.of rfl|exact dY rfl)
    |(refine⟨i+1,[],⟨⟨qqO,hy (hn.2 qqO)⟩,qqO⟩,?_⟩
      exact wk0;all_goals skip)
  ·have:i=s.size:=qqO
   subst this;have hm:nO s=true:=decide_eq_true ⟨λj hj=>by rw[abX];exact h2 j hj,hz⟩
   rw[hm];all_goals exact uG
 ·have hm:nO s=false:=decide_eq_false λh=>hz h.2
  rw[hm];refine au (md:=1) (rf:=[]) mixed ak aC Tryz.func38 qqR qqR qqR ?_;all_goals exact uG
end Go.Eng.YtmkagljofpddpaaGreatDoor
namespace Go.Eng.YtmkagljofpddpaaGreatDoor
open Go.Proofs Go.Eng.Dig Go.Eng.Pm
set_option linter.unusedSimpArgs false
set_option linter.unusedVariables false
set_option maxHeartbeats 0
set_option maxRecDepth 100000
end Go.Eng.YtmkagljofpddpaaGreatDoor
namespace Go.Eng.YtmkagljofpddpaaGreatDoor
open Go.Proofs Go.Eng.Dig Go.Eng.Dec Go.Eng.Pm
set_option linter.unusedSimpArgs false
set_option linter.unusedVariables false
set_option maxHeartbeats 0
set_option maxRecDepth 100000
theorem KG:aB Tryz.prog 17 [] (.bool true):=ku Sy (oD rfl)
theorem KH (s:ByteArray) (a n:Int) (ha:iO a) (hn:iO n):aB Tryz.prog 5 [.str s,.int .i64 a,.int .i64 n] (.bp true):=by
 by_cases hs:40<s.size
 ·have hc:=bB KG aC
  refine au (md:=1) (rf:=[]) mixed ak hc Tryz.func5 qqR qqR qqR ?_
  repeat'((conv=>whnf);first|(intro hq;(try simp only[vw]at hq);try exact aV hq)|apply aI|exact aD|apply nM|apply fM)
  all_goals((try apply vM);(try simp only[vq]at*);try omega)
  all_goals first|rfl|omega|exact dY rfl|exact Sup.of rfl
 have hY:∃Y,(n≠0->Y=txQ (Rat.divInt a n))/\(n≠0->aB Tryz.prog 40 [.int .i64 a,.int .i64 n] (.str Y)):=⟨_,λ_=>rfl,λh=>KE a n ha hn h⟩;obtain⟨X,hX⟩:∃X,X=ofS a n:=⟨_,rfl⟩;obtain⟨E,hE⟩:∃E,E=ofE a n:=⟨_,rfl⟩;have hsz:(txQ (Rat.divInt a n)).size≤1000000000000:=by
  by_cases h0:n=0
  ·subst h0
   rw[Rat.divInt_zero];decide+kernel
  ·have h1:=ajg (Rat.divInt a n)
   have h2:=ajz (k:=400000000) h0 (sW (x:=a.natAbs) (by unfold iO at ha;omega)) (sW (x:=n.natAbs) (by unfold iO at hn;omega))
   omega
 have h21a:∀_:Unit,n=0->G8 X E 6 ⟨#[]⟩:=λ_=>λh=>.inl ⟨qqD,by rw[hX];unfold ofS;rw[if_pos h],by rw[hE];unfold ofE;rw[if_pos h]⟩
 have h21b:∀_:Unit,n≠0->G8 X E 0 (txQ (Rat.divInt a n)):=λ_=>λh=>.inr ⟨rfl,_,rfl,hsz,by rw[hX];unfold ofS;rw[if_neg h],by rw[hE];unfold ofE;rw[if_neg h]⟩
 have p39:=J2 a n ha hn;rw[<-hX,<-hE]at p39;obtain⟨g,hg⟩:∃g,g=xA a n:=⟨_,rfl⟩;have p41:=FH a n;rw[<-hg]at p41;obtain⟨g,eg⟩:=g;obtain⟨iv,hi⟩:∃iv,iv=Ae a n:=⟨_,rfl⟩;have p45:=FJ a n;rw[<-hi]at p45;obtain⟨i,ei⟩:=iv;obtain⟨pr,hp⟩:∃pr,pr=prE n:=⟨_,rfl⟩;have p47:=YW n;rw[<-hp]at p47;obtain⟨P,ep⟩:=pr;have fa:=nJ a;have fn:=nJ n;have h43a:∀_:Unit,(a< -999999999∨999999999<a)∨(n< -999999999∨999999999<n)->lC g eg 3 0:=λ_=>λh=>by
  unfold xA at hg;rw[if_neg (λq=>by have:=fa.1 q.1;have:=fn.1 q.2;omega)]at hg
  injection hg with e1 e2
  unfold lC;rw[if_pos qqD];exact⟨e1,e2⟩
 have h43b:∀_:Unit,¬(a< -999999999∨999999999<a)->¬(n< -999999999∨999999999<n)->lC g eg 0 (aoF a.natAbs n.natAbs:Nat):=λ_=>λh1 h2=>by
  unfold xA at hg;rw[if_pos ⟨fa.2 qqO,fn.2 qqO⟩]at hg
  injection hg with e1 e2
  unfold lC;rw[if_neg qqS];exact⟨e2,e1⟩
 have h43c:∀_:Unit,(a< -999999999∨999999999<a)∨(n< -999999999∨999999999<n)∨n<1->lC i ei 3 0:=λ_=>λh=>by
  unfold Ae at hi;rw[if_pos (λq=>by have:=fa.1 q.1;omega)]at hi
  injection hi with e1 e2
  unfold lC;rw[if_pos qqD];exact⟨e1,e2⟩
 have h43d:∀_:Unit,¬(a< -999999999∨999999999<a)->¬(n< -999999999∨999999999<n)->¬n<1->lC i ei (if(!(iI a n).2)=true then 7 else 0) (iI a n).1:=λ_=>λh1 h2 h3=>by
  unfold Ae at hi;rw[if_neg (λq=>q ⟨fa.2 qqO,qqO⟩)]at hi;unfold lC;cases hb:(iI a n).2
  ·rw[hb,if_neg qqS]at hi
   injection hi with e1 e2
   rw[if_pos qqS];exact⟨e1,e2⟩
  ·rw[hb,if_pos rfl]at hi
   injection hi with e1 e2
   rw[if_neg qqS];exact⟨e2,e1⟩
 have h47a:∀_:Unit,n<0∨(n< -999999999∨999999999<n)->P=false/\ep=3:=λ_=>λh=>by
  unfold prE at hp;rw[if_neg qqO]at hp
  injection hp with e1 e2
  exact⟨e1,e2⟩
 have h47b:∀_:Unit,¬n<0->¬(n< -999999999∨999999999<n)->P=kV n/\ep=0:=λ_=>λh1 h2=>by
  unfold prE at hp;rw[if_pos qqO]at hp
  injection hp with e1 e2
  exact⟨e1,e2⟩
 clear hX hE hg hi hp fa fn;have p37:=KA s;have p38:=WS s qqO;generalize nO s=b at*
 have hz2:∀x:Bool,Sup (dJ [PV.bp (x==x)]) (PV.bp true):=λx=>by cases x<;>exact Sup.of rfl
 have hz1:∀{x:PV},(!b==b)=true->Sup x (PV.bp true):=λh=>by cases b<;>cases h
 have hz3:P=false/\ep=3->Sup (dJ [PV.bp (decide (ep=3))]) (PV.bp true):=λh=>by rw[h.2];exact Sup.of rfl
 have hz4:P=false/\ep=3->¬(!P)=false:=λh=>by rw[h.1];decide
 by_cases hn0:n=0
 ·have hc:=bB KG (bB p37 (bB p38 (bB p39 (aj (aA OC) (bB p41 (aj (aA OE) (aj (aA OD) (aj (aA OG) (bB p45 (bB p47 (aj (aA Wv) aC)))))))))))
  refine au (md:=1) (rf:=[]) mixed ak hc Tryz.func5 qqR qqR qqR ?_
  repeat'((conv=>whnf);first|(intro hq;(try simp only[vw]at hq);try exact aV hq)|apply aI|exact aD|apply nM|apply fM)
  all_goals((try apply vM);(try simp only[vq]at*);try omega)
  all_goals first
   |rfl
   |exact h21a () hn0
   |exact h43a () qqO
   |exact h43b () qqO qqO
   |exact h43c () qqO
   |exact Sup.of rfl
   |exact hz1 hq
   |exact hz1 qqA
   |exact hz3 (h47a () qqO)
   |exact absurd hq (hz4 (h47a () qqO))
   |exact dY rfl
   |(rw[(h47b () qqO qqO).1];exact hz2 _)
   |(exfalso;have:=(h47b () qqO qqO).2;omega)
   |omega
 ·have p40:=KE a n ha hn hn0
  have hc:=bB KG (bB p37 (bB p38 (bB p39 (aj (aA OC) (bB p40 (bB p41 (aj (aA OE) (aj (aA OD) (aj (aA OG) (bB p45 (aj (aA afM) (aj (aA YU) (bB p47 (aj (aA Wv) aC))))))))))))));refine au (md:=1) (rf:=[]) mixed ak hc Tryz.func5 qqR qqR qqR ?_
  repeat'((conv=>whnf);first|(intro hq;(try simp only[vw]at hq);try exact aV hq)|apply aI|exact aD|apply nM|apply fM)
  all_goals((try apply vM);(try simp only[vq]at*);try omega)
  all_goals first
   |rfl
   |exact h21b () hn0
   |exact h43a () qqO
   |exact h43b () qqO qqO
   |exact h43c () qqO
   |exact h43d () qqO qqO qqO
   |exact Sup.of rfl
   |exact hz1 hq
   |exact hz1 qqA
   |exact hz3 (h47a () qqO)
   |exact absurd hq (hz4 (h47a () qqO))
   |exact dY rfl
   |(rw[(h47b () qqO qqO).1];exact hz2 _)
   |(exfalso;have:=(h47b () qqO qqO).2;omega)
   |omega
end Go.Eng.YtmkagljofpddpaaGreatDoor
namespace Go.Eng
open Go.RowKit Go.ChangeShapes Go.WideShapes
set_option linter.unusedSimpArgs false
set_option linter.unusedVariables false
def xM (W:World):Imm:=λb j=>(rd W b j).isSome
inductive Lf where
 |int (k:IntKind)
 |str
 |ints (k:IntKind)
 |rows (k:IntKind)
 |bool
 |bools
instance:Inhabited Lf:=⟨.str⟩
def aiH:Lf->PV->Prop
 |.int k,p=>∃n,p=.int k n/\(Lit.int k n).wf=true
 |.str,p=>∃s,p=.str s/\s.size≤maxLen
 |.ints k,p=>∃xs,p=.isl (.ints k xs) .none/\(∀n∈xs,(Lit.int k n).wf=true)/\xs.length≤maxLen
 |.rows k,p=>∃xss:List (List Int),p=.isl (.rows k xss) .none/\(∀x∈xss,(∀n∈x,(Lit.int k n).wf=true)/\x.length≤maxLen)/\xss.length≤maxLen
 |.bool,p=>∃b:Bool,p=.bp b/\True
 |.bools,p=>∃xs:List Bool,p=.isl (.bools xs) .none/\xs.length≤maxLen
def KI (v:Value):Prop:=∀a n c,v=.slice (some a) n c->a.spot=none
theorem KJ {P:Program} {w:World} {r:Reach} {base:Nat} {t:TypeId} {v:Value} (h:Cell.okWide P w r base t v):KI v:=by
 rintro a n c rfl
 unfold Cell.okWide at h;split at h<;>try(rename_i e1 e2;cases e2)
 unfold Cell.ok at h;split at h<;>try(rename_i e1 e2;cases e2)
 ·exact h.2.2.2.1
 ·exact h.elim
section
variable {H:Type} (enc:TypeId × Value->H) (P:Program) (W:World)
def Dk (t:TypeId) (ls:List Lf):Prop:=∀(fuel:Nat) (cs:List Value) (x:DataW H × List MemPlace),DataW.trod enc P W 0 (λ_=>true) true fuel t cs=some x->(∀i,KI (cs.getD i undef))->
 cs.length=ls.length/\∀i,i<ls.length->∃p,aiH (ls.getD i default) p/\Rep (xM W) W noI p (cs.getD i undef)
end
section
variable {H:Type} {enc:TypeId × Value->H} {P:Program} {W:World}
theorem WT {t:TypeId} {k:IntKind} (ht:P.underlying t=some (.int k)):Dk enc P W t [.int k]:=by
 intro fuel cs x h hs;obtain⟨n,rfl,_,hw⟩:=DataW.trod_int ht h;refine⟨rfl,λi hi=>?_⟩;have:i=0:=by simp at hi;omega
 subst this;exact⟨.int k n,⟨n,rfl,hw⟩,.int _ _ _⟩
theorem WU {t:TypeId} (ht:P.underlying t=some .string):Dk enc P W t [.str]:=by
 intro fuel cs x h hs;obtain⟨s,rfl,_,hw⟩:=DataW.trod_string ht h;refine⟨rfl,λi hi=>?_⟩;have:i=0:=by simp at hi;omega
 subst this;exact⟨.str s,⟨s,rfl,hw⟩,.str _ _⟩
theorem xO {t:TypeId} {l:Lf} {v:Value} {d:DataW H} {qs:List MemPlace} {r:Reach} {base:Nat} (ht:(∃k,P.underlying t=some (.int k))∨P.underlying t=some .string∨∃e,P.underlying t=some (.slice e)) (hO:Dk enc P W t [l]) (hval:Value.okWide P W r base t v) (hd:DataW.Trod enc P W 0 (λ_=>true) true t v d qs):
 ∃p:PV,aiH l p/\Rep (xM W) W noI p v:=by
 have hv:v.cells.toList=[v]/\KI v:=by
  rcases ht with⟨k,ht⟩|ht|⟨e,ht⟩
  ·obtain⟨n,rfl⟩:=okWide_int ht hval;exact⟨rfl,λa n c h=>by cases h⟩
  ·obtain⟨n,rfl⟩:=okWide_string ht hval;exact⟨rfl,λa n c h=>by cases h⟩
  ·have hc:Cell.okWide P W r base t v:=by unfold Value.okWide at hval;rw[ht]at hval;exact hval
   obtain⟨a,n,c,rfl⟩:=okWide_slice ht hval;exact⟨rfl,KJ hc⟩
 obtain⟨fuel,hf⟩:=hd;rw[hv.1]at hf;obtain⟨h1,h2⟩:=hO _ _ _ hf (λi=>by
  cases i with
  |zero=>exact hv.2
  |succ i=>rintro a n c he;simp at he;cases he)
 obtain⟨p,hp,hr⟩:=h2 0 qqS;exact⟨p,hp,hr⟩
end
theorem ZX {P:Program} {g:FuncId} {args:List PV} {vs:Array Value} {W:World} (h:aB P g args (.bp true)) (hr:bH (xM W) W noI args vs) (hg:gB (xM W) W):
 Calls P g vs W λe w'=>e=.returned (.bool true)/\Below W.heap.size W w':=by
 have:=(h.2 (xM W) W vs hg (λ_ _ h=>h) hr);refine callsIn_wide.1 (CallsIn.mono (F:=Fw none) this ?_)
 rintro e w' ⟨val,S',rfl,o⟩
 have hv:=o.rep;exact⟨by cases hv;rfl,⟨o.below.os,o.below.tape,o.below.output,o.below.size,o.same⟩⟩
section
variable {H:Type} {enc:TypeId × Value->H} {P:Program}
theorem Gd (hl:laidOutB P=true) {W W':World} {sp:Nat->Bool} (hB:Below W.heap.size W W'):∀{ts:List TypeId} {vs:List Value} {ds:List (DataW H)} {ps:List MemPlace},ts.all (λt=>P.readableRec t&&decide (t<P.types.size))=true->
 DataW.TrodAll enc P W 0 (λ_=>true) true ts vs ds ps->(∀x∈ps,x.block<W.heap.size)->(∀x∈ps,sp x.block=true)->DataW.TrodAll enc P W' 0 sp true ts vs ds ps:=by
 intro ts;induction ts with
 |nil=>
  intro vs ds ps _ h _ _;cases vs<;>cases ds<;>first|exact h|exact h.elim
 |cons t ts ih=>
  intro vs ds ps ha h hlt hs;cases vs with
  |nil=>exact h.elim
  |cons v vs=>
   cases ds with
   |nil=>exact h.elim
   |cons d ds=>
    obtain⟨p,q,h1,h2,rfl⟩:=h;simp only[List.all_cons,alM,decide_eq_true_eq]at ha;refine⟨p,q,WideElems.Trod_stays hl ha.1.1 ha.1.2 h1 (λx hx=>hB.same (hlt x (by simp[hx]))) (λx hx=>hs x (by simp[hx])),ih ha.2 h2 (λx hx=>hlt x (by simp[hx])) (λx hx=>hs x (by simp[hx])),rfl⟩
theorem ZY {f:Func} {s:ChangeSpec} {W W':World} {args:Array Value} {ds gs:List (DataW H)} {before:List MemPlace} {tb:TypeId} (hl:laidOutB P=true) (hres:f.resultTypes= #[tb]) (htb:P.underlying tb=some .bool)
 (hread:f.params.toList.all (λt=>P.readableRec t&&decide (t<P.types.size))=true) (hv:s.vars=[]) (hfn:s.fn H ds={results:=[.lit (.bool true)],args:=ds})
 (hW:DataW.Whole enc P f.params.toList s.vars false W args.toList ds gs before) (hB:Below W.heap.size W W'):s.post enc P f false true false false W args (.bool true) W':=by
 have hW':=hW;obtain⟨p,q,hA,hV,rfl,hfz,hnd⟩:=hW;rw[hv]at hV;obtain⟨rfl,rfl⟩:=trodVars_none hV;have hlt:∀x∈p,x.block<W.heap.size:=λx hx=>by simpa using hW'.lt x (by simp[hx])
 refine⟨ds,[],p++[],[],p,[],hW',?_,?_,?_,hB.frame _,λh=>by cases h⟩
 ·rw[apX,hfn,hres]
  exact trodAll_mk1 (shut_bool htb true)
 ·rw[apX,hfn]
  exact Gd hl hB hread hA hlt (λx hx=>by simpa using hlt x hx)
 ·rw[apX,hfn,hv]
  exact rfl
end
end Go.Eng
namespace Go.Eng.YtmkagljofpddpaaGreatDoor
open Go.Proofs Go.Proofs.YtmkagljofpddpaaGreatDoor Go.RowKit Go.ChangeShapes Go.WideShapes
set_option linter.unusedVariables false
theorem own:ownKnob Tryz.prog.godebug=none:=by kernel_rfl
theorem laidOut:laidOutB Tryz.prog=true:=by kernel_rfl
abbrev vG:List (String × DataW Unit):=[("math/bits.deBruijn32tab",Rows.laid_math_bits_deBruijn32tab),("math/bits.deBruijn64tab",Rows.laid_math_bits_deBruijn64tab),("internal/strconv.uint64pow10",Rows.laid_internal_strconv_uint64pow10),("unicode/utf8.acceptRanges",Rows.laid_unicode_utf8_acceptRanges),("strconv.ErrRange",Rows.laid_strconv_ErrRange),("strconv.ErrSyntax",Rows.laid_strconv_ErrSyntax),("unicode/utf8.first",Rows.laid_unicode_utf8_first)]
theorem Z0 (os:Os) (args:Array Value):laidMetH Tryz.prog vG ((World.laidAll Tryz.prog os vG).forCall (λ_ _=>0) ⟨#[],args,[]⟩).memory:=by
 rw[Go.MakeChecks.laidMetH_plain _ _ _ (by kernel_rfl)]
 exact laidMet_laidAll _ (by kernel_rfl) (by kernel_rfl)
theorem KL {W:World} {name:String} {k:IntKind} {zs:List Int} {g:Nat} (hg:Tryz.prog.globalNamed name=some g) (h:Lib.TabIs Tryz.prog W name k zs):
 bsz W g=some (CL.ints k zs).ncell/\∀j,j<(CL.ints k zs).ncell->xM W g j/\Rep (xM W) W noI ((CL.ints k zs).get j) (rdv W g j):=by
 unfold Lib.TabIs World.var? at h;rw[hg,Option.bind_some]at h;split at h
 ·rename_i cs e f hb
  have h:=Option.some.inj h;subst h;refine⟨by simp[bsz,hb,CL.ncell],λj hj=>?_⟩
  simp only[CL.ncell]at hj;have hr:rd W g j=some (.int k (zs.getD j 0)):=by simp[rd,hb,hj]
  refine⟨by show(rd W g j).isSome=true;rw[hr];rfl,?_⟩
  have:rdv W g j=.int k (zs.getD j 0):=by unfold rdv;rw[hr];rfl
  rw[this];exact .int _ _ _
 ·cases h
theorem afT {W:World} (h:laidMetH Tryz.prog vG W):gB (xM W) W:=by
 rw[Go.MakeChecks.laidMetH_plain _ _ _ (by kernel_rfl)]at h
 have t2:Lib.TabIs Tryz.prog W "math/bits.deBruijn32tab" .u8 He:=Lib.tabIs_of_head (k:=.u8) (zs:=He) (g:=8) (t:=316) (e:=5) (n:=32) (by kernel_rfl) (by kernel_rfl) (by kernel_rfl) (by kernel_rfl) (by kernel_rfl) (by kernel_rfl) h
 have t3:Lib.TabIs Tryz.prog W "math/bits.deBruijn64tab" .u8 Hf:=Lib.tabIs_of_head (k:=.u8) (zs:=Hf) (g:=9) (t:=317) (e:=5) (n:=64) (by kernel_rfl) (by kernel_rfl) (by kernel_rfl) (by kernel_rfl) (by kernel_rfl) (by kernel_rfl) h.tail
 have t0:Lib.TabIs Tryz.prog W "internal/strconv.uint64pow10" .u64 nZ:=Lib.tabIs_of_head (k:=.u64) (zs:=nZ) (g:=7) (t:=311) (e:=210) (n:=20) (by kernel_rfl) (by kernel_rfl) (by kernel_rfl) (by kernel_rfl) (by kernel_rfl) (by kernel_rfl) h.tail.tail
 intro g c hc;unfold xQ at hc;split at hc
 ·cases hc;exact KL (by kernel_rfl) t2
 ·cases hc;exact KL (by kernel_rfl) t0
 ·cases hc;exact KL (by kernel_rfl) t3
 ·cases hc
theorem WV {n:Int} (h:(Go.Lit.int Go.IntKind.i64 n).wf=true): -9223372036854775808≤n/\n≤9223372036854775807:=by
 have h1:Go.IntKind.i64.min= -9223372036854775808:=qqD;have h2:Go.IntKind.i64.max=9223372036854775807:=qqD;simp[Go.Lit.wf,h1,h2]at h;exact h
section
variable {H:Type} {enc:TypeId × Value->H} {W:World}
theorem o3:Dk enc Tryz.prog W 3 [.int .i64]:=WT Tryz.underlying3
theorem o9:Dk enc Tryz.prog W 9 [.str]:=WU Tryz.underlying9
end
end Go.Eng.YtmkagljofpddpaaGreatDoor
