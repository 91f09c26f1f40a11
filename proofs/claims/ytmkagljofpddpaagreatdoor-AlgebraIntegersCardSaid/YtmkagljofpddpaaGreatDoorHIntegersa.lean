/- Contracts of functions of the program: what each returns. Their conditions stand in them. -/
import Init
import Derived.Laws.Externs
import Derived.Lib.Mul64
import Derived.Lib.BitFns
import Derived.Lib.ItoaNum
import Derived.Test.YtmkagljofpddpaaGreatDoorEe
open BitVec renaming ofInt→alK,testBit_toNat→an6
open Bool renaming or_comm→aot
open Int renaming toNat_natCast→anG,natCast_emod→anP,emod_add_ediv_mul→anQ,eq_ofNat_of_zero_le→an2,toNat→an8,natCast_mul→an9,natCast_add→aoa,natAbs→aoe,not_le→aoh,natAbs_neg→aoi,neg_neg→aoj,mul_neg→aok,natCast_ediv→aol,ediv_emod_unique→aoB,mul_sub→aoC,tmod_lt_of_pos→aoD
open List renaming length_cons→alj,length_eq_zero_iff→amT,range→alA,getD_eq_getElem?_getD→alC,ext_getElem→anz,getElem?_eq_getElem→alH,getElem?_eq_none→anA,take_of_length_le→anB,replicate→alL,map_congr_left→anC,mem_range→anj,getElem_set→anD,getElem_map→anE,getElem_range→anF,take_length→anH,mem_of_find?_eq_some→anY,find?_eq_some_iff_getElem→an0,find?_eq_none→an1,getElem?_set→alX,length_set→alZ,length_pos_iff→aog,take→aoz,drop→aoA
open Nat renaming div_lt_self→anr,div_div_eq_div_mul→ant,pow_succ→anu,mul_comm→alP,div_lt_iff_lt_mul→al6,le_div_iff_mul_le→al9,pow_lt_pow_iff_right→anv,add_sub_cancel→anw,pow_pos→anx,mod_eq_of_lt→alT,div_eq_of_lt→alR,le_refl→alo,add_assoc→alk,div_add_mod→al7,pow_add→anI,mod_mul_right_div_self→anJ,div_le_div_right→anK,pow_le_pow_right→anL,mod_one→amc,mod_lt→al8,add_mul_div_right→anM,add_mod→anN,mod_mod→anO,add_mul_mod_self_right→anR,mul_le_mul→amy,mul_le_mul_left→anS,mul_lt_mul_of_pos_right→anT,pos_of_ne_zero→al5,mul_mod_mul_right→anU,mul_le_mul_right→al2,add_mul→al3,le_mul_of_pos_right→amq,zero_add→alO,mul_mod→anV,mul_assoc→anW,zero_le→aml,mul_pos→anX,le_of_lt→anZ,mul_one→alV,lt_of_lt_of_le→alp,add_comm→an3,lt_of_le_of_lt→an4,eq_of_testBit_eq→an5,testBit_lt_two_pow→an7,div_eq_zero_iff_lt→aob,mul_lt_mul_of_lt_of_lt→aoc,pow_zero→aod,zero_mul→amo,pow_one→aof,le_trans→als,le_of_not_lt→aom,add_zero→alg,mul_div_cancel→amM,div_le_self→aon,mul_lt_mul_of_pos_left→aoo,shiftLeft_add_eq_or_of_lt→aop,shiftLeft_eq→aoq,testBit_or→aor,div_mul_le_self→aos,lt_mul_div_succ→aou,div_add_mod'→aov,one_mul→al4,le_mul_of_pos_left→aow,div_one→amb,lt_trans→aox,cast→aoy,mod_le→aoE,gcd→aoF,gcd_comm→aoG
namespace Go.Eng
theorem aD {p:Prop} (h:p:=by first|with_reducible exact vM rfl|exact⟨⟩):p:=h
theorem aV {p q:Prop} (h:p) (z:¬p:=by first|decide|omega):q:=(z h).elim
theorem iG {p:Prop} (h:p:=by
 repeat'((conv=>whnf);first|intro _|apply aI|exact aD|apply nM|apply fM)
 all_goals((try apply vM);(try simp only[vq]at*);try omega)):p:=h
theorem nD {p:Prop} (h:p:=by
 repeat'((conv=>whnf);first|(intro hq;(try simp only[vw]at hq);try exact aV hq)|apply aI|exact aD|apply nM|apply fM)
 all_goals((try apply vM);(try simp only[vq]at*);try omega)
 all_goals first
  |exact b64 _ qqO
  |exact Jh _
  |(rw[F4,c6 qqO,R3,U0,hs2,R2];exact Sup.of rfl)
  |(refine⟨t-1,[],⟨hnext qqO,qqO⟩,?_⟩;rw[F3,F4,c5];repeat'((conv=>whnf);first|intro _|apply aI|exact aD|apply nM|apply fM);all_goals((try apply vM);(try simp only[vq]at*);try omega))):p:=h
theorem uF {p:Prop} (h:p:=by
 repeat'((conv=>whnf);first|(intro hq;(try simp only[vw]at hq);try exact aV hq)|apply aI|exact aD|apply nM|apply fM)
 all_goals((try apply vM);(try simp only[vq]at*);try omega)
 all_goals(try simp only[ea,eb,dP,dD])
 all_goals(try simp only[ea,eb,uK W2,dD]at hq)
 all_goals first
  |exact na
  |exact nb
  |exact ha
  |exact hb
  |omega
  |exact⟨bS _,bS _,qqO,qqO,hne⟩
  |exact⟨bS _,L3⟩
  |exact⟨bS _,L4⟩
  |exact Cv _ _
  |exact⟨Cv _ _,Ei,L5,L6⟩
  |exact⟨Cv _ _,hb,L7,hLb⟩
  |(obtain⟨e1,e2⟩:=E1 hq;rw[<-e1,<-e2];exact Sup.of rfl)
  |(obtain⟨e1,e2⟩:=E2 hq;rw[<-e1,<-e2];exact Sup.of rfl)
  |trace_state):p:=h
theorem uG {p:Prop} (h:p:=by
 repeat'((conv=>whnf);first|(intro hq;(try simp only[vw]at hq);try exact aV hq)|apply aI|exact aD|apply nM|apply fM)
 all_goals((try apply vM);(try simp only[vq]at*);try omega)
 all_goals first|omega|exact dY rfl|exact Sup.of rfl|trace_state):p:=h
theorem uH {p:Prop} (h:p:=by
 repeat'((conv=>whnf);first|intro _|apply aI|exact aD|apply nM|apply fM)
 all_goals((try apply vM);(try simp only[vq]at*);try omega)
 all_goals exact λ_ _=>trivial):p:=h
theorem uI {p:Prop} (h:p:=by
 repeat'((conv=>whnf);first|intro _|apply aI|exact aD|apply nM|apply fM)
 all_goals((try apply vM);(try simp only[vq]at*);try omega)
 all_goals first|exact λ_ _=>trivial|exact⟨λ_ _=>trivial,λ_ _ _=>trivial⟩|trace_state):p:=h
theorem zO {p:Prop} (h:p:=by
 repeat'((conv=>whnf);first|(intro hq;(try simp only[vw]at hq);try exact aV hq)|apply aI|exact aD|apply nM|apply fM)
 all_goals((try apply vM);(try simp only[vq]at*);try omega)
 all_goals first
  |exact b64 _ qqO
  |exact Jh _
  |(rw[R3,U0,hs2,R2];exact Sup.of rfl)):p:=h
theorem I7 {p:Prop} (h:p:=by
 repeat'((conv=>whnf);first|(intro hq;(try simp only[vw]at hq);try exact aV hq)|apply aI|exact aD|apply nM|apply fM)
 all_goals((try apply vM);(try simp only[vq]at*);try omega)
 all_goals first
  |(rw[hm];omega)
  |(refine⟨qqO,qqO,qqO,qqO⟩)
  |(first|rw[hA,hB]|rw[hA0 qqO,hB0 qqO]
    rw[mI qqO rfl];refine⟨i+1,[],⟨qqO,qqO⟩,?_⟩;rw[show((i+1:Nat):Int)=(i:Int)+1 by omega]
    repeat'((conv=>whnf);first|intro _|apply aI|exact aD|apply nM|apply fM)
    all_goals((try apply vM);(try simp only[vq]at*);try omega)
    all_goals skip)):p:=h
theorem I8 {p:Prop} (h:p:=by
 repeat'((conv=>whnf);first|(intro hq;(try simp only[vw]at hq);try exact aV hq)|apply aI|exact aD|apply nM|apply fM)
 all_goals((try apply vM);(try simp only[vq]at*);try omega)
 all_goals(try rw[hzd])
 all_goals first
  |(show 1+_≤_;omega)
  |exact Sup.of rfl
  |trace_state):p:=h
theorem I9 {p:Prop} (h:p:=by
 repeat'((conv=>whnf);first|(intro hq;(try simp only[vw]at hq);try exact aV hq)|apply aI|exact aD|apply nM|apply fM)
 all_goals((try apply vM);(try simp only[vq]at*);try omega)
 all_goals(try rw[htd])
 all_goals(try simp only[htd])
 all_goals first
  |omega
  |(refine⟨⟨k-1,s,r-r / s*s,y,x-r / s*y⟩,[],⟨⟨k1,by simp only;omega,?_⟩,by simp only;omega⟩,?_⟩
    ·rw[h3]
     obtain⟨q,rfl⟩:∃q,k=q+1:=⟨k-1,qqO⟩;rw[uZ,if_neg hs];rfl
    exact wk0;all_goals skip)
  |trace_state):p:=h
theorem E5 {p:Prop} (h:p:=by
 repeat'((conv=>whnf);first|(intro hq;(try simp only[vw]at hq);try exact aV hq)|apply aI|exact aD|apply nM|apply fM)
 all_goals((try apply vM);(try simp only[vq]at*);try omega)
 all_goals first
  |omega
  |(refine⟨d+1,[],⟨⟨qqO,h3'⟩,qqO⟩,?_⟩
    repeat'((conv=>whnf);first|intro _|apply aI|exact aD|apply nM|apply fM)
    all_goals((try apply vM);(try simp only[vq]at*);try omega)
    all_goals skip)
  |trace_state):p:=h
theorem Fa {p:Prop} (h:p:=by
 repeat'((conv=>whnf);first|(intro hq;(try simp only[vw]at hq);try exact aV hq)|apply aI|exact aD|apply nM|apply fM)
 all_goals((try apply vM);(try simp only[vq]at*);try omega)
 all_goals first
  |exact fE _ _
  |exact .inr trivial
  |(refine⟨c+1,[(17,7)],⟨qqO,qqO⟩,?_⟩
    rw[hn']
    repeat'((conv=>whnf);first|intro _|apply aI|exact aD|apply nM|apply fM)
    all_goals((try apply vM);(try simp only[vq]at*);try omega)
    all_goals first
     |exact λ_ _=>trivial
     |exact⟨λk _=>by split<;>rfl,λk hk _=>by
      split
      ·rfl
      ·rw[show k=n+1 by omega]
       show _=CL.ints _ (cO w (fO (Fp p) 0 1 S ((bM S.piv w).getD (n+1) 0) S.piv.length));rw[hlast]⟩
     |exact⟨λ_ _=>trivial,λk hk _=>by
      rw[show k=0 by omega]
      show _=CL.ints _ (cO w (fO (Fp p) 0 1 S ((bM S.piv w).getD 0 0) S.piv.length));rw[hlast]⟩
     )
  |(show _≤_;omega)
  |trace_state):p:=h
theorem ajE {p:Prop} (h:p:=by
 repeat'((conv=>whnf);first|intro _|apply aI|exact aD|apply nM|apply fM)
 all_goals((try apply vM);(try simp only[vq]at*);try omega)
 all_goals first
  |exact λ_ _=>trivial
  |exact⟨λk _=>by split<;>rfl,λk hk _=>by
   split
   ·rfl
   ·rw[show k=n+1 by omega]
    show _=CL.ints _ (cO w (fO (Fp p) 0 1 S ((bM S.piv w).getD (n+1) 0) S.piv.length));rw[hlast]⟩
  |exact⟨λ_ _=>trivial,λk hk _=>by
   rw[show k=0 by omega]
   show _=CL.ints _ (cO w (fO (Fp p) 0 1 S ((bM S.piv w).getD 0 0) S.piv.length));rw[hlast]⟩
  |trace_state):p:=h
theorem Fb {p:Prop} (h:p:=by
 repeat'((conv=>whnf);first|intro _|apply aI|exact aD|apply nM|apply fM)
 all_goals((try apply vM);(try simp only[vq]at*);try omega)
 all_goals first|exact iU _ _|exact λ_ _=>trivial|exact⟨λ_ _=>trivial,λ_ _ _=>trivial⟩|trace_state):p:=h
theorem Fe {p:Prop} (h:p:=by
 repeat'((conv=>whnf);first|intro _|apply aI|exact aD|apply nM|apply fM)
 all_goals((try apply vM);(try simp only[vq]at*);try omega)
 all_goals first|exact⟨rfl,iU _ _⟩|exact iU _ _|exact λ_ _=>trivial|exact⟨λ_ _=>trivial,λ_ _ _=>trivial⟩|trace_state):p:=h
theorem Fg {p:Prop} (h:p:=by
 repeat'((conv=>whnf);first|(intro hq;(try simp only[vw]at hq);try exact aV hq)|apply aI|exact aD|apply nM|apply fM)
 all_goals((try apply vM);(try simp only[vq]at*);try omega)
 all_goals first
  |exact iT _ _
  |exact iU _ _
  |exact .inr trivial
  |(refine⟨c+1,[(17,7)],⟨qqO,qqO⟩,?_⟩
    rw[hn']
    repeat'((conv=>whnf);first|intro _|apply aI|exact aD|apply nM|apply fM)
    all_goals((try apply vM);(try simp only[vq]at*);try omega)
    all_goals first
     |exact λ_ _=>trivial
     |exact⟨λk _=>by split<;>rfl,λk hk _=>by
      split
      ·rfl
      ·rw[show k=n+1 by omega]
       show _=CL.recs _ (rfL w (fO Ff zFr oFr S ((bM S.piv w).getD (n+1) 0) S.piv.length));rw[hlast]⟩
     |exact⟨λ_ _=>trivial,λk hk _=>by
      rw[show k=0 by omega]
      show _=CL.recs _ (rfL w (fO Ff zFr oFr S ((bM S.piv w).getD 0 0) S.piv.length));rw[hlast]⟩
     )
  |(show _≤_;omega)
  |trace_state):p:=h
theorem ajF {p:Prop} (h:p:=by
 repeat'((conv=>whnf);first|intro _|apply aI|exact aD|apply nM|apply fM)
 all_goals((try apply vM);(try simp only[vq]at*);try omega)
 all_goals first
  |exact λ_ _=>trivial
  |exact⟨λk _=>by split<;>rfl,λk hk _=>by
   split
   ·rfl
   ·rw[show k=n+1 by omega]
    show _=CL.recs _ (rfL w (fO Ff zFr oFr S ((bM S.piv w).getD (n+1) 0) S.piv.length));rw[hlast]⟩
  |exact⟨λ_ _=>trivial,λk hk _=>by
   rw[show k=0 by omega]
   show _=CL.recs _ (rfL w (fO Ff zFr oFr S ((bM S.piv w).getD 0 0) S.piv.length));rw[hlast]⟩
  |trace_state):p:=h
theorem Fh {p:Prop} (h:p:=by
 repeat'((conv=>whnf);first|intro _|apply aI|exact aD|apply nM|apply fM)
 all_goals((try apply vM);(try simp only[vq]at*);try omega)
 all_goals rfl):p:=h
theorem Fj {p:Prop} (h:p:=by
 repeat'((conv=>whnf);first|intro _|apply aI|exact aD|apply nM|apply fM)
 all_goals((try apply vM);(try simp only[vq]at*);try omega)
 all_goals first|exact Sup.of rfl|decide):p:=h
theorem Fu {p:Prop} (h:p:=by
 repeat'((conv=>whnf);first|(intro hq;(try simp only[vw]at hq);try exact aV hq)|apply aI|exact aD|apply nM|apply fM)
 all_goals((try apply vM);(try simp only[vq]at*);try omega)
 all_goals(try(exfalso;omega))
 all_goals(try simp only[hGr,hBr]at*)
 all_goals(try simp only[e1,hone,Vn,hem])
 all_goals first
  |omega
  |(rw[ByteArray.size_append,ByteArray.size_append];omega)
  |(rw[ByteArray.size_append];omega)
  |(rw[if_neg qqO,if_pos qqO];exact Sup.of rfl)
  |(rw[if_neg qqO,if_neg qqO,ByteArray.empty_append];exact Sup.of rfl)
  |(rw[if_pos qqO,if_pos qqO];exact Sup.of rfl)
  |(rw[if_pos qqO,if_neg qqO,ByteArray.empty_append];exact Sup.of rfl)
  |trace_state):p:=h
end Go.Eng
namespace Go.Eng.Dig
set_option linter.unusedSimpArgs false
set_option linter.unusedVariables false
def dlF (B:Nat):Nat->Nat->List Int
 |0,_=>[]
 |f+1,x=>if x=0 then []else((x % B:Nat):Int)::dlF B f (x / B)
def dl (B x:Nat):List Int:=dlF B x x
theorem ag6 {B:Nat} (hB:2≤B):∀(f g x:Nat),x≤f->x≤g->dlF B f x=dlF B g x:=by
 intro f;induction f with
 |zero=>
  intro g x hf hg;have:x=0:=qqO;subst this;cases g<;>simp[dlF]
 |succ f ih=>
  intro g x hf hg;cases g with
  |zero=>
   have:x=0:=qqO;subst this;simp[dlF]
  |succ g=>
   simp only[dlF];split
   ·rfl
   ·have:=anr (n:=x) (k:=B) qqO qqO
    rw[ih g (x / B) qqO qqO]
theorem ji (B:Nat):dl B 0=[]:=rfl
theorem wO {B x:Nat} (hB:2≤B) (hx:x≠0):dl B x=((x % B:Nat):Int)::dl B (x / B):=by
 unfold dl;have h:=anr (n:=x) (k:=B) qqO qqO;obtain⟨f,rfl⟩:∃f,x=f+1:=⟨x-1,qqO⟩;rw[dlF,if_neg qqO,ag6 hB f ((f+1) / B) ((f+1) / B) qqO qqO]
theorem Ci {B:Nat} (hB:2≤B) {P:Nat->Prop} (h0:P 0) (h:∀x,x≠0->P (x / B)->P x) (x:Nat):P x:=by
 induction x using Nat.strongRecOn with
 |ind x ih=>
  by_cases hx:x=0
  ·subst hx;exact h0
  ·exact h x hx (ih _ (anr qqO qqO))
theorem bG {B:Nat} (hB:2≤B) (x:Nat):∀i,(dl B x).getD i 0=((x / B ^ i % B:Nat):Int):=by
 refine Ci hB (P:=λx=>∀i,(dl B x).getD i 0=((x / B ^ i % B:Nat):Int)) ?_ ?_ x
 ·intro i;simp[ji]
 ·intro x hx ih i
  rw[wO hB hx];cases i with
  |zero=>simp
  |succ i=>rw[List.getD_cons_succ,ih,ant,anu,alP]
theorem bU {B:Nat} (hB:2≤B) (x:Nat):x<B ^ (dl B x).length:=by
 refine Ci hB (P:=λx=>x<B ^ (dl B x).length) ?_ ?_ x
 ·simp[ji]
 ·intro x hx ih
  rw[wO hB hx,alj,anu];exact(al6 qqO).1 ih
theorem jI {B:Nat} (hB:2≤B) (x:Nat):∀k,(dl B x).length=k+1->B ^ k≤x:=by
 refine Ci hB (P:=λx=>∀k,(dl B x).length=k+1->B ^ k≤x) ?_ ?_ x
 ·intro k h;simp[ji]at h
 ·intro x hx ih k h
  rw[wO hB hx,alj]at h;cases k with
  |zero=>simp;omega
  |succ k=>
   have:=ih k qqO;rw[anu];exact(al9 qqO).1 this
theorem fG {B:Nat} (hB:2≤B) {x k:Nat} (h:x<B ^ k):(dl B x).length≤k:=by
 cases e:(dl B x).length with
 |zero=>omega
 |succ n=>
  have h1:=jI hB x n e;have:B ^ n<B ^ k:=qqO;have:=(anv (by omega:1<B)).1 this
  omega
theorem lQ {B:Nat} (hB:2≤B) {x k:Nat} (h:B ^ k≤x):k<(dl B x).length:=by
 have h1:=bU hB x;have:B ^ k<B ^ (dl B x).length:=qqO;exact(anv (by omega:1<B)).1 this
theorem fD {B:Nat} (hB:2≤B) {x:Nat}:dl B x=[]↔x=0:=by
 constructor
 ·intro h
  have:=bU hB x;rw[h]at this;simpa using this
 ·rintro rfl;rfl
theorem ag7 {B:Nat} (hB:2≤B) {x:Nat} (hx:x≠0):(dl B x).getD ((dl B x).length-1) 0≠0:=by
 have hne:(dl B x).length≠0:=λh=>hx ((fD hB).1 (amT.1 h));obtain⟨k,hk⟩:∃k,(dl B x).length=k+1:=⟨(dl B x).length-1,qqO⟩;have h1:=jI hB x k hk;have h2:=bU hB x;rw[hk,anu]at h2;rw[hk,anw,bG hB];have hp:0<B ^ k:=anx qqO;have h3:1≤x / B ^ k:=(al9 hp).2 qqO;have h4:x / B ^ k<B:=(al6 hp).2 (by rw[alP];exact h2)
 rw[alT h4];omega
theorem jQ {B:Nat} (hB:2≤B) {x:Nat} (h0:x≠0) (h:x<B):dl B x=[(x:Int)]:=by
 rw[wO hB h0,alT h,alR h,ji]
def dn (B n x:Nat):List Int:=(alA n).map λi=>((x / B ^ i % B:Nat):Int)
theorem dw (B n x:Nat):(dn B n x).length=n:=by simp[dn]
theorem yg (B n x i:Nat) (h:i<n):(dn B n x).getD i 0=((x / B ^ i % B:Nat):Int):=by
 simp[dn,alC,h]
theorem MJ {B:Nat} (hB:2≤B) {n x:Nat} (h:x<B ^ n):(dn B n x).take (dl B x).length=dl B x:=by
 have hl:=fG hB h;apply anz
 ·simp[dw];omega
 ·intro i h1 h2
  have e:=bG hB x i;rw[alC,alH h2,Option.getD_some]at e;rw[e];simp[dn]
theorem Gb {B:Nat} (hB:2≤B) {n x i:Nat} (hi:(dl B x).length≤i) (hn:i<n):(dn B n x).getD i 0=0:=by
 rw[yg B n x i hn,<-bG hB x i,alC,anA hi];rfl
theorem Gu {B:Nat} (hB:2≤B) (x:Nat):dl B x=dn B (dl B x).length x:=by
 have:=MJ hB (bU hB x);rw[anB (by rw[dw];exact alo _)]at this
 exact this.symm
theorem kL (B n:Nat):dn B n 0=alL n 0:=by
 apply anz
 ·simp[dw]
 ·intro i h1 h2;simp[dn]
def dm (B n i x z:Nat):List Int:=(alA n).map λk=>if k<i then((x / B ^ k % B:Nat):Int)else((z / B ^ k % B:Nat):Int)
theorem iY (B n i x z:Nat):(dm B n i x z).length=n:=by simp[dm]
theorem lS (B n i x z k:Nat) (h:k<n):(dm B n i x z).getD k 0=if k<i then((x / B ^ k % B:Nat):Int)else((z / B ^ k % B:Nat):Int):=by
 simp[dm,alC,h]
theorem pF (B n x z:Nat):dm B n 0 x z=dn B n z:=by
 simp[dm,dn]
theorem qy {B n i:Nat} (x z:Nat) (h:n≤i):dm B n i x z=dn B n x:=by
 unfold dm dn;refine anC λk hk=>?_;rw[if_pos (by have:=anj.1 hk;omega)]
theorem mI {B n i x z:Nat} (h:i<n) {d:Int} (hd:d=((x / B ^ i % B:Nat):Int)):(dm B n i x z).set i d=dm B n (i+1) x z:=by
 apply anz
 ·simp[iY]
 ·intro k h1 h2
  rw[anD];simp only[dm,anE,anF];split
  ·subst_vars;simp
  ·split<;>split<;>first|rfl|omega
theorem uJ {B n i x x' z z':Nat} (h1:∀k,k<i->k<n->x / B ^ k % B=x' / B ^ k % B) (h2:∀k,i≤k->k<n->z / B ^ k % B=z' / B ^ k % B):dm B n i x z=dm B n i x' z':=by
 unfold dm;refine anC λk hk=>?_;have hk:=anj.1 hk;split
 ·rw[h1 k qqO hk]
 ·rw[h2 k qqO hk]
def vl (B:Nat):List Int->Nat
 | []=>0
 |d::l=>d.toNat+B*vl B l
theorem uK {B:Nat} (hB:2≤B) (x:Nat):vl B (dl B x)=x:=by
 refine Ci hB (P:=λx=>vl B (dl B x)=x) rfl ?_ x;intro x hx ih;rw[wO hB hx,vl,ih,anG];exact Nat.mod_add_div x B
def Dg (B:Nat) (l:List Int):Prop:=l=dl B (vl B l)
theorem abq {B:Nat} (hB:2≤B) (x:Nat):Dg B (dl B x):=by unfold Dg;rw[uK hB]
theorem fq {B:Nat} {l:List Int} (h:Dg B l):∃x,l=dl B x:=⟨_,h⟩
def trm (l:List Int):List Int:=(l.reverse.dropWhile (·==0)).reverse
theorem XK (l:List Int):trm (l++[0])=trm l:=by simp[trm]
theorem zP (l:List Int) {d:Int} (h:d≠0):trm (l++[d])=l++[d]:=by simp[trm,h]
theorem Fv (l:List Int) {k:Nat} (h:k<l.length):l.take (k+1)=l.take k++[l.getD k 0]:=by
 rw[List.take_add_one,alC,alH h];rfl
theorem zQ {l:List Int} {k:Nat} (h:k<l.length) (h0:l.getD k 0=0):trm (l.take (k+1))=trm (l.take k):=by rw[Fv l h,h0,XK]
theorem zR {l:List Int} {k:Nat} (h:k<l.length) (h0:l.getD k 0≠0):trm (l.take (k+1))=l.take (k+1):=by rw[Fv l h,zP _ h0]
theorem jk {B:Nat} (hB:2≤B) {n x:Nat} (h:x<B ^ n):trm (dn B n x)=dl B x:=by
 have hl:=fG hB h;have step:∀m,(dl B x).length+m≤n->trm ((dn B n x).take ((dl B x).length+m))=trm ((dn B n x).take (dl B x).length):=by
  intro m;induction m with
  |zero=>intro _;rfl
  |succ m ih=>
   intro hm;rw[<-alk,zQ (by rw[dw];omega) (Gb hB qqO qqO),ih qqO]
 have h1:=step (n-(dl B x).length) qqO;rw[show(dl B x).length+(n-(dl B x).length)=n by omega,anB (by rw[dw];exact alo _)]at h1
 rw[h1,MJ hB h];by_cases hx:x=0
 ·subst hx;rfl
 ·have hp:(dl B x).length≠0:=λh=>hx ((fD hB).1 (amT.1 h))
  obtain⟨k,hk⟩:∃k,(dl B x).length=k+1:=⟨(dl B x).length-1,qqO⟩;have ht:=ag7 hB hx;have:=zR (l:=dl B x) (k:=k) qqO (by rw[hk,anw]at ht;exact ht)
  rw[<-hk,anH]at this;exact this
theorem pw {B:Nat} (hB:2≤B) (i:Nat):0<B ^ i:=anx qqO
theorem oQ (B x i:Nat):x / B ^ (i+1)=x / B ^ i / B:=by rw[anu,ant]
theorem lq (B x i:Nat):x % B ^ (i+1)=x % B ^ i+x / B ^ i % B*B ^ i:=by
 rw[anu,Nat.mod_mul,alP (B ^ i)]
theorem gT (B x i:Nat):x / B ^ i=x / B ^ (i+1)*B+x / B ^ i % B:=by
 rw[oQ];have:=al7 (x / B ^ i) B;rw[alP];exact this.symm
theorem TM (B x i k:Nat) (h:k<i):x % B ^ i / B ^ k % B=x / B ^ k % B:=by
 obtain⟨d,rfl⟩:∃d,i=k+(d+1):=⟨i-k-1,qqO⟩;rw[anI,anJ,anu,alP (B ^ d),Nat.mod_mul_right_mod]
theorem Cj {B x y:Nat} (hB:2≤B) {i:Nat} (h:x / B ^ (i+1)=y / B ^ (i+1)) (hd:x / B ^ i % B<y / B ^ i % B):x<y:=by
 have h1:=gT B x i;have h2:=gT B y i;rw[h]at h1;have:x / B ^ i<y / B ^ i:=qqO;exact Nat.lt_of_not_le λhle=>by have:=anK (c:=B ^ i) hle;omega
theorem cmp_eq {B x y:Nat} {i:Nat} (h:x / B ^ (i+1)=y / B ^ (i+1)) (hd:x / B ^ i % B=y / B ^ i % B):x / B ^ i=y / B ^ i:=by
 rw[gT B x i,gT B y i,h,hd]
theorem yh {B x y:Nat} (hB:2≤B) (h:(dl B x).length<(dl B y).length):x<y:=by
 have h1:=bU hB x;obtain⟨k,hk⟩:∃k,(dl B y).length=k+1:=⟨(dl B y).length-1,qqO⟩;have h2:=jI hB y k hk;have:B ^ (dl B x).length≤B ^ k:=anL qqO qqO;omega
def ca (B x y i:Nat):Nat:=(x % B ^ i+y % B ^ i) / B ^ i
theorem rR (B x y:Nat):ca B x y 0=0:=by simp[ca,amc]
theorem nT {B:Nat} (hB:2≤B) (x y i:Nat):ca B x y i≤1:=by
 have h1:=al8 x (pw hB i);have h2:=al8 y (pw hB i);have:ca B x y i<2:=(al6 (pw hB i)).2 qqO;omega
theorem TN {B:Nat} (hB:2≤B) (x y i:Nat):(x % B ^ (i+1)+y % B ^ (i+1)) / B ^ i=x / B ^ i % B+y / B ^ i % B+ca B x y i:=by
 have hp:=pw hB i;rw[lq,lq,show x % B ^ i+x / B ^ i % B*B ^ i+(y % B ^ i+y / B ^ i % B*B ^ i)=(x % B ^ i+y % B ^ i)+(x / B ^ i % B+y / B ^ i % B)*B ^ i by grind,anM _ _ hp]
 unfold ca;omega
theorem rT {B:Nat} (hB:2≤B) (x y i:Nat):(x / B ^ i % B+y / B ^ i % B+ca B x y i) / B=ca B x y (i+1):=by
 rw[<-TN hB,ant];rfl
theorem wP {B:Nat} (hB:2≤B) (x y i:Nat):(x / B ^ i % B+y / B ^ i % B+ca B x y i) % B=(x+y) / B ^ i % B:=by
 rw[<-TN hB,<-anJ,<-anJ,<-anu,anN,anO,anO,<-anN]
theorem Ja {B x y n:Nat} (hx:x<B ^ n) (hy:y<B ^ n):ca B x y n=(x+y) / B ^ n:=by
 unfold ca;rw[alT hx,alT hy]
def bo (B x y i:Nat):Nat:=if x % B ^ i<y % B ^ i then 1 else 0
theorem DR (B x y:Nat):bo B x y 0=0:=by simp[bo,amc]
theorem Ck (B x y i:Nat):bo B x y i≤1:=by unfold bo;split<;>omega
theorem yj {B:Nat} (hB:2≤B) (x y i:Nat):bo B x y (i+1)=if x / B ^ i % B<y / B ^ i % B+bo B x y i then 1 else 0:=by
 have hp:=pw hB i;have h1:=al8 x hp;have h2:=al8 y hp;unfold bo;rw[lq,lq];generalize x / B ^ i % B=a at*
 generalize y / B ^ i % B=b at*
 generalize x % B ^ i=u at*
 generalize y % B ^ i=v at*
 generalize B ^ i=p at*
 by_cases hab:a<b
 ·obtain⟨c,rfl⟩:∃c,b=a+1+c:=⟨b-a-1,qqO⟩
  rw[if_pos,if_pos qqO];have:(a+1+c)*p=a*p+p+c*p:=by grind
  omega
 ·by_cases hba:a=b
  ·subst hba
   by_cases huv:u<v
   ·rw[if_pos qqO,if_pos huv,if_pos qqO]
   ·rw[if_neg qqO,if_neg huv,if_neg qqO]
  ·obtain⟨c,rfl⟩:∃c,a=b+1+c:=⟨a-b-1,qqO⟩
   have:(b+1+c)*p=b*p+p+c*p:=by grind
   rw[if_neg qqO,if_neg];split<;>omega
theorem Jb {B:Nat} (hB:2≤B) {x y:Nat} (h:y≤x) (i:Nat):(((x / B ^ i % B:Nat):Int)-((y / B ^ i % B:Nat):Int)-(bo B x y i:Int)) % B=(((x-y) / B ^ i % B:Nat):Int):=by
 have hp:=pw hB i;obtain⟨z,rfl⟩:∃z,x=y+z:=⟨x-y,qqO⟩;rw[Nat.add_sub_cancel_left];have hc:=wP hB y z i;have hs:bo B (y+z) y i=ca B y z i:=by
  unfold bo ca;have h1:=al8 y hp;have h2:=al8 z hp;rw[anN];generalize y % B ^ i=u at*
  generalize z % B ^ i=v at*
  generalize B ^ i=p at*
  by_cases hlt:u+v<p
  ·rw[alT hlt,alR hlt,if_neg qqO]
  ·have e:(u+v) % p=u+v-p:=by rw[Nat.mod_eq_sub_mod qqO,alT qqO]
   rw[e,if_pos qqO];have e2:(u+v) / p=1:=by
    rw[Nat.div_eq_of_lt_le]<;>omega
   rw[e2]
 rw[hs,<-hc];have hz:=al8 (z / B ^ i) (by omega:B>0)
 generalize y / B ^ i % B=a at*
 generalize z / B ^ i % B=b at*
 generalize ca B y z i=c at*
 have e:(((a+b+c) % B:Nat):Int)=((a+b+c:Nat):Int) % B:=anP _ _;rw[e,<-anQ ((a+b+c:Nat):Int) B];have e3:((a+b+c:Nat):Int) % (B:Int)+((a+b+c:Nat):Int) / (B:Int)*B=a+b+c:=by rw[anQ];simp
 rw[e3];have e4:((a+b+c:Nat):Int) % (B:Int)-(a:Int)-(c:Int)=(b:Int)+(-(((a+b+c:Nat):Int) / (B:Int)))*B:=by
  have:=anQ ((a+b+c:Nat):Int) B
  grind
 have e5:((a:Int)+b+c) % (B:Int)=((a+b+c:Nat):Int) % (B:Int):=qqS;rw[e5,e4,Int.add_mul_emod_self_right,Int.emod_eq_of_lt qqO qqO]
def tj (B x y i j:Nat):Nat:=x % B ^ i*y+x / B ^ i % B*(y % B ^ j)*B ^ i
theorem DT (B x y i:Nat):tj B x y i 0=x % B ^ i*y:=by simp[tj,amc]
theorem Jc {B y m:Nat} (x i:Nat) (hy:y<B ^ m):tj B x y i m=x % B ^ (i+1)*y:=by
 unfold tj;rw[alT hy,lq]
 grind
theorem MK (B x y i j:Nat):tj B x y i (j+1)=tj B x y i j+x / B ^ i % B*(y / B ^ j % B)*B ^ (i+j):=by
 unfold tj;rw[lq,anI]
 grind
def cm (B x y i j:Nat):Nat:=tj B x y i j / B ^ (i+j)-x % B ^ i*y / B ^ (i+j)
theorem TP {B:Nat} (x y i j:Nat):tj B x y i j / B ^ (i+j)=cm B x y i j+x % B ^ i*y / B ^ (i+j):=by
 have:x % B ^ i*y / B ^ (i+j)≤tj B x y i j / B ^ (i+j):=anK (by unfold tj;omega)
 unfold cm;omega
theorem DU (B x y i:Nat):cm B x y i 0=0:=by unfold cm;rw[DT];omega
theorem TQ {B:Nat} (hB:2≤B) (x y i j:Nat):tj B x y i (j+1) / B ^ (i+j)=cm B x y i j+x % B ^ i*y / B ^ (i+j) % B+x / B ^ i % B*(y / B ^ j % B)+x % B ^ i*y / B ^ (i+j+1)*B:=by
 rw[MK,anM _ _ (pw hB _),TP];have:=gT B (x % B ^ i*y) (i+j);generalize x % B ^ i*y / B ^ (i+j) % B=t at*
 generalize x % B ^ i*y / B ^ (i+j+1)*B=v at*
 omega
theorem TR {B:Nat} (hB:2≤B) (x y i j:Nat):(x / B ^ i % B*(y / B ^ j % B)+x % B ^ i*y / B ^ (i+j) % B+cm B x y i j) % B=tj B x y i (j+1) / B ^ (i+j) % B:=by
 rw[TQ hB,anR];congr 1;omega
theorem DV {B:Nat} (hB:2≤B) (x y i j:Nat):(x / B ^ i % B*(y / B ^ j % B)+x % B ^ i*y / B ^ (i+j) % B+cm B x y i j) / B=cm B x y i (j+1):=by
 have h1:=TQ hB x y i j;have h2:tj B x y i (j+1) / B ^ (i+(j+1))=(cm B x y i j+x % B ^ i*y / B ^ (i+j) % B+x / B ^ i % B*(y / B ^ j % B)) / B+x % B ^ i*y / B ^ (i+j+1):=by
  rw[<-alk,oQ,h1,anM _ _ qqO]
 have h3:cm B x y i (j+1)=tj B x y i (j+1) / B ^ (i+(j+1))-x % B ^ i*y / B ^ (i+(j+1)):=rfl;rw[h3,h2,<-alk i j 1,anw];congr 1;omega
theorem Cm {B:Nat} (hB:2≤B) (x y i j:Nat):cm B x y i j<B:=by
 induction j with
 |zero=>rw[DU];omega
 |succ j ih=>
  rw[<-DV hB,al6 qqO];have h1:x / B ^ i % B≤B-1:=by have:=al8 (x / B ^ i) (by omega:B>0);omega
  have h2:y / B ^ j % B≤B-1:=by have:=al8 (y / B ^ j) (by omega:B>0);omega
  have h3:=al8 (x % B ^ i*y / B ^ (i+j)) (by omega:B>0)
  have h4:=amy h1 h2;obtain⟨b,rfl⟩:∃b,B=b+1:=⟨B-1,qqO⟩;rw[anw]at*;have e:(b+1)*(b+1)=b*b+b+b+1:=by grind
  omega
theorem TS {B:Nat} (hB:2≤B) (x y i j k:Nat) (h:k<i+j):tj B x y i (j+1) / B ^ k % B=tj B x y i j / B ^ k % B:=by
 rw[MK];obtain⟨d,hd⟩:∃d,i+j=k+(d+1):=⟨i+j-k-1,qqO⟩;rw[hd,show x / B ^ i % B*(y / B ^ j % B)*B ^ (k+(d+1))=(x / B ^ i % B*(y / B ^ j % B)*B ^ d*B)*B ^ k by rw[anI,anu];grind,anM _ _ (pw hB k),anR]
theorem rU {B y m:Nat} (hB:2≤B) (x i:Nat) (hy:y<B ^ m):x % B ^ i*y / B ^ (i+m)=0:=by
 have hp:=pw hB i;rw[alR];rw[anI];have h1:=al8 x hp
 calc x % B ^ i*y≤x % B ^ i*B ^ m:=anS _ qqO
  _<B ^ i*B ^ m:=anT h1 (pw hB m)
theorem MN {B y m:Nat} (hB:2≤B) (x i:Nat) (hy:y<B ^ m):cm B x y i m=x % B ^ (i+1)*y / B ^ (i+m):=by
 have h:=TP (B:=B) x y i m;rw[Jc x i hy,rU hB x i hy]at h;omega
theorem MO {B:Nat} (hB:2≤B) (x i:Nat) {p r:Nat} (hp:p*r=B):
 x % B ^ i*p / B ^ i<p/\x % B ^ (i+1)*p / B ^ i % B=x % B ^ i*p / B ^ i+x / B ^ i % B*p % B/\x % B ^ (i+1)*p / B ^ (i+1)=x / B ^ i % B*p / B/\(∀k,k<i->x % B ^ (i+1)*p / B ^ k % B=x % B ^ i*p / B ^ k % B)/\x % B ^ i*p / B ^ i+x / B ^ i % B*p % B<B:=by
 have hP:=pw hB i;have hp0:0<p:=al5 λh=>by subst h;omega
 have h1:x % B ^ i*p / B ^ i<p:=by
  rw[al6 hP,alP p];exact anT (al8 _ hP) hp0
 have e:x % B ^ (i+1)*p=x % B ^ i*p+(x / B ^ i % B*p)*B ^ i:=by rw[lq];grind
 have e2:x % B ^ (i+1)*p / B ^ i=x % B ^ i*p / B ^ i+x / B ^ i % B*p:=by rw[e,anM _ _ hP]
 have em:x / B ^ i % B*p % B=(x / B ^ i % B % r)*p:=by
  rw[<-hp,alP p r,anU]
 have hr:0<r:=al5 λh=>by subst h;omega
 have hmr:=al8 (x / B ^ i % B) hr;have hs:x % B ^ i*p / B ^ i+x / B ^ i % B*p % B<B:=by
  rw[em];have:=al2 p (show x / B ^ i % B % r+1≤r by omega)
  rw[al3,alP r p,hp]at this;omega
 refine⟨h1,?_,?_,λk hk=>?_,hs⟩
 ·rw[e2,anN,alT (a:=x % B ^ i*p / B ^ i) (by have:=amq p hr;omega),alT hs]
 ·rw[oQ,e2]
  have h2:=al7 (x / B ^ i % B*p) B;generalize x / B ^ i % B*p=t at*
  generalize x % B ^ i*p / B ^ i=g at*
  rw[show g+t=(g+t % B)+t / B*B by rw[alP (t / B)];omega,anM _ _ qqO,alR hs,alO]
 ·rw[e]
  obtain⟨d,rfl⟩:∃d,i=k+(d+1):=⟨i-k-1,qqO⟩;rw[show x / B ^ (k+(d+1)) % B*p*B ^ (k+(d+1))=(x / B ^ (k+(d+1)) % B*p*B ^ d*B)*B ^ k by rw[anI B k (d+1),anu];grind,anM _ _ (pw hB k),anR]
theorem TU {B b:Nat} (hB:2≤B) (hb:0<b) (x i:Nat):(x / B ^ (i+1) % b*B+x / B ^ i % B) / b=x / b / B ^ i % B∨B<b:=by
 by_cases hbB:B<b
 ·exact .inr hbB
 left
 have e:x / b / B ^ i=x / B ^ i / b:=by rw[ant,ant,alP]
 rw[e];have h0:=gT B x i;have h1:=al7 (x / B ^ (i+1)) b;have h2:=al8 (x / B ^ (i+1)) hb;have h3:=al8 (x / B ^ i) (by omega:B>0)
 generalize x / B ^ i % B=d at*
 generalize x / B ^ (i+1) % b=r at*
 generalize x / B ^ (i+1) / b=q at*
 have e2:x / B ^ i=(r*B+d)+(q*B)*b:=by rw[h0,<-h1];grind
 rw[e2,anM _ _ hb,anR,alT];rw[al6 hb];have:(r+1)*B≤b*B:=al2 _ qqO
 grind
theorem DW (B b x i:Nat):(x / B ^ (i+1) % b*B+x / B ^ i % B) % b=x / B ^ i % b:=by
 have h0:=gT B x i;generalize x / B ^ i % B=d at*
 rw[h0,anN,anV,anO,<-anV,<-anN]
theorem XL {B:Nat} {p U V u1 v1 q:Nat} (hU:U<(u1+1)*p) (hV:v1*p≤V) (h:u1+1≤(q+1)*v1):U / V≤q:=by
 by_cases hv:V=0
 ·subst hv;simp
 have h1:(u1+1)*p≤(q+1)*v1*p:=al2 _ h;have h2:(q+1)*v1*p≤(q+1)*V:=by rw[anW];exact anS _ hV
 have:U / V<q+1:=(al6 qqO).2 qqO;omega
theorem Cn {p U V u2 v2 q:Nat} (hU:U<(u2+1)*p) (hV:v2*p≤V) (h:u2<q*v2):U / V<q:=by
 by_cases hv:V=0
 ·subst hv;simp;exact al5 λh0=>by subst h0;simp at h
 have h1:(u2+1)*p≤q*v2*p:=al2 _ qqO;have h2:q*v2*p≤q*V:=by rw[anW];exact anS _ hV
 exact(al6 qqO).2 qqO
theorem Co {B p U V u2 v2 w q:Nat} (hU:u2*p≤U) (hV:V=v2*p+w) (hw:w<p) (hv2:B≤v2) (hq:q≤B) (h:q*v2≤u2):q≤U / V+1:=by
 cases q with
 |zero=>exact aml _
 |succ q=>
  have hp:0<p:=qqO;have hVp:0<V:=by
   by_cases h0:v2=0
   ·omega
   ·have:=anX (al5 h0) hp
    omega
  have:q≤U / V:=by
   rw[al9 hVp,hV];have h1:(q+1)*v2*p≤u2*p:=al2 _ h;have h2:q*w≤q*p:=anS _ qqO;have h3:q*p≤v2*p:=al2 _ qqO;have e1:(q+1)*v2*p=q*(v2*p)+v2*p:=by grind
   have e2:q*(v2*p+w)=q*(v2*p)+q*w:=by grind
   omega
  exact Nat.succ_le_succ this
end Go.Eng.Dig
namespace Go.Eng.ElG
set_option linter.unusedSimpArgs false
set_option linter.unusedVariables false
structure Fld (α:Type)where
 z:α->Bool
 sub:α->α->α
 mul:α->α->α
 inv:α->α
abbrev bL (α:Type):=Nat->Nat->α
variable {α β:Type}
def findAt (F:Fld α) (M:bL α) (c n m:Nat):Nat:=match(alA m).find? (λr=>decide (n≤r)&&!F.z (M r c))with
 |some r=>r
 |none=>m
theorem wQ {F:Fld α} {M:bL α} {c n m:Nat} (h:findAt F M c n m<m):n≤findAt F M c n m/\F.z (M (findAt F M c n m) c)=false:=by
 unfold findAt at h⊢;cases e:(alA m).find? (λr=>decide (n≤r)&&!F.z (M r c))with
 |none=>rw[e]at h;simp at h
 |some r=>
  have:=List.find?_some e;simpa using this
theorem wR (F:Fld α) (M:bL α) (c n m:Nat):findAt F M c n m≤m:=by
 unfold findAt;cases e:(alA m).find? (λr=>decide (n≤r)&&!F.z (M r c))with
 |none=>exact alo _
 |some r=>have:=anY e;simp at this;exact anZ this
theorem Qo {p:Nat->Bool} {n a:Nat} (ha:a<n) (hp:p a=true) (hm:∀i,i<a->p i=false):(alA n).find? p=some a:=by
 rw[an0];exact⟨hp,a,by simpa using ha,qqS,λj hj=>by simp[hm j hj]⟩
theorem wS {F:Fld α} {M:bL α} {c n m a:Nat} (ha:a<m) (hn:n≤a) (h0:F.z (M a c)=false) (hz:∀r,n≤r->r<a->F.z (M r c)=true):findAt F M c n m=a:=by
 unfold findAt;rw[Qo ha (by simp[hn,h0]) (λi hi=>by
  by_cases h:n≤i
  ·simp[hz i h hi]
  ·simp[h])]
theorem rF {F:Fld α} {M:bL α} {c n m:Nat} (hz:∀r,n≤r->r<m->F.z (M r c)=true):findAt F M c n m=m:=by
 unfold findAt;have:(alA m).find? (λr=>decide (n≤r)&&!F.z (M r c))=none:=by
  rw[an1];intro i hi;have hi:=anj.1 hi;by_cases h:n≤i
  ·simp[hz i h hi]
  ·simp[h]
 rw[this]
def gL (M:bL α) (n a:Nat):bL α:=λr=>if r=n then M a else if r=a then M n else M r
def dS (F:Fld α) (w:Nat) (M:bL α) (n:Nat) (s:α):bL α:=λr=>if r=n then(λj=>if j<w then F.mul (M n j) s else M n j)else M r
def dG (F:Fld α) (w:Nat) (M:bL α) (n c:Nat):bL α:=λr=>if r=n∨F.z (M r c)=true then M r else(λj=>if j<w then F.sub (M r j) (F.mul (M r c) (M n j))else M r j)
structure ES (α:Type)where
 M:bL α
 piv:List Nat
 heads:List α
 odd:Bool
def jg (F:Fld α) (w m:Nat) (s:ES α) (c:Nat):ES α:=
 if findAt F s.M c s.piv.length m=m then s else
  {M:=dG F w (dS F w (gL s.M s.piv.length (findAt F s.M c s.piv.length m)) s.piv.length (F.inv (gL s.M s.piv.length (findAt F s.M c s.piv.length m) s.piv.length c))) s.piv.length c
   piv:=s.piv++[c]
   heads:=s.heads++[gL s.M s.piv.length (findAt F s.M c s.piv.length m) s.piv.length c]
   odd:=s.odd !=decide (s.piv.length≠findAt F s.M c s.piv.length m)}
def aO (F:Fld α) (w m:Nat) (M:bL α):Nat->ES α
 |0=>⟨M,[],[],false⟩
 |c+1=>jg F w m (aO F w m M c) c
theorem fU (F:Fld α) (w m:Nat) (M:bL α) (c:Nat):(aO F w m M c).piv.length≤m/\(aO F w m M c).piv.length≤c/\(aO F w m M c).heads.length=(aO F w m M c).piv.length:=by
 induction c with
 |zero=>exact⟨aml _,aml _,rfl⟩
 |succ c ih=>
  obtain⟨i1,i2,i3⟩:=ih;rw[aO,jg];split
  ·exact⟨i1,qqO,i3⟩
  ·rename_i hne
   have hle:=wR F (aO F w m M c).M c (aO F w m M c).piv.length m;have hlt:findAt F (aO F w m M c).M c (aO F w m M c).piv.length m<m:=qqO;have hp:=(wQ hlt).1;simp only[List.length_append,alj,List.length_nil];omega
structure Hom (F:Fld α) (E:Fld β) (φ:α->β) (G:Nat->α->Prop):Prop where
 up:∀c x,G c x->G (c+1) x
 z:∀c x,G c x->E.z (φ x)=F.z x
 scale:∀c a s,G c a->G c s->F.z s=false->φ (F.mul a (F.inv s))=E.mul (φ a) (E.inv (φ s))/\G (c+1) (F.mul a (F.inv s))
 clear:∀c a t b s,G c a->G c t->G c b->G c s->F.z s=false->φ (F.sub a (F.mul t (F.mul b (F.inv s))))=E.sub (φ a) (E.mul (φ t) (φ (F.mul b (F.inv s))))/\G (c+1) (F.sub a (F.mul t (F.mul b (F.inv s))))
theorem Qp {F:Fld α} {E:Fld β} {M:bL α} {M':bL β} {c n m:Nat} (h:∀r,r<m->E.z (M' r c)=F.z (M r c)):findAt E M' c n m=findAt F M c n m:=by
 by_cases e:findAt F M c n m=m
 ·rw[e]
  refine rF λr h1 h2=>?_;rw[h r h2];cases hz:F.z (M r c)with
  |true=>rfl
  |false=>
   exfalso
   unfold findAt at e;cases e2:(alA m).find? (λr=>decide (n≤r)&&!F.z (M r c))with
   |none=>
    have:=an1.1 e2 r (anj.2 h2);simp[h1,hz]at this
   |some q=>
    rw[e2]at e;have:=anj.1 (anY e2);simp only at e;omega
 ·have hlt:findAt F M c n m<m:=by have:=wR F M c n m;omega
  obtain⟨g1,g2⟩:=wQ hlt;refine wS hlt g1 (by rw[h _ hlt];exact g2) (λr h1 h2=>?_)
  rw[h r qqO];cases hz:F.z (M r c)with
  |true=>rfl
  |false=>
   exfalso
   unfold findAt at h2 hlt;cases e2:(alA m).find? (λr=>decide (n≤r)&&!F.z (M r c))with
   |none=>rw[e2]at hlt;simp at hlt
   |some q=>
    rw[e2]at h2;have h3:=(an0.1 e2).2;obtain⟨i,hi,he,hall⟩:=h3;simp only[anF]at he;have:=hall r (by simp only at h2;omega)
    simp[h1,hz]at this
theorem MP (F:Fld α) (w:Nat) (M:bL α) (n c:Nat) (s:α) {j:Nat} (hj:j<w):dG F w (dS F w M n s) n c n j=F.mul (M n j) s:=by
 unfold dG;rw[if_pos (.inl rfl)];unfold dS;rw[if_pos rfl,if_pos hj]
theorem MQ (F:Fld α) (w:Nat) (M:bL α) {n c r:Nat} (s:α) (h:r≠n) (hz:F.z (M r c)=true):dG F w (dS F w M n s) n c r=M r:=by
 have e:dS F w M n s r=M r:=by unfold dS;rw[if_neg h]
 unfold dG;rw[e,if_pos (.inr hz)]
theorem MR (F:Fld α) (w:Nat) (M:bL α) {n c r:Nat} (s:α) (h:r≠n) (hz:¬F.z (M r c)=true) {j:Nat} (hj:j<w):dG F w (dS F w M n s) n c r j=F.sub (M r j) (F.mul (M r c) (F.mul (M n j) s)):=by
 have e:dS F w M n s r=M r:=by unfold dS;rw[if_neg h]
 have e2:dS F w M n s n j=F.mul (M n j) s:=by unfold dS;rw[if_pos rfl,if_pos hj]
 unfold dG;rw[e,if_neg (λg=>g.elim h hz)];show(if j<w then _ else _)=_;rw[if_pos hj,e2]
theorem jq {F:Fld α} {E:Fld β} {φ:α->β} {G:Nat->α->Prop} (h:Hom F E φ G) {m w:Nat} {M:bL α} {M':bL β} (h0:∀r,r<m->∀j,j<w->G 0 (M r j)/\φ (M r j)=M' r j):∀c,c≤w->
 (∀r,r<m->∀j,j<w->G (aO F w m M c).piv.length ((aO F w m M c).M r j)/\φ ((aO F w m M c).M r j)=(aO E w m M' c).M r j)/\(aO E w m M' c).piv=(aO F w m M c).piv/\(aO E w m M' c).odd=(aO F w m M c).odd/\(aO E w m M' c).heads=(aO F w m M c).heads.map φ/\∀x∈(aO F w m M c).heads,∃k,k≤(aO F w m M c).piv.length/\G k x/\F.z x=false:=by
 intro c;induction c with
 |zero=>exact λ_=>⟨h0,rfl,rfl,rfl,λx hx=>by cases hx⟩
 |succ c ih=>
  intro hc;obtain⟨i1,i2,i3,i4,i5⟩:=ih qqO;have hz:∀r,r<m->E.z ((aO E w m M' c).M r c)=F.z ((aO F w m M c).M r c):=λr hr=>by
   obtain⟨g1,g2⟩:=i1 r hr c qqO;rw[<-g2];exact h.z _ _ g1
  have hfa:=Qp (n:=(aO F w m M c).piv.length) hz;obtain⟨l1,l2,l3⟩:=fU F w m M c;rw[aO,aO,jg,jg,i2,hfa];by_cases e:findAt F (aO F w m M c).M c (aO F w m M c).piv.length m=m
  ·rw[if_pos e,if_pos e]
   exact⟨i1,i2,i3,i4,i5⟩
  ·rw[if_neg e,if_neg e]
   have hlt:findAt F (aO F w m M c).M c (aO F w m M c).piv.length m<m:=by have:=wR F (aO F w m M c).M c (aO F w m M c).piv.length m;omega
   obtain⟨g1,g2⟩:=wQ hlt;generalize aO F w m M c=S at*
   generalize aO E w m M' c=S' at*
   generalize findAt F S.M c S.piv.length m=a at*
   have hl:(S.piv++[c]).length=S.piv.length+1:=qqS;simp only[hl];generalize hn:S.piv.length=n at*
   have hs:∀r,r<m->∀j,j<w->G n (gL S.M n a r j)/\φ (gL S.M n a r j)=gL S'.M n a r j:=λr hr j hj=>by
    unfold gL;by_cases h1:r=n
    ·rw[if_pos h1,if_pos h1];exact i1 a hlt j hj
    ·rw[if_neg h1,if_neg h1]
     by_cases h2:r=a
     ·rw[if_pos h2,if_pos h2];exact i1 n qqO j hj
     ·rw[if_neg h2,if_neg h2];exact i1 r hr j hj
   have hh:F.z (gL S.M n a n c)=false:=by unfold gL;rw[if_pos rfl];exact g2
   obtain⟨k1,k2⟩:=hs n qqO c qqO;generalize hA:gL S.M n a=A at*
   generalize hB:gL S'.M n a=B at*
   refine⟨λr hr j hj=>?_,trivial,by rw[i3],by rw[i4,List.map_append,<-k2];rfl,λx hx=>?_⟩
   ·obtain⟨p1,p2⟩:=hs r hr j hj
    obtain⟨q1,q2⟩:=hs n qqO j hj;obtain⟨t1,t2⟩:=hs r hr c qqO;show G (n+1) (dG F w (dS F w A n (F.inv (A n c))) n c r j)/\φ (dG F w (dS F w A n (F.inv (A n c))) n c r j)=dG E w (dS E w B n (E.inv (B n c))) n c r j;by_cases hr1:r=n
    ·subst hr1
     rw[MP F w A _ _ _ hj,MP E w B _ _ _ hj];have:=h.scale _ _ _ p1 k1 hh;rw[p2,k2]at this;exact⟨this.2,this.1⟩
    ·have hzz:E.z (B r c)=F.z (A r c):=by rw[<-t2];exact h.z _ _ t1
     by_cases hz2:F.z (A r c)=true
     ·rw[MQ F w A _ hr1 hz2,MQ E w B _ hr1 (hzz.trans hz2)]
      exact⟨h.up _ _ p1,p2⟩
     ·rw[MR F w A _ hr1 hz2 hj,MR E w B _ hr1 (by rw[hzz];exact hz2) hj]
      have h1:=h.clear n _ _ _ _ p1 t1 q1 k1 hh;have h2:=(h.scale n _ _ q1 k1 hh).1;rw[h2,p2,t2,q2,k2]at h1;exact⟨h1.2,h1.1⟩
   ·rcases List.mem_append.1 hx with hx|hx
    ·obtain⟨k,e1,e2⟩:=i5 x hx
     exact⟨k,qqO,e2⟩
    ·rw[List.mem_singleton]at hx
     subst hx;exact⟨n,qqO,k1,hh⟩
def swl (l:List Nat) (n a:Nat):List Nat:=(l.set n (l.getD a 0)).set a (l.getD n 0)
theorem lT {l:List Nat} {n a r:Nat} (hn:n<l.length) (ha:a<l.length):(swl l n a).getD r 0=if r=n then l.getD a 0 else if r=a then l.getD n 0 else l.getD r 0:=by
 unfold swl;rw[alC,alX,alX];simp only[alZ];by_cases h1:a=r
 ·subst h1
  rw[if_pos rfl,if_pos ha];by_cases h2:a=n
  ·subst h2;rw[if_pos rfl];rfl
  ·rw[if_neg h2,if_pos rfl];rfl
 ·rw[if_neg h1]
  by_cases h2:n=r
  ·subst h2;rw[if_pos rfl,if_pos hn,if_pos rfl];rfl
  ·rw[if_neg h2,if_neg (λh=>h2 h.symm),if_neg (λh=>h1 h.symm),alC]
theorem kD {l:List Nat}:l.Nodup↔∀i j,i<l.length->j<l.length->l.getD i 0=l.getD j 0->i=j:=by
 have hg:∀i,(h:i<l.length)->l.getD i 0=l[i]:=λi h=>by rw[alC,alH h];rfl
 rw[List.Nodup,List.pairwise_iff_getElem];constructor
 ·intro h i j hi hj e
  rw[hg i hi,hg j hj]at e;rcases Nat.lt_trichotomy i j with h1|h1|h1
  ·exact absurd e (h i j hi hj h1)
  ·exact h1
  ·exact absurd e.symm (h j i hj hi h1)
 ·intro h i j hi hj hij e
  rw[<-hg i hi,<-hg j hj]at e;have:=h i j hi hj e;omega
def sgw (n a r:Nat):Nat:=if r=n then a else if r=a then n else r
theorem uL {l:List Nat} {n a r:Nat} (hn:n<l.length) (ha:a<l.length):(swl l n a).getD r 0=l.getD (sgw n a r) 0:=by
 rw[lT hn ha];unfold sgw;by_cases h1:r=n
 ·rw[if_pos h1,if_pos h1]
 ·rw[if_neg h1,if_neg h1]
  by_cases h2:r=a
  ·rw[if_pos h2,if_pos h2]
  ·rw[if_neg h2,if_neg h2]
theorem Cq {n a r m:Nat} (hn:n<m) (ha:a<m) (hr:r<m):sgw n a r<m:=by
 unfold sgw;split
 ·exact ha
 ·split
  ·exact hn
  ·exact hr
theorem adG {n a i j:Nat} (h:sgw n a i=sgw n a j):i=j:=by
 unfold sgw at h;by_cases h1:i=n
 ·rw[if_pos h1]at h
  by_cases h2:j=n
  ·omega
  ·rw[if_neg h2]at h
   by_cases h3:j=a
   ·rw[if_pos h3]at h;omega
   ·rw[if_neg h3]at h;omega
 ·rw[if_neg h1]at h
  by_cases h4:i=a
  ·rw[if_pos h4]at h
   by_cases h2:j=n
   ·rw[if_pos h2]at h;omega
   ·rw[if_neg h2]at h
    by_cases h3:j=a
    ·omega
    ·rw[if_neg h3]at h;omega
  ·rw[if_neg h4]at h
   by_cases h2:j=n
   ·rw[if_pos h2]at h;omega
   ·rw[if_neg h2]at h
    by_cases h3:j=a
    ·rw[if_pos h3]at h;omega
    ·rw[if_neg h3]at h;exact h
theorem Fx {l:List Nat} {n a:Nat} (hn:n<l.length) (ha:a<l.length) (h:l.Nodup):(swl l n a).Nodup:=by
 rw[kD]at h⊢;have hl:(swl l n a).length=l.length:=by simp[swl]
 rw[hl];intro i j hi hj e;rw[uL hn ha,uL hn ha]at e;exact adG (h _ _ (Cq hn ha hi) (Cq hn ha hj) e)
theorem MS {l:List Nat} {n a b:Nat} (hn:n<l.length) (ha:a<l.length) (h:b∈l):b∈swl l n a:=by
 have hl:(swl l n a).length=l.length:=by simp[swl]
 obtain⟨i,hi,rfl⟩:=List.getElem_of_mem h;have key:∀r,r<l.length->(swl l n a).getD r 0∈swl l n a:=λr hr=>by
  rw[alC,alH qqO];exact List.getElem_mem _
 have hg:l.getD i 0=l[i]:=by rw[alC,alH hi];rfl
 by_cases h1:i=n
 ·have:=key a ha
  rw[lT hn ha]at this;subst h1;split at this
  ·rename_i e;subst e;rw[<-hg];exact this
  ·rw[if_pos rfl]at this;rw[<-hg];exact this
 ·by_cases h2:i=a
  ·have:=key n hn
   rw[lT hn ha,if_pos rfl]at this;subst h2;rw[<-hg];exact this
  ·have:=key i hi
   rw[lT hn ha,if_neg h1,if_neg h2]at this;rw[<-hg];exact this
end Go.Eng.ElG
namespace Go.Eng.YtmkagljofpddpaaGreatDoor
open Go.Proofs
set_option linter.unusedSimpArgs false
set_option linter.unusedVariables false
set_option maxHeartbeats 0
set_option maxRecDepth 100000
theorem ajK:te3.bytes=8:=qqR
theorem ajL:te4.bytes=1:=qqR
theorem zS:te3.size=1:=qqR
theorem ajM:te4.size=1:=qqR
theorem ag8:qU.size=1:=qqR
theorem ag9:qU.bytes=8:=qqR
theorem vn:(∀(cs:List PV),CL.cnt (.pv cs)=cs.length)/\(∀(cs:List PV),CL.ncell (.pv cs)=cs.length)/\(∀(k:IntKind) (xs:List Int),CL.cnt (.ints k xs)=xs.length)/\(∀(k:IntKind) (xs:List Int),CL.ncell (.ints k xs)=xs.length)/\(∀(xs:List Bool),CL.cnt (.bools xs)=xs.length)/\(∀(xs:List Bool),CL.ncell (.bools xs)=xs.length)/\(∀(xs:List ByteArray),CL.cnt (.strs xs)=xs.length)/\(∀(xs:List ByteArray),CL.ncell (.strs xs)=xs.length)/\(∀(k:IntKind) (xss:List (List Int)),CL.cnt (.rows k xss)=xss.length)/\(∀(k:IntKind) (xss:List (List Int)),CL.ncell (.rows k xss)=xss.length)/\(∀(m:Nat) (rs:List (List PV)),CL.cnt (.recs m rs)=rs.length)/\(∀(m:Nat) (rs:List (List PV)),CL.ncell (.recs m rs)=rs.length*m)/\(∀(n:Nat) (f:Nat->PV),CL.cnt (.gen n f)=n)/\(∀(n:Nat) (f:Nat->PV),CL.ncell (.gen n f)=n)/\(∀(m n:Nat) (f:Nat->List PV),CL.cnt (.genr m n f)=n)/\(∀(m n:Nat) (f:Nat->List PV),CL.ncell (.genr m n f)=n*m):=
 ⟨λ_=>rfl,λ_=>rfl,λ_ _=>rfl,λ_ _=>rfl,λ_=>rfl,λ_=>rfl,λ_=>rfl,λ_=>rfl,λ_ _=>rfl,λ_ _=>rfl,λ_ _=>rfl,λ_ _=>rfl,λ_ _=>rfl,λ_ _=>rfl,λ_ _ _=>rfl,λ_ _ _=>rfl⟩
theorem vp:((∀(cs:List PV),CL.cnt (.pv cs)=cs.length)/\(∀(cs:List PV),CL.ncell (.pv cs)=cs.length)/\(∀(k:IntKind) (xs:List Int),CL.cnt (.ints k xs)=xs.length)/\(∀(k:IntKind) (xs:List Int),CL.ncell (.ints k xs)=xs.length)/\(∀(xs:List Bool),CL.cnt (.bools xs)=xs.length)/\(∀(xs:List Bool),CL.ncell (.bools xs)=xs.length)/\(∀(xs:List ByteArray),CL.cnt (.strs xs)=xs.length)/\(∀(xs:List ByteArray),CL.ncell (.strs xs)=xs.length)/\(∀(k:IntKind) (xss:List (List Int)),CL.cnt (.rows k xss)=xss.length)/\(∀(k:IntKind) (xss:List (List Int)),CL.ncell (.rows k xss)=xss.length)/\(∀(m:Nat) (rs:List (List PV)),CL.cnt (.recs m rs)=rs.length)/\(∀(m:Nat) (rs:List (List PV)),CL.ncell (.recs m rs)=rs.length*m)/\(∀(n:Nat) (f:Nat->PV),CL.cnt (.gen n f)=n)/\(∀(n:Nat) (f:Nat->PV),CL.ncell (.gen n f)=n)/\(∀(m n:Nat) (f:Nat->List PV),CL.cnt (.genr m n f)=n)/\(∀(m n:Nat) (f:Nat->List PV),CL.ncell (.genr m n f)=n*m))/\qU.size=1/\qU.bytes=8/\(∀n:Nat,((n:Int)).toNat=n)/\te3.bytes=8/\te4.bytes=1/\te3.size=1/\te4.size=1/\(∀n:Nat,n*1=n)/\(∀n:Nat,0+n=n)/\((false=true)=False)/\((true=false)=False):=
 ⟨vn,ag8,ag9,anG,ajK,ajL,zS,ajM,alV,alO,qqS,qqS⟩
theorem vq:(∀(p:Prop) [Decidable p],(decide p=true)=p)/\(∀(p:Prop) [Decidable p],(decide p=false)=¬p)/\(∀b:Bool,(¬b=true)=(b=false))/\((!false)=true)/\((!true)=false)/\(∀p:Prop,(p/\p)=p)/\(∀p:Prop,(p/\True)=p)/\(∀p:Prop,(True/\p)=p)/\(∀(α:Type) (a:α) (l:List α),(a::l).length=l.length+1)/\(∀α:Type,([]:List α).length=0)/\((∀(cs:List PV),CL.cnt (.pv cs)=cs.length)/\(∀(cs:List PV),CL.ncell (.pv cs)=cs.length)/\(∀(k:IntKind) (xs:List Int),CL.cnt (.ints k xs)=xs.length)/\(∀(k:IntKind) (xs:List Int),CL.ncell (.ints k xs)=xs.length)/\(∀(xs:List Bool),CL.cnt (.bools xs)=xs.length)/\(∀(xs:List Bool),CL.ncell (.bools xs)=xs.length)/\(∀(xs:List ByteArray),CL.cnt (.strs xs)=xs.length)/\(∀(xs:List ByteArray),CL.ncell (.strs xs)=xs.length)/\(∀(k:IntKind) (xss:List (List Int)),CL.cnt (.rows k xss)=xss.length)/\(∀(k:IntKind) (xss:List (List Int)),CL.ncell (.rows k xss)=xss.length)/\(∀(m:Nat) (rs:List (List PV)),CL.cnt (.recs m rs)=rs.length)/\(∀(m:Nat) (rs:List (List PV)),CL.ncell (.recs m rs)=rs.length*m)/\(∀(n:Nat) (f:Nat->PV),CL.cnt (.gen n f)=n)/\(∀(n:Nat) (f:Nat->PV),CL.ncell (.gen n f)=n)/\(∀(m n:Nat) (f:Nat->List PV),CL.cnt (.genr m n f)=n)/\(∀(m n:Nat) (f:Nat->List PV),CL.ncell (.genr m n f)=n*m))/\qU.size=1/\qU.bytes=8/\(∀n:Nat,((n:Int)).toNat=n)/\te3.bytes=8/\te4.bytes=1/\te3.size=1/\te4.size=1/\(∀n:Nat,n*1=n)/\(∀n:Nat,0+n=n)/\((false=true)=False)/\((true=false)=False):=
 ⟨λp _=>decide_eq_true_eq,λp _=>propext decide_eq_false_iff_not,λb=>qqS,rfl,rfl,and_self,and_true,true_and,λ_ _ _=>rfl,λ_=>rfl,vp⟩
def Hid (a:Prop) (_:PLift a->Nat):Prop:=a
theorem Hid.get {a:Prop} {f:PLift a->Nat} (h:Hid a f):a:=h
theorem wk0 {p:Prop} (f:p:=by
 repeat'((conv=>whnf);first|(intro hz;(try simp only[vw]at hz);try first|exact absurd hz qqD|exfalso;omega)|apply aI|exact aD|apply nM|apply fM)
 all_goals((try apply vM);(try simp only[vq]at*);try omega)):p:=f
theorem wk1 {p a:Prop} (xa:a) (f:Hid a (λ_=>0)->p:=by
 intro ha0
 repeat'((conv=>whnf);first|(intro hz;(try simp only[vw]at hz);try first|exact absurd hz qqD|exfalso;omega)|apply aI|exact aD|apply nM|apply fM)
 all_goals((try apply vM);(try simp only[vq]at*);try omega)
 ·(repeat revert hz);exact ha0.get):p:=f xa
theorem wk2 {p a b:Prop} (xa:a) (xb:b) (f:Hid a (λ_=>0)->Hid b (λ_=>0)->p:=by
 intro ha0 hb0
 repeat'((conv=>whnf);first|(intro hz;(try simp only[vw]at hz);try first|exact absurd hz qqD|exfalso;omega)|apply aI|exact aD|apply nM|apply fM)
 all_goals((try apply vM);(try simp only[vq]at*);try omega)
 ·(repeat revert hz);exact ha0.get
 ·(repeat revert hz);exact hb0.get):p:=f xa xb
theorem wk3 {p a b c:Prop} (xa:a) (xb:b) (xc:c) (f:Hid a (λ_=>0)->Hid b (λ_=>0)->Hid c (λ_=>0)->p:=by
 intro ha0 hb0 hc0
 repeat'((conv=>whnf);first|(intro hz;(try simp only[vw]at hz);try first|exact absurd hz qqD|exfalso;omega)|apply aI|exact aD|apply nM|apply fM)
 all_goals((try apply vM);(try simp only[vq]at*);try omega)
 ·(repeat revert hz);exact ha0.get
 ·(repeat revert hz);exact hb0.get
 ·(repeat revert hz);exact hc0.get):p:=f xa xb xc
theorem wk4 {p a b c d:Prop} (xa:a) (xb:b) (xc:c) (xd:d) (f:Hid a (λ_=>0)->Hid b (λ_=>0)->Hid c (λ_=>0)->Hid d (λ_=>0)->p:=by
 intro ha0 hb0 hc0 hd0
 repeat'((conv=>whnf);first|(intro hz;(try simp only[vw]at hz);try first|exact absurd hz qqD|exfalso;omega)|apply aI|exact aD|apply nM|apply fM)
 all_goals((try apply vM);(try simp only[vq]at*);try omega)
 ·(repeat revert hz);exact ha0.get
 ·(repeat revert hz);exact hb0.get
 ·(repeat revert hz);exact hc0.get
 ·(repeat revert hz);exact hd0.get):p:=f xa xb xc xd
theorem wk5 {p a b c d e:Prop} (xa:a) (xb:b) (xc:c) (xd:d) (xe:e) (f:Hid a (λ_=>0)->Hid b (λ_=>0)->Hid c (λ_=>0)->Hid d (λ_=>0)->Hid e (λ_=>0)->p:=by
 intro ha0 hb0 hc0 hd0 he0
 repeat'((conv=>whnf);first|(intro hz;(try simp only[vw]at hz);try first|exact absurd hz qqD|exfalso;omega)|apply aI|exact aD|apply nM|apply fM)
 all_goals((try apply vM);(try simp only[vq]at*);try omega)
 ·(repeat revert hz);exact ha0.get
 ·(repeat revert hz);exact hb0.get
 ·(repeat revert hz);exact hc0.get
 ·(repeat revert hz);exact hd0.get
 ·(repeat revert hz);exact he0.get):p:=f xa xb xc xd xe
theorem wk6 {p a b c d e f:Prop} (xa:a) (xb:b) (xc:c) (xd:d) (xe:e) (xf:f) (f:Hid a (λ_=>0)->Hid b (λ_=>0)->Hid c (λ_=>0)->Hid d (λ_=>0)->Hid e (λ_=>0)->Hid f (λ_=>0)->p:=by
 intro ha0 hb0 hc0 hd0 he0 hf0
 repeat'((conv=>whnf);first|(intro hz;(try simp only[vw]at hz);try first|exact absurd hz qqD|exfalso;omega)|apply aI|exact aD|apply nM|apply fM)
 all_goals((try apply vM);(try simp only[vq]at*);try omega)
 ·(repeat revert hz);exact ha0.get
 ·(repeat revert hz);exact hb0.get
 ·(repeat revert hz);exact hc0.get
 ·(repeat revert hz);exact hd0.get
 ·(repeat revert hz);exact he0.get
 ·(repeat revert hz);exact hf0.get):p:=f xa xb xc xd xe xf
theorem wk7 {p a b c d e f g:Prop} (xa:a) (xb:b) (xc:c) (xd:d) (xe:e) (xf:f) (xg:g) (f:Hid a (λ_=>0)->Hid b (λ_=>0)->Hid c (λ_=>0)->Hid d (λ_=>0)->Hid e (λ_=>0)->Hid f (λ_=>0)->Hid g (λ_=>0)->p:=by
 intro ha0 hb0 hc0 hd0 he0 hf0 hg0
 repeat'((conv=>whnf);first|(intro hz;(try simp only[vw]at hz);try first|exact absurd hz qqD|exfalso;omega)|apply aI|exact aD|apply nM|apply fM)
 all_goals((try apply vM);(try simp only[vq]at*);try omega)
 ·(repeat revert hz);exact ha0.get
 ·(repeat revert hz);exact hb0.get
 ·(repeat revert hz);exact hc0.get
 ·(repeat revert hz);exact hd0.get
 ·(repeat revert hz);exact he0.get
 ·(repeat revert hz);exact hf0.get
 ·(repeat revert hz);exact hg0.get):p:=f xa xb xc xd xe xf xg
theorem wk8 {p a b c d e f g h:Prop} (xa:a) (xb:b) (xc:c) (xd:d) (xe:e) (xf:f) (xg:g) (xh:h) (f:Hid a (λ_=>0)->Hid b (λ_=>0)->Hid c (λ_=>0)->Hid d (λ_=>0)->Hid e (λ_=>0)->Hid f (λ_=>0)->Hid g (λ_=>0)->Hid h (λ_=>0)->p:=by
 intro ha0 hb0 hc0 hd0 he0 hf0 hg0 hh0
 repeat'((conv=>whnf);first|(intro hz;(try simp only[vw]at hz);try first|exact absurd hz qqD|exfalso;omega)|apply aI|exact aD|apply nM|apply fM)
 all_goals((try apply vM);(try simp only[vq]at*);try omega)
 ·(repeat revert hz);exact ha0.get
 ·(repeat revert hz);exact hb0.get
 ·(repeat revert hz);exact hc0.get
 ·(repeat revert hz);exact hd0.get
 ·(repeat revert hz);exact he0.get
 ·(repeat revert hz);exact hf0.get
 ·(repeat revert hz);exact hg0.get
 ·(repeat revert hz);exact hh0.get):p:=f xa xb xc xd xe xf xg xh
def lu:PSp:=λxs K=>match xs with
 | [.bp h,.int .i64 e]=>K (.int .i64 (if h then e else 0))
 | [.bool h,.int .i64 e]=>K (.int .i64 (if h then e else 0))
 |_=>False
def dZ:List Int->Int
 | []=>0
 |x::r=>if x=0 then dZ r else x
theorem Jd:∀(l:List Int),(∀i,i<l.length->l.getD i 0=0)->dZ l=0:=by
 intro l;induction l with
 |nil=>intro _;rfl
 |cons x r ih=>
  intro h;have h0:=h 0 qqS;simp at h0;subst h0;exact ih λi hi=>by simpa using h (i+1) (by simpa using hi)
theorem Qq:∀(l:List Int) (k:Nat),k<l.length->(∀i,i<k->l.getD i 0=0)->l.getD k 0≠0->dZ l=l.getD k 0:=by
 intro l;induction l with
 |nil=>intro k hk;simp at hk
 |cons x r ih=>
  intro k hk h hne;cases k with
  |zero=>simp at hne;simp[dZ,hne]
  |succ k=>
   have h0:=h 0 qqO;simp at h0;subst h0;have:=ih k (by simpa using hk) (λi hi=>by simpa using h (i+1) qqO) (by simpa using hne)
   simp[dZ,this]
end Go.Eng.YtmkagljofpddpaaGreatDoor
namespace Go.Eng.YtmkagljofpddpaaGreatDoor
open Go.Proofs Go.Eng.Dig
set_option linter.unusedSimpArgs false
set_option linter.unusedVariables false
set_option maxHeartbeats 0
set_option maxRecDepth 100000
abbrev W:Nat:=18446744073709551616
theorem W2:2≤W:=qqD
abbrev wd (x:Nat):CL:=.ints .u64 (dl W x)
theorem aha {S:Imm} {w:World} {ι:Ix} {p q r:PV} {vs:Array Value} (h:bH S w ι [p,q,r] vs):∃u v t,vs= #[u,v,t]/\Rep S w ι p u/\Rep S w ι q v/\Rep S w ι r t:=by
 have h0:=h.2 0 qqS;have h1:=h.2 1 qqS;have h2:=h.2 2 qqS;have hsz:vs.size=3:=h.1.symm;refine⟨vs.getD 0 undef,vs.getD 1 undef,vs.getD 2 undef,?_,h0,h1,h2⟩;apply Array.ext (by simp[hsz])
 intro i g1 g2;have:i=0∨i=1∨i=2:=qqO;rcases this with rfl|rfl|rfl<;>simp[Array.getD_eq_getD_getElem?,g1]
def wT:PSp:=λxs K=>match xs with
 | [.int .u64 x,.int .u64 y,.int .u64 c]=>VC (0≤x/\0≤y/\0≤c/\c≤1)/\K (.tup [.int .u64 ((x+y+c) % 18446744073709551616),.int .u64 ((x+y+c) / 18446744073709551616)])
 |_=>False
theorem zT:IZ Tryz.prog 231 wT:=by
 intro xs K hk;unfold wT at hk;split at hk
 ·refine⟨_,hk.2,λS w vs h=>?_⟩
  rename_i x y c;obtain⟨h1,h2,h3,h4⟩:=hk.1.get;obtain⟨u,v,t,rfl,r1,r2,r3⟩:=aha h;cases r1;cases r2;cases r3
  refine⟨_,?_,.tup _ _ #[.int .u64 ((x+y+c) % 18446744073709551616),.int .u64 ((x+y+c) / 18446744073709551616)] rfl λi hi=>?_⟩
  ·rw[run_callFunc_extern (e:=add64Entry) Tryz.func231 qqR qqR qqR qqR,run_add64 _ _ _ h1 h2 h3 h4]
   rfl
  ·have:i=0∨i=1:=by simp at hi;omega
   rcases this with rfl|rfl<;>exact .int _ _ _
 ·exact hk.elim
def TV:Array Value->Sem Value:=λargs=>do
 let(x,y,b)<-Extern.MathBitsCarry.three "Sub64" args
 pure (Extern.MathBitsCarry.pair ((x+Extern.MathBitsCarry.m64-y-b) % Extern.MathBitsCarry.m64) (if x<y+b then 1 else 0))
theorem Qr {P:Program} (x y b:Nat) (hb:b≤1) (w:World):
 (TV #[.int .u64 x,.int .u64 y,.int .u64 b]).run P w=
  .ok (.tuple #[.int .u64 (((x+18446744073709551616-y-b) % 18446744073709551616:Nat):Int),.int .u64 ((if x<y+b then 1 else 0:Nat):Int)]) w:=by
 have:b=0∨b=1:=qqO;rcases this with rfl|rfl<;>rfl
def Cr:PSp:=λxs K=>match xs with
 | [.int .u64 x,.int .u64 y,.int .u64 c]=>VC (0≤x/\x<18446744073709551616/\0≤y/\y<18446744073709551616/\0≤c/\c≤1)/\K (.tup [.int .u64 ((x-y-c) % 18446744073709551616),.int .u64 (if x<y+c then 1 else 0)])
 |_=>False
theorem Je:IZ Tryz.prog 233 Cr:=by
 intro xs K hk;unfold Cr at hk;split at hk
 ·refine⟨_,hk.2,λS w vs h=>?_⟩
  rename_i x y c;obtain⟨h1,h1',h2,h2',h3,h4⟩:=hk.1.get;obtain⟨u,v,t,rfl,r1,r2,r3⟩:=aha h;cases r1;cases r2;cases r3
  obtain⟨X,rfl⟩:=an2 h1;obtain⟨Y,rfl⟩:=an2 h2;obtain⟨C,rfl⟩:=an2 h3;refine⟨_,?_,.tup _ _ #[.int .u64 (((X:Int)-Y-C) % 18446744073709551616),.int .u64 (if(X:Int)<Y+C then 1 else 0)] rfl λi hi=>?_⟩
  ·rw[run_callFunc_extern (e:=TV) Tryz.func233 qqR qqR qqR qqR,Qr X Y C qqO]
   have e1:(((X+18446744073709551616-Y-C) % 18446744073709551616:Nat):Int)=((X:Int)-Y-C) % 18446744073709551616:=qqO;have e2:((if X<Y+C then 1 else 0:Nat):Int)=if(X:Int)<Y+C then 1 else 0:=by split<;>split<;>omega
   rw[e1,e2];rfl
  ·have:i=0∨i=1:=by simp at hi;omega
   rcases this with rfl|rfl<;>exact .int _ _ _
 ·exact hk.elim
theorem TW (l:List Int) (hl:l.length≤1000000000000):aB Tryz.prog 232 [.isl (.ints .u64 l) .none] (.isl (.ints .u64 (trm l)) .none):=by
 have t0:∀k,k<l.length->l.getD k 0=0->trm (l.take (k+1))=trm (l.take k):=λk h h0=>zQ h h0;have t1:∀k,k<l.length->l.getD k 0≠0->trm (l.take (k+1))=l.take (k+1):=λk h h0=>zR h h0;have t2:trm (l.take 0)=l.take 0:=rfl;have t3:trm l=trm (l.take l.length):=by rw[anH]
 rw[t3];generalize trm=T at*
 refine au (md:=1) (rf:=[]) mixed ak aC Tryz.func232 qqR qqR qqR ?_;refine wk1 ?_;conv=>whnf
 refine aR (X:=Nat) (λk=>k≤l.length/\T (l.take l.length)=T (l.take k)) (λk=>[(3,.int .i64 k)]) (λk=>[]) (λk=>k) l.length ⟨aH,mixed,ak,aC,aN⟩ qqR ⟨qqO,rfl⟩ ?_ ?_
 ·exact wk0
  all_goals skip
 intro k ⟨hk,hT⟩;rw[hT];have hk1:((k:Int)-1).toNat=k-1:=qqO;cases k with
 |zero=>
  refine wk1 λhq=>?_;all_goals(refine Sup.of ?_;rw[t2];simp[dJ,CL.sub])
 |succ k=>
  rw[show((k+1:Nat):Int)=(k:Int)+1 by omega]at*
  have e:((k:Int)+1-1).toNat=k:=qqO;refine wk2 (λhq hq=>?_) λhq hq=>?_
  ·rw[e]at hq
   refine⟨k,[],⟨⟨qqO,t0 k qqO hq⟩,qqO⟩,?_⟩;rw[show(k:Int)=(k:Int)+1-1 by omega]
   exact wk0;all_goals skip
  ·rw[e]at hq
   refine Sup.of ?_;rw[t1 k qqO hq];simp[dJ,CL.sub];try omega
def uM:PSp:=λxs K=>match xs with
 | [.isl (.ints .u64 l) .none]=>VC (l.length≤1000000000000)/\K (.isl (.ints .u64 (trm l)) .none)
 |_=>False
theorem rV:POK Tryz.prog 232 uM:=by
 intro xs K h;unfold uM at h;split at h
 ·exact⟨_,h.2,TW _ h.1.get⟩
 ·exact h.elim
abbrev vw (l:List Int):Nat:=vl W l
abbrev Dw (l:List Int):Prop:=Dg W l
theorem dP (x:Nat):vw (dl W x)=x:=uK W2 x
theorem bS (x:Nat):Dw (dl W x):=abq W2 x
def dU (x y:Nat):Int:=if x<y then-1 else if y<x then 1 else 0
theorem XM (x y:Nat) (hx:(dl W x).length≤1000000000000) (hy:(dl W y).length≤1000000000000):aB Tryz.prog 187 [.isl (wd x) .none,.isl (wd y) .none] (.int .i64 (dU x y)):=by
 have g1:=bG W2 x;have g2:=bG W2 y;have c1:(dl W x).length<(dl W y).length->dU x y= -1:=λh=>by have:=yh W2 h;unfold dU;rw[if_pos this]
 have c2:(dl W y).length<(dl W x).length->dU x y=1:=λh=>by have:=yh W2 h;unfold dU;rw[if_neg qqO,if_pos this]
 have c3:∀i,x / W ^ (i+1)=y / W ^ (i+1)->(dl W x).getD i 0<(dl W y).getD i 0->dU x y= -1:=λi h hd=>by
  rw[g1,g2]at hd;have:=Cj W2 h qqO;unfold dU;rw[if_pos this]
 have c4:∀i,x / W ^ (i+1)=y / W ^ (i+1)->(dl W y).getD i 0<(dl W x).getD i 0->dU x y=1:=λi h hd=>by
  rw[g1,g2]at hd;have:=Cj W2 h.symm qqO;unfold dU;rw[if_neg qqO,if_pos this]
 have c5:∀i,x / W ^ (i+1)=y / W ^ (i+1)->(dl W x).getD i 0=(dl W y).getD i 0->x / W ^ i=y / W ^ i:=λi h hd=>by
  rw[g1,g2]at hd;exact cmp_eq h qqO
 have c6:x / W ^ 0=y / W ^ 0->dU x y=0:=λh=>by
  simp at h;unfold dU;rw[if_neg qqO,if_neg qqO]
 have c7:(dl W x).length=(dl W y).length->x / W ^ (dl W x).length=y / W ^ (dl W x).length:=λh=>by
  rw[alR (bU W2 x),alR (by rw[h];exact bU W2 y)]
 unfold wd;generalize(λi=>x / W ^ i)=X at*
 generalize dl W x=l at*
 generalize dl W y=m at*
 generalize dU x y=r at*
 refine au (md:=1) (rf:=[]) mixed ak aC Tryz.func187 qqR qqR qqR ?_;refine wk3 (λhq hq=>?_) (λhq hq=>?_) λhq=>?_;all_goals(try(first|(rw[c1 qqO];exact Sup.of rfl)|(rw[c2 qqO];exact Sup.of rfl)))
 conv=>whnf
 refine aR (X:=Nat) (λk=>k≤l.length/\x / W ^ k=y / W ^ k) (λk=>[(5,.int .i64 ((k:Int)-1))]) (λk=>[]) (λk=>k) l.length ⟨aH,mixed,ak,aC,aN⟩ qqR ⟨qqO,c7 qqO⟩ ?_ ?_
 ·exact wk0
  all_goals skip
 intro k ⟨hk,hT⟩;cases k with
 |zero=>
  rw[c6 hT];refine wk1 λhq=>?_;all_goals exact Sup.of rfl
 |succ k=>
  rw[show((k+1:Nat):Int)-1=(k:Int) by omega]
  refine wk3 (λhq hq hq=>?_) (λhq hq hq=>?_) λhq hq=>?_;all_goals first
   |(rw[c3 k hT qqA];exact Sup.of rfl)
   |(rw[c4 k hT qqO];exact Sup.of rfl)
   |(refine⟨k,[],⟨⟨qqO,c5 k hT qqO⟩,qqO⟩,?_⟩
     repeat'((conv=>whnf);first|intro _|apply aI|exact aD|apply nM|apply fM)
     all_goals((try apply vM);(try simp only[vq]at*);try omega))
   |omega
def Ct:PSp:=λxs K=>match xs with
 | [.isl (.ints .u64 l) .none,.isl (.ints .u64 m) .none]=>VC (Dw l/\Dw m/\l.length≤1000000000000/\m.length≤1000000000000)/\K (.int .i64 (dU (vw l) (vw m)))
 |_=>False
theorem DX:POK Tryz.prog 187 Ct:=by
 intro xs K hk;unfold Ct at hk;split at hk
 ·obtain⟨h1,h2,h3,h4⟩:=hk.1.get
  rename_i l m;obtain⟨x,rfl⟩:=fq h1;obtain⟨y,rfl⟩:=fq h2;refine⟨_,hk.2,?_⟩;rw[dP,dP];exact XM x y h3 h4
 ·exact hk.elim
noncomputable def cpA:CPT:=ay 231 (aJ wT) (ay 232 (nS uM) noC)
theorem Cu:aZ Tryz.prog cpA:=aj (oq zT) (aj (kC rV) aC)
theorem Jf (n x:Nat) (k:Nat) (h:k=n):alL k 0=dm W n 0 x 0:=by rw[h,pF,kL]
theorem fV {α:Type} (l:List α) (k:Nat) (h:k=l.length):(l.drop 0).take (k-0)=l:=by rw[h];simp
theorem ahb (x y i:Nat):((dl W x).getD i 0+(dl W y).getD i 0+(ca W x y i:Nat)) % 18446744073709551616=(((x+y) / W ^ i % W:Nat):Int)/\((dl W x).getD i 0+(dl W y).getD i 0+(ca W x y i:Nat)) / 18446744073709551616=(ca W x y (i+1):Nat):=by
 rw[bG W2,bG W2,<-wP W2,<-rT W2];generalize x / W ^ i % W=a
 generalize y / W ^ i % W=b
 generalize ca W x y i=c
 unfold W;omega
theorem ahc (x y:Nat) (h:(dl W y).length≤(dl W x).length):trm ((dm W ((dl W x).length+1) (dl W x).length (x+y) 0).set (dl W x).length (ca W x y (dl W x).length:Nat))=dl W (x+y):=by
 have h1:=bU W2 x;have h2:y<W ^ (dl W x).length:=alp (bU W2 y) (anL qqD h);have h3:=nT W2 x y (dl W x).length;rw[mI qqO,qy _ _ (alo _),jk W2]
 ·rw[anu]
  unfold W at*;omega
 ·rw[<-Ja h1 h2,alT (by unfold W at*;omega)]
theorem TY (x y:Nat) (hx:(dl W x).length≤900000000000) (hy:(dl W y).length≤900000000000):aB Tryz.prog 186 [.isl (wd x) .none,.isl (wd y) .none] (.isl (wd (x+y)) .none):=by
 by_cases hlt:(dl W x).length<(dl W y).length
 ·rw[an3]
  refine au (md:=1) (rf:=[]) mixed ak Cu Tryz.func186 qqR qqR qqR ?_;refine wk2 (λhq=>?_) λhq=>?_
  ·exact .inl trivial
  conv=>whnf
  refine aR (X:=Nat) (λi=>i≤(dl W y).length) (λi=>[(22,.int .i64 i),(6,.int .u64 (ca W y x i:Nat)),(7,.any),(8,.any)]) (λi=>[(0,.cells (.ints .u64 (dm W ((dl W y).length+1) i (y+x) 0)) false)]) (λi=>(dl W y).length-i) 0 ⟨aH,mixed,ak,Cu,aN⟩ qqR qqO ?_ ?_
  ·refine wk2 ?_ ?_
   ·rw[rR];rfl
   ·exact Jf _ _ _ qqO
  intro i hi;have hc:=nT W2 y x i;have hr1:=bG W2 y i;have hr2:=bG W2 x i;obtain⟨hA,hB⟩:=ahb y x i;have hz:(dl W x).length≤i->(dl W x).getD i 0=0:=λh=>by rw[alC,anA h];rfl
  have hA0:(dl W x).length≤i->((dl W y).getD i 0+0+(ca W y x i:Nat)) % 18446744073709551616=(((y+x) / W ^ i % W:Nat):Int):=λh=>by rw[hz h]at hA;exact hA
  have hB0:(dl W x).length≤i->((dl W y).getD i 0+0+(ca W y x i:Nat)) / 18446744073709551616=(ca W y x (i+1):Nat):=λh=>by rw[hz h]at hB;exact hB
  have hm:=iY W ((dl W y).length+1) i (y+x) 0;by_cases e:i=(dl W y).length
  ·subst e
   repeat'((conv=>whnf);first|(intro hq;(try simp only[vw]at hq);try exact aV hq)|apply aI|exact aD|apply nM|apply fM)
   all_goals((try apply vM);(try simp only[vq]at*);try omega)
   all_goals first
    |(rw[fV _ _ (by rw[alZ,hm];omega),ahc _ _ qqO]
      exact Sup.of rfl)
    |(rw[fV _ _ (by rw[alZ,hm];omega),alZ,hm];omega)
    |(rw[alZ,hm];omega)
    |(rw[hm];omega)
  ·all_goals exact I7
 ·skip
  refine au (md:=1) (rf:=[]) mixed ak Cu Tryz.func186 qqR qqR qqR ?_;refine wk2 (λhq=>?_) λhq=>?_
  ·exact .inl trivial
  conv=>whnf
  refine aR (X:=Nat) (λi=>i≤(dl W x).length) (λi=>[(22,.int .i64 i),(6,.int .u64 (ca W x y i:Nat)),(7,.any),(8,.any)]) (λi=>[(0,.cells (.ints .u64 (dm W ((dl W x).length+1) i (x+y) 0)) false)]) (λi=>(dl W x).length-i) 0 ⟨aH,mixed,ak,Cu,aN⟩ qqR qqO ?_ ?_
  ·refine wk2 ?_ ?_
   ·rw[rR];rfl
   ·exact Jf _ _ _ qqO
  intro i hi;have hc:=nT W2 x y i;have hr1:=bG W2 x i;have hr2:=bG W2 y i;obtain⟨hA,hB⟩:=ahb x y i;have hz:(dl W y).length≤i->(dl W y).getD i 0=0:=λh=>by rw[alC,anA h];rfl
  have hA0:(dl W y).length≤i->((dl W x).getD i 0+0+(ca W x y i:Nat)) % 18446744073709551616=(((x+y) / W ^ i % W:Nat):Int):=λh=>by rw[hz h]at hA;exact hA
  have hB0:(dl W y).length≤i->((dl W x).getD i 0+0+(ca W x y i:Nat)) / 18446744073709551616=(ca W x y (i+1):Nat):=λh=>by rw[hz h]at hB;exact hB
  have hm:=iY W ((dl W x).length+1) i (x+y) 0;by_cases e:i=(dl W x).length
  ·subst e
   repeat'((conv=>whnf);first|(intro hq;(try simp only[vw]at hq);try exact aV hq)|apply aI|exact aD|apply nM|apply fM)
   all_goals((try apply vM);(try simp only[vq]at*);try omega)
   all_goals first
    |(rw[fV _ _ (by rw[alZ,hm];omega),ahc _ _ qqO]
      exact Sup.of rfl)
    |(rw[fV _ _ (by rw[alZ,hm];omega),alZ,hm];omega)
    |(rw[alZ,hm];omega)
    |(rw[hm];omega)
  ·all_goals exact I7
def Qs:PSp:=λxs K=>match xs with
 | [.isl (.ints .u64 l) .none,.isl (.ints .u64 m) .none]=>VC (Dw l/\Dw m/\l.length≤900000000000/\m.length≤900000000000)/\K (.isl (wd (vw l+vw m)) .none)
 |_=>False
theorem adH:POK Tryz.prog 186 Qs:=by
 intro xs K hk;unfold Qs at hk;split at hk
 ·obtain⟨h1,h2,h3,h4⟩:=hk.1.get
  rename_i l m;obtain⟨x,rfl⟩:=fq h1;obtain⟨y,rfl⟩:=fq h2;refine⟨_,hk.2,?_⟩;rw[dP,dP];exact TY x y h3 h4
 ·exact hk.elim
noncomputable def cpS:CPT:=ay 233 (aJ Cr) (ay 232 (nS uM) noC)
theorem T9:aZ Tryz.prog cpS:=aj (oq Je) (aj (kC rV) aC)
theorem ajN {x y:Nat} (h:y≤x) (i:Nat):((dl W x).getD i 0-(dl W y).getD i 0-(bo W x y i:Nat)) % 18446744073709551616=(((x-y) / W ^ i % W:Nat):Int)/\(if(dl W x).getD i 0<(dl W y).getD i 0+(bo W x y i:Nat)then(1:Int)else 0)=(bo W x y (i+1):Nat):=by
 rw[bG W2,bG W2,<-Jb W2 h,yj W2];generalize x / W ^ i % W=a
 generalize y / W ^ i % W=b
 generalize bo W x y i=c
 refine⟨rfl,?_⟩;split<;>split<;>omega
theorem rG (x i:Nat):0≤(dl W x).getD i 0/\(dl W x).getD i 0<18446744073709551616:=by
 rw[bG W2];have:=al8 (x / W ^ i) (by decide:W>0)
 unfold W at*;omega
theorem Ua (x y:Nat) (hx:(dl W x).length≤900000000000) (h:y≤x):aB Tryz.prog 188 [.isl (wd x) .none,.isl (wd y) .none] (.isl (wd (x-y)) .none):=by
 have hyx:(dl W y).length≤(dl W x).length:=fG W2 (an4 h (bU W2 x));have hend:trm (dm W (dl W x).length (dl W x).length (x-y) 0)=dl W (x-y):=by
  rw[qy _ _ (alo _),jk W2];have:=bU W2 x;omega
 refine au (md:=1) (rf:=[]) mixed ak T9 Tryz.func188 qqR qqR qqR ?_;refine wk2 ?_ ?_
 ·exact .inl trivial
 conv=>whnf
 refine aR (X:=Nat) (λi=>i≤(dl W x).length) (λi=>[(14,.int .i64 i),(6,.int .u64 (bo W x y i:Nat)),(7,.any),(8,.any)]) (λi=>[(0,.cells (.ints .u64 (dm W (dl W x).length i (x-y) 0)) false)]) (λi=>(dl W x).length-i) 0 ⟨aH,mixed,ak,T9,aN⟩ qqR qqO ?_ ?_
 ·refine wk2 ?_ ?_
  ·rw[DR];rfl
  ·exact Jf _ _ _ qqO
 intro i hi;have hc:=Ck W x y i;have hr1:=rG x i;have hr2:=rG y i;obtain⟨hA,hB⟩:=ajN h i;have hz:(dl W y).length≤i->(dl W y).getD i 0=0:=λh=>by rw[alC,anA h];rfl
 have hA0:(dl W y).length≤i->((dl W x).getD i 0-0-(bo W x y i:Nat)) % 18446744073709551616=(((x-y) / W ^ i % W:Nat):Int):=λh=>by rw[hz h]at hA;exact hA
 have hB0:(dl W y).length≤i->(if(dl W x).getD i 0<0+(bo W x y i:Nat)then(1:Int)else 0)=(bo W x y (i+1):Nat):=λh=>by rw[hz h]at hB;exact hB
 have hm:=iY W (dl W x).length i (x-y) 0;by_cases e:i=(dl W x).length
 ·subst e
  repeat'((conv=>whnf);first|(intro hq;(try simp only[vw]at hq);try exact aV hq)|apply aI|exact aD|apply nM|apply fM)
  all_goals((try apply vM);(try simp only[vq]at*);try omega)
  all_goals first
   |(rw[fV _ _ qqO,hend]
     exact Sup.of rfl)
   |(rw[fV _ _ qqO,hm];omega)
   |(rw[hm];omega)
 ·repeat'((conv=>whnf);first|(intro hq;(try simp only[vw]at hq);try exact aV hq)|apply aI|exact aD|apply nM|apply fM)
  all_goals((try apply vM);(try simp only[vq]at*);try omega)
  all_goals first
   |(rw[hm];omega)
   |(refine⟨qqO,qqO,qqO,qqO,qqO,qqO⟩)
   |(first|rw[hA,hB]|rw[hA0 qqO,hB0 qqO]
     rw[mI qqO rfl];refine⟨i+1,[],⟨qqO,qqO⟩,?_⟩;rw[show((i+1:Nat):Int)=(i:Int)+1 by omega]
     all_goals exact iG)
def Qt:PSp:=λxs K=>match xs with
 | [.isl (.ints .u64 l) .none,.isl (.ints .u64 m) .none]=>VC (Dw l/\Dw m/\l.length≤900000000000/\vw m≤vw l)/\K (.isl (wd (vw l-vw m)) .none)
 |_=>False
theorem adI:POK Tryz.prog 188 Qt:=by
 intro xs K hk;unfold Qt at hk;split at hk
 ·obtain⟨h1,h2,h3,h4⟩:=hk.1.get
  rename_i l m;obtain⟨x,rfl⟩:=fq h1;obtain⟨y,rfl⟩:=fq h2;refine⟨_,hk.2,?_⟩;rw[dP,dP]at*;exact Ua x y h3 h4
 ·exact hk.elim
theorem dI (n:Nat) (h:n<18446744073709551616):IntKind.u64.wrap (n:Int)=n:=by
 simp only[IntKind.wrap,IntKind.bits,IntKind.signed];simp;omega
theorem yt (n:Nat):IntKind.u64.wrap (n:Int)=((n % 18446744073709551616:Nat):Int):=by
 simp only[IntKind.wrap,IntKind.bits,IntKind.signed];simp
theorem nU (m i:Nat) (h:m<18446744073709551616):(alK IntKind.u64.bits (m:Int)).getLsbD i=(decide (i<64)&&m.testBit i):=by
 show(alK 64 (m:Int)).getLsbD i=_;rw[BitVec.ofInt_natCast,BitVec.getLsbD_ofNat]
theorem adJ {m n k:Nat} (hm:m<18446744073709551616) (hn:n<18446744073709551616) (h:∀i,i<64->k.testBit i=(m.testBit i&&n.testBit i)) (hk:k<18446744073709551616):
 IntKind.u64.wrap ((alK IntKind.u64.bits (m:Int)&&& alK IntKind.u64.bits (n:Int)).toNat:Int)=k:=by
 have e:(alK IntKind.u64.bits (m:Int)&&& alK IntKind.u64.bits (n:Int)).toNat=k:=by
  apply an5;intro i;rw[an6,BitVec.getLsbD_and,nU m i hm,nU n i hn];by_cases hi:i<64
  ·rw[h i hi];simp[hi]
  ·rw[an7 (x:=k) (i:=i) (by have:=anL (n:=2) qqO (show 64≤i by omega);omega)];simp[hi]
 rw[e,dI _ hk]
theorem Jg {m n k:Nat} (hm:m<18446744073709551616) (hn:n<18446744073709551616) (h:∀i,i<64->k.testBit i=(m.testBit i||n.testBit i)) (hk:k<18446744073709551616):
 IntKind.u64.wrap ((alK IntKind.u64.bits (m:Int)|||alK IntKind.u64.bits (n:Int)).toNat:Int)=k:=by
 have e:(alK IntKind.u64.bits (m:Int)|||alK IntKind.u64.bits (n:Int)).toNat=k:=by
  apply an5;intro i;rw[an6,BitVec.getLsbD_or,nU m i hm,nU n i hn];by_cases hi:i<64
  ·rw[h i hi];simp[hi]
  ·rw[an7 (x:=k) (i:=i) (by have:=anL (n:=2) qqO (show 64≤i by omega);omega)];simp[hi]
 rw[e,dI _ hk]
theorem rX (n:Nat) (h:n<18446744073709551616):IntKind.u64.wrap ((alK IntKind.u64.bits (n:Int)&&& alK IntKind.u64.bits 4294967295).toNat:Int)=((n % 4294967296:Nat):Int):=by
 refine adJ (n:=4294967295) h qqO (λi hi=>?_) qqO;rw[show(4294967296:Nat)=2 ^ 32 from rfl,Nat.testBit_mod_two_pow,show(4294967295:Nat)=2 ^ 32-1 from rfl,Nat.testBit_two_pow_sub_one,Bool.and_comm]
theorem Jh (a:Int):0≤IntKind.u64.wrap a:=by
 simp only[IntKind.wrap,IntKind.bits,IntKind.signed];simp;omega
theorem p32:(2:Int) ^ an8 32=((4294967296:Nat):Int):=qqD
theorem Qu (x y:Nat) (hx:x<18446744073709551616) (hy:y<18446744073709551616):aB Tryz.prog 189 [.int .u64 x,.int .u64 y] (.tup [.int .u64 ((x*y / 18446744073709551616:Nat):Int),.int .u64 ((x*y % 18446744073709551616:Nat):Int)]):=by
 have d32:an8 32≤IntKind.u64.bits:=qqD;obtain⟨bd,bt,bw,hhi⟩:=Lib.mul64_hi x y hx hy;have ba:=Lib.half_mul_le (a:=x / 4294967296) (b:=y / 4294967296) qqO qqO;have bb:=Lib.half_mul_le (a:=x / 4294967296) (b:=y % 4294967296) qqO qqO;have bc:=Lib.half_mul_le (a:=x % 4294967296) (b:=y / 4294967296) qqO qqO;have e1:=rX x hx;have e2:=rX y hy;have e3:(x:Int) / 2 ^ an8 32=((x / 4294967296:Nat):Int):=by rw[p32];omega
 have e4:(y:Int) / 2 ^ an8 32=((y / 4294967296:Nat):Int):=by rw[p32];omega
 have dv:∀a:Nat,(a:Int) / 2 ^ an8 32=((a / 4294967296:Nat):Int):=λa=>by rw[p32];omega
 have ml:∀a b:Nat,(a:Int)*(b:Int)=((a*b:Nat):Int):=λa b=>(an9 a b).symm;have ad:∀a b:Nat,(a:Int)+(b:Int)=((a+b:Nat):Int):=λa b=>(aoa a b).symm;have ba':x / 4294967296*(y / 4294967296)<18446744073709551616:=qqO;have bb':x / 4294967296*(y % 4294967296)<18446744073709551616:=qqO;have bc':x % 4294967296*(y / 4294967296)<18446744073709551616:=qqO;have bh1:x / 4294967296*(y / 4294967296)+(x / 4294967296*(y % 4294967296)+x % 4294967296*(y % 4294967296) / 4294967296) / 4294967296<18446744073709551616:=qqO;have bq:x*y / 18446744073709551616<18446744073709551616:=by rw[<-hhi];omega
 have bh:x / 4294967296*(y / 4294967296)+(x / 4294967296*(y % 4294967296)+x % 4294967296*(y % 4294967296) / 4294967296) / 4294967296+((x / 4294967296*(y % 4294967296)+x % 4294967296*(y % 4294967296) / 4294967296) % 4294967296+x % 4294967296*(y / 4294967296)) / 4294967296<18446744073709551616:=qqO;refine au (md:=2) (rf:=[]) mixed ak aC Tryz.func189 qqR qqR qqR ?_;refine wk4 ?_ ?_ ?_ ?_;all_goals first
  |exact Jh _
  |(simp only[e1,e2,dv,ml,ad,dI _ bd,dI _ bb',dI _ bt,rX _ bt,dI _ bc',dI _ bw,dI _ ba',dI _ bh1,dI _ bh,yt (x*y),hhi,dI _ bq]
    exact Sup.of rfl)
def rY:PSp:=λxs K=>match xs with
 | [.int .u64 x,.int .u64 y]=>VC (0≤x/\x<18446744073709551616/\0≤y/\y<18446744073709551616)/\K (.tup [.int .u64 (x*y / 18446744073709551616),.int .u64 (x*y % 18446744073709551616)])
 |_=>False
theorem uN:POK Tryz.prog 189 rY:=by
 intro xs K hk;unfold rY at hk;split at hk
 ·obtain⟨h1,h2,h3,h4⟩:=hk.1.get
  rename_i x y;obtain⟨X,rfl⟩:=an2 h1;obtain⟨Y,rfl⟩:=an2 h3;refine⟨_,hk.2,?_⟩;have:=Qu X Y qqO qqO;have e1:((X*Y / 18446744073709551616:Nat):Int)=(X:Int)*Y / 18446744073709551616:=by rw[<-an9];omega
  have e2:((X*Y % 18446744073709551616:Nat):Int)=(X:Int)*Y % 18446744073709551616:=by rw[<-an9];omega
  rw[e1,e2]at this;exact this
 ·exact hk.elim
noncomputable def cpM:CPT:=ay 189 (aJ rY) (ay 231 (aJ wT) (ay 232 (nS uM) noC))
theorem Ji:aZ Tryz.prog cpM:=aj (aA uN) (aj (oq zT) (aj (kC rV) aC))
theorem adK {n x y i j:Nat} (h:i+j<n) {d:Int} (hd:d=((tj W x y i (j+1) / W ^ (i+j) % W:Nat):Int)):(dm W n (i+j) (tj W x y i j) (x % W ^ i*y)).set (i+j) d=dm W n (i+(j+1)) (tj W x y i (j+1)) (x % W ^ i*y):=by
 rw[uJ (x':=tj W x y i (j+1)) (z':=x % W ^ i*y) (λk hk _=>(TS W2 x y i j k hk).symm) (λ_ _ _=>rfl),mI h hd];rfl
theorem MU (n i x:Nat):dm W n i x x=dn W n x:=by
 unfold dm dn;refine anC λk hk=>?_;split<;>rfl
theorem ahd {n x y i m:Nat} (hy:y<W ^ m) (h:i+m<n):(dm W n (i+m) (tj W x y i m) (x % W ^ i*y)).set (i+m) (cm W x y i m:Nat)=dn W n (x % W ^ (i+1)*y):=by
 have hl:=Cm W2 x y i m;have e:=MN W2 x i hy;have o1:=rU W2 x i hy;have hT:x % W ^ (i+1)*y<W ^ (i+m+1):=by
  have:=rU W2 x (i+1) hy;rw[show i+1+m=i+m+1 by omega]at this
  exact(aob (pw W2 _)).1 this
 have hd:((cm W x y i m:Nat):Int)=((x % W ^ (i+1)*y / W ^ (i+m) % W:Nat):Int):=by
  rw[e]at hl⊢;rw[alT hl]
 rw[Jc x i hy,mI h hd];rw[<-MU n (i+m+1)];refine uJ (λ_ _ _=>rfl) λk hk _=>?_;have g1:x % W ^ i*y<W ^ (i+m):=(aob (pw W2 _)).1 o1;have g2:W ^ (i+m)≤W ^ k:=anL qqD qqO;have g3:W ^ (i+m+1)≤W ^ k:=anL qqD hk;rw[alR qqO,alR qqO]
theorem ajO (x y i j n:Nat) (h:i+j<n):∃P O:Int,(dl W x).getD i 0*(dl W y).getD j 0=P/\(dm W n (i+j) (tj W x y i j) (x % W ^ i*y)).getD (i+j) 0=O/\0≤P/\P≤340282366920938463426481119284349108225/\0≤O/\O<18446744073709551616/\
 P / 18446744073709551616+(P % 18446744073709551616+O+0) / 18446744073709551616+((P % 18446744073709551616+O+0) % 18446744073709551616+(cm W x y i j:Nat)+0) / 18446744073709551616=(cm W x y i (j+1):Nat)/\
 ((P % 18446744073709551616+O+0) % 18446744073709551616+(cm W x y i j:Nat)+0) % 18446744073709551616=((tj W x y i (j+1) / W ^ (i+j) % W:Nat):Int):=by
 refine⟨((x / W ^ i % W*(y / W ^ j % W):Nat):Int),((x % W ^ i*y / W ^ (i+j) % W:Nat):Int),?_,?_,?_⟩
 ·rw[bG W2,bG W2,an9]
 ·rw[lS _ _ _ _ _ _ h,if_neg qqO]
 ·rw[<-DV W2,<-TR W2]
  have h1:=al8 (x / W ^ i) (by decide:W>0)
  have h2:=al8 (y / W ^ j) (by decide:W>0)
  have h3:=al8 (x % W ^ i*y / W ^ (i+j)) (by decide:W>0)
  have h4:=amy (show x / W ^ i % W≤18446744073709551615 by unfold W at*;omega) (show y / W ^ j % W≤18446744073709551615 by unfold W at*;omega)
  generalize x / W ^ i % W*(y / W ^ j % W)=a at*
  generalize x % W ^ i*y / W ^ (i+j) % W=b at*
  generalize cm W x y i j=c at*
  unfold W at*;refine⟨qqO,qqO,qqO,qqO,qqO,qqO⟩
theorem Ub (x y:Nat) (hx:(dl W x).length≤400000000000) (hy:(dl W y).length≤400000000000):aB Tryz.prog 191 [.isl (wd x) .none,.isl (wd y) .none] (.isl (wd (x*y)) .none):=by
 have hly:=bU W2 y;have hend:trm (dn W ((dl W x).length+(dl W y).length) (x % W ^ (dl W x).length*y))=dl W (x*y):=by
  rw[alT (bU W2 x),jk W2];rw[anI];exact aoc (bU W2 x) hly
 refine au (md:=1) (rf:=[]) mixed ak Ji Tryz.func191 qqR qqR qqR ?_;refine wk2 ?_ ?_
 ·exact .inl trivial
 conv=>whnf
 refine aR (X:=Nat) (λi=>i≤(dl W x).length) (λi=>[(22,.int .i64 i)]) (λi=>[(0,.cells (.ints .u64 (dn W ((dl W x).length+(dl W y).length) (x % W ^ i*y))) false)]) (λi=>(dl W x).length-i) 0 ⟨aH,mixed,ak,Ji,aN⟩ qqR qqO ?_ ?_
 ·refine wk1 ?_
  rw[show x % W ^ 0*y=0 by rw[aod,amc,amo],kL,show(((dl W x).length:Int)+((dl W y).length:Int)).toNat=(dl W x).length+(dl W y).length by omega]
 intro i hi;have hm0:=dw W ((dl W x).length+(dl W y).length) (x % W ^ i*y);by_cases e:i=(dl W x).length
 ·subst e
  refine wk2 (λhq=>?_) λhq=>?_
  ·rw[fV _ _ qqO];omega
  ·rw[fV _ _ qqO,hend]
   exact Sup.of rfl
 ·have hr1:=rG x i
  refine wk1 λhq=>?_;conv=>whnf
  refine aR (X:=Nat) (λj=>j≤(dl W y).length) (λj=>[(29,.int .i64 j),(8,.int .u64 (cm W x y i j:Nat))]) (λj=>[(0,.cells (.ints .u64 (dm W ((dl W x).length+(dl W y).length) (i+j) (tj W x y i j) (x % W ^ i*y))) false)]) (λj=>(dl W y).length-j) 0 ⟨aH,mixed,ak,Ji,aN⟩ qqR qqO ?_ ?_
  ·refine wk2 ?_ ?_
   ·rw[DU];rfl
   ·rw[DT,MU]
  intro j hj;have hm:=iY W ((dl W x).length+(dl W y).length) (i+j) (tj W x y i j) (x % W ^ i*y);have hc:cm W x y i j<18446744073709551616:=Cm W2 x y i j;have hij:((i:Int)+(j:Int)).toNat=i+j:=qqO;by_cases e:j=(dl W y).length
  ·subst e
   refine wk1 λhq=>?_;rw[hij,ahd hly qqO];refine⟨i+1,[],⟨qqO,qqO⟩,?_⟩;rw[show((i+1:Nat):Int)=(i:Int)+1 by omega]
   exact wk0;all_goals skip
  ·have hr2:=rG y j
   obtain⟨P,O,eP,eO,p0,p1,o0,o1,E1,E2⟩:=ajO x y i j ((dl W x).length+(dl W y).length) qqO;refine wk6 (λhq=>?_) (λhq=>?_) (λhq=>?_) (λhq=>?_) (λhq=>?_) λhq=>?_;all_goals(try rw[hij])
   all_goals(try rw[eP,eO])
   all_goals(try omega)
   all_goals first
    |(rw[E2,adK qqO rfl,E1]
      refine⟨j+1,[],⟨qqO,qqO⟩,?_⟩;rw[show((j+1:Nat):Int)=(j:Int)+1 by omega]
      exact wk0;all_goals skip)
    |skip
def Qv:PSp:=λxs K=>match xs with
 | [.isl (.ints .u64 l) .none,.isl (.ints .u64 m) .none]=>VC (Dw l/\Dw m/\l.length≤400000000000/\m.length≤400000000000)/\K (.isl (wd (vw l*vw m)) .none)
 |_=>False
theorem adL:POK Tryz.prog 191 Qv:=by
 intro xs K hk;unfold Qv at hk;split at hk
 ·obtain⟨h1,h2,h3,h4⟩:=hk.1.get
  rename_i l m;obtain⟨x,rfl⟩:=fq h1;obtain⟨y,rfl⟩:=fq h2;refine⟨_,hk.2,?_⟩;rw[dP,dP];exact Ub x y h3 h4
 ·exact hk.elim
theorem Uc (n:Int) (h: -9223372036854775808≤n/\n≤9223372036854775807):aB Tryz.prog 190 [.int .i64 n] (.int .u64 (n.natAbs:Nat)):=by
 refine au (md:=2) (rf:=[]) mixed ak aC Tryz.func190 qqR qqR qqR ?_;refine wk2 (λhq=>?_) λhq=>?_;all_goals(refine Sup.of (congrArg (PV.int .u64) ?_);simp only[IntKind.wrap,IntKind.bits,IntKind.signed];simp;omega)
def Gv:PSp:=λxs K=>match xs with
 | [.int .i64 n]=>VC (-9223372036854775808≤n/\n≤9223372036854775807)/\K (.int .u64 (n.natAbs:Nat))
 |_=>False
theorem MV:POK Tryz.prog 190 Gv:=by
 intro xs K h;unfold Gv at h;split at h
 ·exact⟨_,h.2,Uc _ h.1.get⟩
 ·exact h.elim
def smI (n:Int):Prop:= -9223372036854775808≤n/\n≤9223372036854775807
instance (n:Int):Decidable (smI n):=by unfold smI;infer_instance
def ivl (s:Int) (w:List Int):Int:=match w with| []=>s|_=>if s<0 then-(vw w:Int)else(vw w:Int)
theorem dh {P:Program} {g:FuncId} {xs ys:List PV} {u:PV} (h:∀(S:Imm) (w:World) (vs:Array Value),bH S w noI xs vs->bH S w noI ys vs) (hp:aB P g ys u):aB P g xs u:=
 ⟨hp.1,λS w vs hg hi hA=>hp.2 S w vs hg hi (h S w vs hA)⟩
theorem adM {S:Imm} {w:World} {ι:Ix} {c:CL} {v:Value} (h:Rep S w ι (.nnl c) v):(c.cnt=0->Rep S w ι .nils v)/\(c.cnt≠0->Rep S w ι (.isl c .none) v):=by
 cases h with
 |nnl0 _ _ h=>exact⟨λ_=>.nils _,λh'=>absurd h h'⟩
 |nnl1 _ _ b off cap h0 hc hs h=>exact⟨λh'=>absurd h' qqO,λ_=>.isl _ _ _ b off cap hc hs h (λh=>by cases h) (λk h=>by cases h)⟩
noncomputable def ajP:CPT:=ay 190 (aJ Gv) noC
theorem DY:aZ Tryz.prog ajP:=aj (aA MV) aC
theorem DZ {S:Imm} {w:World} {p q:PV} (h:∀v,Rep S w noI p v->Rep S w noI q v) {vs:Array Value} (hA:bH S w noI [p] vs):bH S w noI [q] vs:=
 ⟨hA.1,λi hi=>by
  have:i=0:=by simp at hi;omega
  subst this;exact h _ (hA.2 0 qqS)⟩
theorem XO (n:Int) (h:smI n):aB Tryz.prog 184 [.agg [.int .i64 n,.nils]] (.tup [.bp (decide (n<0)),.isl (wd n.natAbs) .none]):=by
 unfold smI at h;by_cases h0:n=0
 ·subst h0
  refine au (md:=1) (rf:=[]) mixed ak DY Tryz.func184 qqR qqR qqR ?_;refine wk1 λhq=>?_;refine Sup.via ?_;exact wk0;all_goals trace_state
 ·
  refine au (md:=1) (rf:=[]) mixed ak DY Tryz.func184 qqR qqR qqR ?_;refine wk1 λhq=>?_;have e:wd n.natAbs=.ints .u64 [(n.natAbs:Int)]:=by
   unfold wd;rw[jQ W2 (x:=n.natAbs) qqO (show n.natAbs<W by unfold W;omega)]
  rw[e];refine Sup.via ?_;exact wk0;all_goals trace_state
theorem Ud (s:Int) (x:Nat) (h:x≠0):aB Tryz.prog 184 [.agg [.int .i64 s,.isl (wd x) .none]] (.tup [.bp (decide (s<0)),.isl (wd x) .none]):=by
 have:0<(dl W x).length:=al5 λh'=>h ((fD W2).1 (amT.1 h'));refine au (md:=1) (rf:=[]) mixed ak DY Tryz.func184 qqR qqR qqR ?_;refine wk1 λhq=>?_;exact Sup.of rfl
structure NI where
 s:Int
 w:List Int
abbrev niV (a:NI):PV:=.agg [.int .i64 a.s,.nnl (.ints .u64 a.w)]
def NI.val (a:NI):Int:=ivl a.s a.w
def NI.OK (a:NI):Prop:=(a.w=[]/\smI a.s)∨∃x,a.w=dl W x/\9223372036854775808≤x/\(a.s=1∨a.s= -1)
theorem NI.val_sm {s:Int}:NI.val ⟨s,[]⟩=s:=rfl
theorem NI.val_big {s:Int} {x:Nat} (hx:x≠0):NI.val ⟨s,dl W x⟩=if s<0 then-(x:Int)else x:=by
 have hv:=dP x;cases e:dl W x with
 |nil=>exact absurd ((fD W2).1 e) hx
 |cons d l=>
  rw[e]at hv;unfold NI.val ivl;simp only[hv]
theorem NI.neg_iff {a:NI} (h:a.OK):a.s<0↔a.val<0:=by
 obtain⟨s,w⟩:=a;rcases h with⟨h1,h2⟩|⟨x,h1,h2,h3⟩
 ·simp only at h1;subst h1;exact Iff.rfl
 ·simp only at h1 h3;subst h1
  rw[NI.val_big qqO];simp only;split<;>omega
def mdN (neg:Bool) (x:Nat):NI:=if x<9223372036854775808 then⟨if neg then-x else x,[]⟩else⟨if neg then-1 else 1,dl W x⟩
theorem adN (neg:Bool) (x:Nat):(mdN neg x).val=if neg then-(x:Int)else x:=by
 unfold mdN;split
 ·rw[NI.val_sm]
 ·rw[NI.val_big qqO]
  cases neg<;>simp
theorem Cv (neg:Bool) (x:Nat):(mdN neg x).OK:=by
 unfold mdN NI.OK smI;split
 ·left;cases neg<;>simp<;>omega
 ·right;exact⟨x,rfl,qqO,by cases neg<;>simp⟩
theorem qz {S:Imm} {w:World} {ι:Ix} {a:NI} {v:Value} (h:Rep S w ι (niV a) v):(a.w=[]->Rep S w ι (.agg [.int .i64 a.s,.nils]) v)/\(a.w≠[]->Rep S w ι (.agg [.int .i64 a.s,.isl (.ints .u64 a.w) .none]) v):=by
 cases h with
 |agg _ _ vs hl h=>
  have h0:=h 0 qqS;have h1:=adM (h 1 qqS);constructor
  ·intro hs
   refine .agg _ _ vs hl λi hi=>?_;have:i=0∨i=1:=by simp at hi;omega
   rcases this with rfl|rfl
   ·exact h0
   ·exact h1.1 (by rw[hs];rfl)
  ·intro hs
   refine .agg _ _ vs hl λi hi=>?_;have:i=0∨i=1:=by simp at hi;omega
   rcases this with rfl|rfl
   ·exact h0
   ·exact h1.2 (by simp only[CL.cnt];exact λh=>hs (amT.1 h))
theorem XP (a:NI) (h:a.OK):aB Tryz.prog 184 [niV a] (.tup [.bp (decide (a.s<0)),.isl (wd a.val.natAbs) .none]):=by
 obtain⟨s,w⟩:=a;rcases h with⟨h1,h2⟩|⟨x,h1,h2,h3⟩
 ·simp only at h1;subst h1
  exact dh (λS w vs hA=>DZ (λv hv=>(qz hv).1 rfl) hA) (XO s h2)
 ·simp only at h1;subst h1
  have e:(NI.val ⟨s,dl W x⟩).natAbs=x:=by
   rw[NI.val_big qqO];split<;>omega
  rw[e];exact dh (λS w vs hA=>DZ (λv hv=>(qz hv).2 (λh0=>by have:=(fD W2).1 h0;omega)) hA) (Ud s x qqO)
theorem Fy (neg:Bool) (x:Nat) (hl:(dl W x).length≤1000000000000):aB Tryz.prog 185 [.bp neg,.isl (wd x) .none] (niV (mdN neg x)):=by
 by_cases h0:x=0
 ·subst h0
  refine au (md:=1) (rf:=[]) mixed ak aC Tryz.func185 qqR qqR qqR ?_;refine wk1 λhq=>?_;all_goals
   have em:mdN neg 0=⟨0,[]⟩:=by unfold mdN;rw[if_pos qqO];cases neg<;>rfl
   rw[em];refine Sup.via ?_;exact wk0
 by_cases h1:x<18446744073709551616
 ·have e:wd x=.ints .u64 [(x:Int)]:=by
   unfold wd;rw[jQ W2 h0 h1]
  have ew:dl W x=[(x:Int)]:=jQ W2 h0 h1;rw[e];refine au (md:=1) (rf:=[]) mixed ak aC Tryz.func185 qqR qqR qqR ?_;refine wk7 (λhq hq hq hq=>?_) (λhq hq hq hq=>?_) (λhq hq hq hq=>?_) (λhq hq hq hq hq hq=>?_) (λhq hq hq hq hq hq=>?_) (λhq hq hq hq hq hq=>?_) λhq hq hq hq hq hq=>?_;all_goals(rw[show([(x:Int)].getD (an8 0) 0)=(x:Int)from rfl]at*)
  all_goals(try omega)
  all_goals(cases neg)
  all_goals(try(exfalso;simp_all;done))
  all_goals
   by_cases hs:x<9223372036854775808
  all_goals(try(exfalso;omega))
  all_goals(unfold mdN;first|rw[if_pos hs]|rw[if_neg hs,ew])
  all_goals(refine Sup.via ?_;repeat'((conv=>whnf);first|intro _|apply aI|exact aD|apply nM|apply fM);all_goals((try apply vM);(try simp only[vq]at*);try omega))
  all_goals(try simp)
 ·have hlen:=lQ W2 (x:=x) (k:=1) (by unfold W;omega)
  refine au (md:=1) (rf:=[]) mixed ak aC Tryz.func185 qqR qqR qqR ?_;refine wk2 (λhq hq hq hq=>?_) λhq hq hq hq=>?_;all_goals(cases neg)
  all_goals(try(exfalso;simp_all;done))
  all_goals(unfold mdN;rw[if_neg qqO])
  all_goals(refine Sup.via ?_;repeat'((conv=>whnf);first|intro _|apply aI|exact aD|apply nM|apply fM);all_goals((try apply vM);(try simp only[vq]at*);try omega))
  all_goals(try simp)
def yu:PSp:=λxs K=>match xs with
 | [.bp neg,.isl (.ints .u64 l) .none]=>VC (Dw l/\l.length≤1000000000000)/\K (niV (mdN neg (vw l)))
 | [.bool neg,.isl (.ints .u64 l) .none]=>VC (Dw l/\l.length≤1000000000000)/\K (niV (mdN neg (vw l)))
 |_=>False
theorem yw:POK Tryz.prog 185 yu:=by
 intro xs K hk;unfold yu at hk;split at hk
 ·obtain⟨h1,h2⟩:=hk.1.get
  rename_i neg l;obtain⟨x,rfl⟩:=fq h1;refine⟨_,hk.2,?_⟩;rw[dP];exact Fy neg x h2
 ·obtain⟨h1,h2⟩:=hk.1.get
  rename_i neg l;obtain⟨x,rfl⟩:=fq h1;refine⟨_,hk.2,?_⟩;rw[dP];exact dh (ys:=[.bp neg,.isl (wd x) .none]) (λS w vs hA=>⟨hA.1,λi hi=>by
   have:i=0∨i=1:=by simp at hi;omega
   rcases this with rfl|rfl
   ·have:=hA.2 0 qqS
    generalize vs.getD 0 undef=v at this⊢
    simp only[aG]at this⊢;cases this
    exact .bp _ _
   ·exact hA.2 1 qqS⟩) (Fy neg x h2)
 ·exact hk.elim
def nrm (v:Int):NI:=mdN (decide (v<0)) v.natAbs
theorem bg (v:Int):(nrm v).val=v:=by
 unfold nrm;rw[adN];by_cases h:v<0
 ·rw[decide_eq_true h,if_pos rfl];omega
 ·rw[decide_eq_false h,if_neg qqS];omega
theorem bQ (v:Int):(nrm v).OK:=Cv _ _
theorem Jj (b:Bool):mdN b 0=⟨0,[]⟩:=by unfold mdN;rw[if_pos qqO];cases b<;>rfl
theorem nE {b:Bool} {x:Nat} {v:Int} (h:v=if b then-(x:Int)else x):mdN b x=nrm v:=by
 unfold nrm;by_cases h0:x=0
 ·subst h0
  have:v=0:=by cases b<;>simpa using h
  subst this;rw[Jj,Int.natAbs_zero,Jj]
 ·cases b
  ·rw[if_neg qqS]at h
   rw[decide_eq_false qqO,show v.natAbs=x by omega]
  ·rw[if_pos rfl]at h
   rw[decide_eq_true qqO,show v.natAbs=x by omega]
theorem iZ {v:Int} (h: -9223372036854775808<v/\v≤9223372036854775807):nrm v=⟨v,[]⟩:=by
 unfold nrm mdN;rw[if_pos qqO];by_cases h0:v<0
 ·rw[decide_eq_true h0,if_pos rfl];congr 1;omega
 ·rw[decide_eq_false h0,if_neg qqS];congr 1;omega
theorem Jk {a:NI} (h:a.OK) (hv:a.val≠ -9223372036854775808):a=nrm a.val:=by
 obtain⟨s,w⟩:=a;rcases h with⟨h1,h2⟩|⟨x,h1,h2,h3⟩
 ·simp only at h1;subst h1
  rw[NI.val_sm]at hv⊢;unfold smI at h2;simp only at h2;rw[iZ qqO]
 ·simp only at h1 h3;subst h1
  rw[NI.val_big qqO]at hv⊢;unfold nrm mdN;rcases h3 with rfl|rfl
  ·have e:(if(1:Int)<0 then-(x:Int)else(x:Int))=x:=if_neg qqO
   rw[e]at hv⊢;rw[if_neg qqO,decide_eq_false qqO,if_neg qqS,show(aoe (x:Int))=x by omega]
  ·have e:(if(-1:Int)<0 then-(x:Int)else(x:Int))= -x:=if_pos qqO
   rw[e]at hv⊢;rw[if_neg qqO,decide_eq_true qqO,if_pos rfl,show(aoe (-(x:Int)))=x by omega]
def Lw (x:Nat):Nat:=(dl W x).length
def NI.L (a:NI):Nat:=Lw a.val.natAbs
theorem qV {x k:Nat} (h:x<W ^ k):Lw x≤k:=fG W2 h
theorem qW (x:Nat):x<W ^ Lw x:=bU W2 x
theorem fK {x y:Nat} (h:x≤y):Lw x≤Lw y:=qV (an4 h (qW y))
theorem ou (x y:Nat):Lw (x*y)≤Lw x+Lw y:=qV (by rw[anI];exact aoc (qW x) (qW y))
theorem Ue (x y:Nat):Lw (x+y)≤max (Lw x) (Lw y)+1:=by
 refine qV ?_;have h1:x<W ^ max (Lw x) (Lw y):=alp (qW x) (anL qqD qqO);have h2:y<W ^ max (Lw x) (Lw y):=alp (qW y) (anL qqD qqO);rw[anu];unfold W at*;omega
theorem ow {x:Nat} (h:x<18446744073709551616):Lw x≤1:=qV (by rw[aof];exact h)
def ni1 (p:PV) (K:NI->Prop):Prop:=match p with
 |.agg [.int .i64 s,.nnl (.ints .u64 l)]=>K ⟨s,l⟩
 |.agg [.int .i64 s,.nils]=>K ⟨s,[]⟩
 |.agg [.int .i64 s,.isl (.ints .u64 l) .none]=>VC (l≠[])/\K ⟨s,l⟩
 |_=>False
theorem ahe {S:Imm} {w:World} {ι:Ix} {p q r t:PV} {v:Value} (h1:∀v,Rep S w ι p v->Rep S w ι r v) (h2:∀v,Rep S w ι q v->Rep S w ι t v) (h:Rep S w ι (.agg [p,q]) v):Rep S w ι (.agg [r,t]) v:=by
 cases h with
 |agg _ _ vs hl h=>
  refine .agg _ _ vs hl λi hi=>?_;have:i=0∨i=1:=by simp at hi;omega
  rcases this with rfl|rfl
  ·exact h1 _ (h 0 qqS)
  ·exact h2 _ (h 1 qqS)
theorem D6 {p:PV} {K:NI->Prop} (h:ni1 p K):∃a,K a/\∀(S:Imm) (w:World) (v:Value),Rep S w noI p v->Rep S w noI (niV a) v:=by
 unfold ni1 at h;split at h
 ·exact⟨_,h,λ_ _ _ h=>h⟩
 ·exact⟨_,h,λ_ _ _ h=>ahe (λ_ h=>h) (λ_ h=>by cases h;exact .nnl0 _ _ rfl) h⟩
 ·rename_i s l
  refine⟨_,h.2,λS w v hr=>ahe (λ_ h=>h) (λv hv=>?_) hr⟩;have hne:=h.1.get;have h0:0<l.length:=al5 λh'=>hne (amT.1 h');cases hv with
  |islnil _ _ _ h=>exact absurd h (Nat.ne_of_gt h0)
  |isl _ _ _ b off cap hc hs hh hf ho=>exact .nnl1 _ _ b off cap h0 hc hs hh
 ·exact h.elim
theorem Jl {g:FuncId} {a:NI} {u:PV} (h:a.OK) (h1:a.w=[]->smI a.s->aB Tryz.prog g [.agg [.int .i64 a.s,.nils]] u)
 (h2:∀x,a.w=dl W x->9223372036854775808≤x->(a.s=1∨a.s= -1)->a.val=(if a.s<0 then-(x:Int)else x)->aB Tryz.prog g [.agg [.int .i64 a.s,.isl (wd x) .none]] u):aB Tryz.prog g [niV a] u:=by
 rcases h with⟨g1,g2⟩|⟨x,g1,g2,g3⟩
 ·exact dh (λS w vs hA=>DZ (λv hv=>(qz hv).1 g1) hA) (h1 g1 g2)
 ·have hv:a.val=(if a.s<0 then-(x:Int)else x):=by
   obtain⟨s,w⟩:=a;simp only at g1;subst g1;exact NI.val_big qqO
  refine dh (λS w vs hA=>DZ (λv hv=>?_) hA) (h2 x g1 g2 g3 hv);have:=(qz hv).2 (λh0=>by rw[g1]at h0;have:=(fD W2).1 h0;omega)
  rw[g1]at this;exact this
theorem MW {g:FuncId} {p q u:PV} (h:∀(S:Imm) (w:World) (v:Value),Rep S w noI p v->Rep S w noI q v) (hp:aB Tryz.prog g [q] u):aB Tryz.prog g [p] u:=
 dh (λS w vs hA=>DZ (λv hv=>h S w v hv) hA) hp
theorem D7 {g:FuncId} {p q p' q' u:PV} (h:∀(S:Imm) (w:World) (v:Value),Rep S w noI p v->Rep S w noI q v) (h':∀(S:Imm) (w:World) (v:Value),Rep S w noI p' v->Rep S w noI q' v) (hp:aB Tryz.prog g [q,q'] u):aB Tryz.prog g [p,p'] u:=
 dh (ys:=[q,q']) (λS w vs hA=>⟨hA.1,λi hi=>by
  have:i=0∨i=1:=by simp at hi;omega
  rcases this with rfl|rfl
  ·exact h _ _ _ (hA.2 0 qqS)
  ·exact h' _ _ _ (hA.2 1 qqS)⟩) hp
theorem uO {g:FuncId} {C:NI->Prop} {r:NI->PV} (h:∀a,C a->aB Tryz.prog g [niV a] (r a)):POK Tryz.prog g (λxs K=>match xs with| [p]=>ni1 p λa=>VC (C a)/\K (r a)|_=>False):=by
 intro xs K hk;split at hk
 ·obtain⟨a,⟨h1,h2⟩,h3⟩:=D6 hk
  exact⟨_,h2,MW h3 (h a h1.get)⟩
 ·exact hk.elim
theorem wU {g:FuncId} {C:NI->NI->Prop} {r:NI->NI->PV} (h:∀a b,C a b->aB Tryz.prog g [niV a,niV b] (r a b)):POK Tryz.prog g (λxs K=>match xs with| [p,q]=>ni1 p λa=>ni1 q λb=>VC (C a b)/\K (r a b)|_=>False):=by
 intro xs K hk;split at hk
 ·obtain⟨a,hk,h3⟩:=D6 hk
  obtain⟨b,⟨h1,h2⟩,h4⟩:=D6 hk;exact⟨_,h2,D7 h3 h4 (h a b h1.get)⟩
 ·exact hk.elim
def nG:PSp:=λxs K=>match xs with| [p]=>ni1 p λa=>VC a.OK/\K (.tup [.bp (decide (a.s<0)),.isl (wd a.val.natAbs) .none])|_=>False
theorem lU:POK Tryz.prog 184 nG:=uO (C:=NI.OK) (r:=λa=>.tup [.bp (decide (a.s<0)),.isl (wd a.val.natAbs) .none]) λa h=>XP a h
def fC (v:Int):Int:=max (-1) (min 1 v)
theorem ahf {a:NI} (h:a.OK):fC a.s=fC a.val:=by
 obtain⟨s,w⟩:=a;rcases h with⟨h1,h2⟩|⟨x,h1,h2,h3⟩
 ·simp only at h1;subst h1;rfl
 ·simp only at h1 h3;subst h1
  rw[NI.val_big qqO];unfold fC;rcases h3 with rfl|rfl<;>simp<;>omega
theorem Uf (a:NI) (h:a.OK):aB Tryz.prog 194 [niV a] (.int .i64 (fC a.val)):=by
 rw[<-ahf h];unfold fC;have hs:=h;refine Jl h (λh1 h2=>?_) (λx h1 h2 h3 h4=>?_)
 ·unfold smI at h2
  generalize a.s=s at*
  refine au (md:=1) (rf:=[]) mixed ak aC Tryz.func194 qqR qqR qqR ?_;refine wk1 ?_;all_goals(try exact Sup.of rfl)
 ·generalize a.s=s at*
  refine au (md:=1) (rf:=[]) mixed ak aC Tryz.func194 qqR qqR qqR ?_;refine wk1 ?_;all_goals(try exact Sup.of rfl)
def uP:PSp:=λxs K=>match xs with| [p]=>ni1 p λa=>VC a.OK/\K (.int .i64 (fC a.val))|_=>False
theorem pG:POK Tryz.prog 194 uP:=uO Uf
noncomputable def ajQ:CPT:=ay 184 (aU nG) (ay 185 (aJ yu) noC)
theorem D8:aZ Tryz.prog ajQ:=aj (aF lU) (aj (aA yw) aC)
theorem XQ (a:NI) (h:a.OK) (hL:a.L≤1000000000000):aB Tryz.prog 201 [niV a] (niV (nrm (-a.val))):=by
 have hs:=h;refine Jl h (λh1 h2=>?_) (λx h1 h2 h3 h4=>?_)
 ·obtain⟨s,w⟩:=a
  simp only at h1 h2⊢;subst h1;have hv:NI.val ⟨s,[]⟩=s:=rfl;rw[hv];unfold NI.L at hL;rw[hv]at hL;by_cases hm:s= -9223372036854775808
  ·have e:mdN (!decide (s<0)) s.natAbs=nrm (-s):=nE (by subst hm;simp)
   rw[<-e];refine au (md:=1) (rf:=[]) mixed ak D8 Tryz.func201 qqR qqR qqR ?_;refine wk2 (λhq=>?_) λhq=>?_;all_goals(try simp only[dP])
   all_goals first
    |exact hs
    |exact⟨bS _,hL⟩
    |exact Sup.of rfl
  ·unfold smI at h2
   rw[iZ qqO];refine au (md:=1) (rf:=[]) mixed ak D8 Tryz.func201 qqR qqR qqR ?_;refine wk1 λhq=>?_;all_goals first
    |(rw[Int.zero_sub];exact Sup.via (by repeat'((conv=>whnf);first|intro _|apply aI|exact aD|apply nM|apply fM);all_goals((try apply vM);(try simp only[vq]at*);try omega)))
 ·have e:nrm (-a.val)=mdN (!decide (a.s<0)) x:=by
   rw[nE (v:= -a.val)];rw[h4];by_cases hn:a.s<0
   ·rw[if_pos hn];simp[hn]
   ·rw[if_neg hn];simp[hn]
  rw[e];have hne:dl W x≠[]:=λh0=>by have:=(fD W2).1 h0;omega
  have hl0:0<(dl W x).length:=aog.2 hne;have ea:(⟨a.s,dl W x⟩:NI)=a:=by rw[<-h1]
  have en:(NI.val a).natAbs=x:=by rw[h4];split<;>omega
  have hL':(dl W x).length≤1000000000000:=by unfold NI.L Lw at hL;rw[en]at hL;exact hL
  refine au (md:=1) (rf:=[]) mixed ak D8 Tryz.func201 qqR qqR qqR ?_;refine wk3 (λhq=>?_) (λhq=>?_) λhq=>?_;all_goals(try simp only[ea,en,dP])
  all_goals first
   |omega
   |exact hne
   |exact hs
   |exact⟨bS _,hL'⟩
   |exact Sup.of rfl
def zU:PSp:=λxs K=>match xs with| [p]=>ni1 p λa=>VC (a.OK/\a.L≤1000000000000)/\K (niV (nrm (-a.val)))|_=>False
theorem rZ:POK Tryz.prog 201 zU:=uO (C:=λa=>a.OK/\a.L≤1000000000000) λa h=>XQ a h.1 h.2
theorem yx {g:FuncId} {a b:NI} {u:PV} (ha:a.OK) (hb:b.OK)
 (h1:∀p q:PV,(p=.agg [.int .i64 a.s,.nils]/\a.w=[]/\smI a.s∨∃x,p=.agg [.int .i64 a.s,.isl (wd x) .none]/\a.w=dl W x/\9223372036854775808≤x)->(q=.agg [.int .i64 b.s,.nils]/\b.w=[]/\smI b.s∨∃x,q=.agg [.int .i64 b.s,.isl (wd x) .none]/\b.w=dl W x/\9223372036854775808≤x)->aB Tryz.prog g [p,q] u):aB Tryz.prog g [niV a,niV b] u:=by
 have two:∀a:NI,a.OK->∃p,(p=.agg [.int .i64 a.s,.nils]/\a.w=[]/\smI a.s∨∃x,p=.agg [.int .i64 a.s,.isl (wd x) .none]/\a.w=dl W x/\9223372036854775808≤x)/\∀(S:Imm) (w:World) (v:Value),Rep S w noI (niV a) v->Rep S w noI p v:=by
  intro a h;rcases h with⟨g1,g2⟩|⟨x,g1,g2,g3⟩
  ·exact⟨_,.inl ⟨rfl,g1,g2⟩,λS w v hr=>(qz hr).1 g1⟩
  ·refine⟨_,.inr ⟨x,rfl,g1,g2⟩,λS w v hr=>?_⟩
   have:=(qz hr).2 (λh0=>by rw[g1]at h0;have:=(fD W2).1 h0;omega)
   rw[g1]at this;exact this
 obtain⟨p,hp,hp'⟩:=two a ha;obtain⟨q,hq,hq'⟩:=two b hb;exact D7 hp' hq' (h1 p q hp hq)
theorem gP {a:NI} {x:Nat} (h:a.w=dl W x):(⟨a.s,dl W x⟩:NI)=a:=by rw[<-h]
theorem fZ {a:NI} (h:a.w=[]):(⟨a.s,[]⟩:NI)=a:=by rw[<-h]
theorem fH {x:Nat} (h:9223372036854775808≤x):dl W x≠[]/\0<(dl W x).length:=by
 have:dl W x≠[]:=λh0=>by have:=(fD W2).1 h0;omega
 exact⟨this,aog.2 this⟩
theorem gQ {a:NI} (h:a.w=[]):a.val=a.s:=by rw[<-fZ h];rfl
def addN (a b:NI):NI:=if a.w=[]/\b.w=[]/\a.s+b.s= -9223372036854775808 then⟨-9223372036854775808,[]⟩else nrm (a.val+b.val)
theorem uQ (a b:NI):(addN a b).val=a.val+b.val:=by
 unfold addN;split
 ·rename_i h;rw[gQ h.1,gQ h.2.1,h.2.2];rfl
 ·exact bg _
theorem Ea (a b:NI):(addN a b).OK:=by
 unfold addN;split
 ·exact .inl ⟨rfl,by unfold smI;simp⟩
 ·exact bQ _
theorem add_same {a b:NI} (ha:a.OK) (hb:b.OK) (h:(a.s<0)=(b.s<0)):a.val+b.val=if decide (a.s<0)then-((a.val.natAbs+b.val.natAbs:Nat):Int)else((a.val.natAbs+b.val.natAbs:Nat):Int):=by
 have h1:=NI.neg_iff ha;have h2:=NI.neg_iff hb;rw[<-h]at h2;by_cases hn:a.s<0
 ·rw[decide_eq_true hn,if_pos rfl];have:=h1.1 hn;have:=h2.1 hn;omega
 ·rw[decide_eq_false hn,if_neg qqS]
  have e1:¬a.val<0:=λh=>hn (h1.2 h);have e2:¬b.val<0:=λh=>hn (h2.2 h);omega
theorem Jm {a b:NI} (ha:a.OK) (hb:b.OK) (h:¬(a.s<0)=(b.s<0)) (hle:b.val.natAbs≤a.val.natAbs):a.val+b.val=if decide (a.s<0)then-((a.val.natAbs-b.val.natAbs:Nat):Int)else((a.val.natAbs-b.val.natAbs:Nat):Int):=by
 have h1:=NI.neg_iff ha;have h2:=NI.neg_iff hb;by_cases hn:a.s<0
 ·have hb:¬b.s<0:=λh'=>h (by simp[hn,h'])
  rw[decide_eq_true hn,if_pos rfl];have:=h1.1 hn;have e2:¬b.val<0:=λh=>hb (h2.2 h);omega
 ·have hb:b.s<0:=Decidable.byContradiction λh'=>h (by simp[hn,h'])
  rw[decide_eq_false hn,if_neg qqS];have e1:¬a.val<0:=λh=>hn (h1.2 h);have:=h2.1 hb;omega
noncomputable def ajR:CPT:=ay 184 (aU nG) (ay 185 (aJ yu) (ay 186 (aJ Qs) (ay 187 (aJ Ct) (ay 188 (aJ Qt) noC))))
theorem r9:aZ Tryz.prog ajR:=aj (aF lU) (aj (aA yw) (aj (aA adH) (aj (aA DX) (aj (aA adI) aC))))
theorem wrap_i64 (n:Int):IntKind.i64.wrap n=(n+9223372036854775808) % 18446744073709551616-9223372036854775808:=by
 simp only[IntKind.wrap,IntKind.bits,IntKind.signed];simp;omega
theorem yA {x y:Nat}:0≤dU x y↔y≤x:=by
 unfold dU;split
 ·constructor<;>intro h<;>omega
 ·split<;>constructor<;>intro h<;>omega
theorem Eb {a b:NI} (h:¬(a.w=[]/\b.w=[]/\a.s+b.s= -9223372036854775808)):addN a b=nrm (a.val+b.val):=by unfold addN;rw[if_neg h]
theorem ahg {a b:NI} (ha:a.OK) (hb:b.OK) (hx:¬(a.w=[]/\b.w=[]/\a.s+b.s= -9223372036854775808)) (h:(a.s<0)=(b.s<0)):mdN (decide (a.s<0)) (a.val.natAbs+b.val.natAbs)=addN a b:=by
 rw[Eb hx];exact nE (add_same ha hb h)
theorem ahh {a b:NI} (ha:a.OK) (hb:b.OK) (hx:¬(a.w=[]/\b.w=[]/\a.s+b.s= -9223372036854775808)) (h:¬(a.s<0)=(b.s<0)) (hle:b.val.natAbs≤a.val.natAbs):mdN (decide (a.s<0)) (a.val.natAbs-b.val.natAbs)=addN a b:=by
 rw[Eb hx];exact nE (Jm ha hb h hle)
theorem ahi {a b:NI} (ha:a.OK) (hb:b.OK) (hx:¬(a.w=[]/\b.w=[]/\a.s+b.s= -9223372036854775808)) (h:¬(a.s<0)=(b.s<0)) (hle:¬b.val.natAbs≤a.val.natAbs):mdN (decide (b.s<0)) (b.val.natAbs-a.val.natAbs)=addN a b:=by
 rw[Eb hx,Int.add_comm];exact nE (Jm hb ha (λh'=>h h'.symm) qqO)
theorem bq1:(∀(p q:Prop) [Decidable p] [Decidable q],((decide p==decide q)=true)=(p=q))/\(∀(p q:Prop) [Decidable p] [Decidable q],((decide p==decide q)=false)=¬(p=q)):=
 ⟨λp q _ _=>qqS,λp q _ _=>qqS⟩
theorem zV {s t:Int} (h1:smI s) (h2:smI t):((decide (s<IntKind.i64.wrap (s+t))==decide (0<t))=true)=smI (s+t):=by
 rw[bq1.1,wrap_i64];unfold smI at*;apply propext;constructor
 ·intro h
  have h:=iff_of_eq h;by_cases h0:0<t
  ·have:=h.2 h0;omega
  ·have:¬s<(s+t+9223372036854775808) % 18446744073709551616-9223372036854775808:=λh'=>h0 (h.1 h')
   omega
 ·intro h
  apply propext;constructor<;>intro h'<;>omega
theorem Ug {s t:Int} (h1:smI s) (h2:smI t):((decide (s<IntKind.i64.wrap (s+t))==decide (0<t))=false)=¬smI (s+t):=by
 rw[<-zV h1 h2];simp
theorem i64_in {n:Int} (h:smI n):IntKind.i64.wrap n=n:=by rw[wrap_i64];unfold smI at h;omega
theorem XR (a b:NI) (ha:a.OK) (hb:b.OK) (hLa:a.L≤100000000000) (hLb:b.L≤100000000000):aB Tryz.prog 109 [niV a,niV b] (niV (addN a b)):=by
 have L1:(dl W a.val.natAbs).length≤100000000000:=hLa;have L2:(dl W b.val.natAbs).length≤100000000000:=hLb;have L3:(dl W (a.val.natAbs+b.val.natAbs)).length≤1000000000000:=by have:=Ue a.val.natAbs b.val.natAbs;unfold NI.L at*;unfold Lw at*;omega
 have L4:(dl W (a.val.natAbs-b.val.natAbs)).length≤1000000000000:=by have:=fK (x:=a.val.natAbs-b.val.natAbs) (y:=a.val.natAbs) qqO;unfold NI.L at*;unfold Lw at*;omega
 have L5:(dl W (b.val.natAbs-a.val.natAbs)).length≤1000000000000:=by have:=fK (x:=b.val.natAbs-a.val.natAbs) (y:=b.val.natAbs) qqO;unfold NI.L at*;unfold Lw at*;omega
 have F1:=λhx=>ahg ha hb hx;have F2:=λhx=>ahh ha hb hx;have F3:=λhx=>ahi ha hb hx;refine yx ha hb λp q hp hq=>?_;rcases hp with⟨rfl,hp,hps⟩|⟨x,rfl,hp,hpx⟩<;>rcases hq with⟨rfl,hq,hqs⟩|⟨y,rfl,hq,hqy⟩
 ·have ea:=fZ hp
  have eb:=fZ hq;have na:True:=trivial;have nb:True:=trivial;by_cases hsm:smI (a.s+b.s)
  ·have hx:addN a b=⟨a.s+b.s,[]⟩:=by
    unfold addN;split
    ·rename_i h1;rw[h1.2.2]
    ·rename_i h1
     rw[gQ hp,gQ hq,iZ];have:a.s+b.s≠ -9223372036854775808:=λh2=>h1 ⟨hp,hq,h2⟩;unfold smI at hsm;omega
   rw[hx];have h1:=zV hps hqs;have h2:=Ug hps hqs;have h3:=i64_in hsm;clear F1 F2 F3 L1 L2 L3 L4 L5;generalize a.s=s at*
   generalize b.s=t at*
   refine au (md:=2) (rf:=[]) mixed ak r9 Tryz.func109 qqR qqR qqR ?_
   repeat'((conv=>whnf);first|(intro hq;(try simp only[vw]at hq);try exact aV hq)|apply aI|exact aD|apply nM|apply fM)
   all_goals((try apply vM);(try simp only[vq]at*);try omega)
   all_goals first
    |(exfalso;rename_i hq;rw[h2]at hq;exact hq hsm)
    |(rw[h3];refine Sup.via ?_;repeat'((conv=>whnf);first|intro _|apply aI|exact aD|apply nM|apply fM);all_goals((try apply vM);(try simp only[vq]at*);try omega))
    |(exfalso;rw[h2]at*;contradiction)
  ·have hbig:¬(a.w=[]/\b.w=[]/\a.s+b.s= -9223372036854775808):=λh2=>hsm (by unfold smI;omega)
   have h1:=zV hps hqs;have E1:=F1 hbig;have E2:=F2 hbig;have E3:=F3 hbig;clear hbig F1 F2 F3;generalize addN a b=r at*
   generalize a.s=s at*
   generalize b.s=t at*
   refine au (md:=2) (rf:=[]) mixed ak r9 Tryz.func109 qqR qqR qqR ?_
   repeat'((conv=>whnf);first|(intro hq;(try simp only[vw]at hq);try exact aV hq)|apply aI|exact aD|apply nM|apply fM)
   all_goals((try apply vM);(try simp only[vq]at*);try omega)
   all_goals(try simp only[ea,eb,dP])
   all_goals(try simp only[bq1,yA,dP,aoh]at*)
   all_goals(try simp only[ea,eb]at hq)
   all_goals first
    |exact absurd (Eq.mp h1 hq) hsm
    |exact ha
    |exact hb
    |exact na
    |exact nb
    |exact⟨bS _,bS _,qqO,qqO⟩
    |exact⟨bS _,bS _,qqO,qqA⟩
    |exact⟨bS _,qqO⟩
    |(rw[E1 qqA];exact Sup.of rfl)
    |(rw[E2 qqA qqA];exact Sup.of rfl)
    |(rw[E3 qqA qqA];exact Sup.of rfl)
    |omega
 ·have hbig:¬(a.w=[]/\b.w=[]/\a.s+b.s= -9223372036854775808):=λh=>by rw[hq]at h;exact(fH hqy).1 h.2.1
  have ea:=fZ hp;have eb:=gP hq;have na:True:=trivial;obtain⟨nb,nb'⟩:=fH hqy;have E1:=F1 hbig;have E2:=F2 hbig;have E3:=F3 hbig;clear hbig F1 F2 F3;generalize addN a b=r at*
  generalize a.s=s at*
  generalize b.s=t at*
  refine au (md:=2) (rf:=[]) mixed ak r9 Tryz.func109 qqR qqR qqR ?_
  repeat'((conv=>whnf);first|(intro hq;(try simp only[vw]at hq);try exact aV hq)|apply aI|exact aD|apply nM|apply fM)
  all_goals((try apply vM);(try simp only[vq]at*);try omega)
  all_goals(try simp only[ea,eb,dP])
  all_goals(try simp only[bq1,yA,dP,aoh]at*)
  all_goals(try simp only[ea,eb]at hq)
  all_goals first
   |exact absurd (Eq.mp h1 hq) hsm
   |exact ha
   |exact hb
   |exact na
   |exact nb
   |exact⟨bS _,bS _,qqO,qqO⟩
   |exact⟨bS _,bS _,qqO,qqA⟩
   |exact⟨bS _,qqO⟩
   |(rw[E1 qqA];exact Sup.of rfl)
   |(rw[E2 qqA qqA];exact Sup.of rfl)
   |(rw[E3 qqA qqA];exact Sup.of rfl)
   |omega
 ·have hbig:¬(a.w=[]/\b.w=[]/\a.s+b.s= -9223372036854775808):=λh=>by rw[hp]at h;exact(fH hpx).1 h.1
  have ea:=gP hp;have eb:=fZ hq;have nb:True:=trivial;obtain⟨na,na'⟩:=fH hpx;have E1:=F1 hbig;have E2:=F2 hbig;have E3:=F3 hbig;clear hbig F1 F2 F3;generalize addN a b=r at*
  generalize a.s=s at*
  generalize b.s=t at*
  refine au (md:=2) (rf:=[]) mixed ak r9 Tryz.func109 qqR qqR qqR ?_
  repeat'((conv=>whnf);first|(intro hq;(try simp only[vw]at hq);try exact aV hq)|apply aI|exact aD|apply nM|apply fM)
  all_goals((try apply vM);(try simp only[vq]at*);try omega)
  all_goals(try simp only[ea,eb,dP])
  all_goals(try simp only[bq1,yA,dP,aoh]at*)
  all_goals(try simp only[ea,eb]at hq)
  all_goals first
   |exact absurd (Eq.mp h1 hq) hsm
   |exact ha
   |exact hb
   |exact na
   |exact nb
   |exact⟨bS _,bS _,qqO,qqO⟩
   |exact⟨bS _,bS _,qqO,qqA⟩
   |exact⟨bS _,qqO⟩
   |(rw[E1 qqA];exact Sup.of rfl)
   |(rw[E2 qqA qqA];exact Sup.of rfl)
   |(rw[E3 qqA qqA];exact Sup.of rfl)
   |omega
 ·have hbig:¬(a.w=[]/\b.w=[]/\a.s+b.s= -9223372036854775808):=λh=>by rw[hp]at h;exact(fH hpx).1 h.1
  have ea:=gP hp;have eb:=gP hq;obtain⟨nb,nb'⟩:=fH hqy;obtain⟨na,na'⟩:=fH hpx;have E1:=F1 hbig;have E2:=F2 hbig;have E3:=F3 hbig;clear hbig F1 F2 F3;generalize addN a b=r at*
  generalize a.s=s at*
  generalize b.s=t at*
  refine au (md:=2) (rf:=[]) mixed ak r9 Tryz.func109 qqR qqR qqR ?_
  repeat'((conv=>whnf);first|(intro hq;(try simp only[vw]at hq);try exact aV hq)|apply aI|exact aD|apply nM|apply fM)
  all_goals((try apply vM);(try simp only[vq]at*);try omega)
  all_goals(try simp only[ea,eb,dP])
  all_goals(try simp only[bq1,yA,dP,aoh]at*)
  all_goals(try simp only[ea,eb]at hq)
  all_goals first
   |exact absurd (Eq.mp h1 hq) hsm
   |exact ha
   |exact hb
   |exact na
   |exact nb
   |exact⟨bS _,bS _,qqO,qqO⟩
   |exact⟨bS _,bS _,qqO,qqA⟩
   |exact⟨bS _,qqO⟩
   |(rw[E1 qqA];exact Sup.of rfl)
   |(rw[E2 qqA qqA];exact Sup.of rfl)
   |(rw[E3 qqA qqA];exact Sup.of rfl)
   |omega
theorem dD (a:NI):(⟨a.s,a.w⟩:NI)=a:=rfl
theorem NI.L_nrm (v:Int):(nrm v).L=Lw v.natAbs:=by unfold NI.L;rw[bg]
def Ec:PSp:=λxs K=>match xs with| [p,q]=>ni1 p λa=>ni1 q λb=>VC (a.OK/\b.OK/\a.L≤100000000000/\b.L≤100000000000)/\K (niV (addN a b))|_=>False
theorem wV:POK Tryz.prog 109 Ec:=wU (C:=λa b=>a.OK/\b.OK/\a.L≤100000000000/\b.L≤100000000000) λa b h=>XR a b h.1 h.2.1 h.2.2.1 h.2.2.2
def zW (a b:NI):NI:=addN a (nrm (-b.val))
theorem uR (a b:NI):(zW a b).val=a.val-b.val:=by unfold zW;rw[uQ,bg];omega
theorem yB (a b:NI):(zW a b).OK:=Ea _ _
noncomputable def ajS:CPT:=ay 201 (aU zU) (ay 109 (aU Ec) noC)
theorem adO:aZ Tryz.prog ajS:=aj (aF rZ) (aj (aF wV) aC)
theorem XT (a b:NI) (ha:a.OK) (hb:b.OK) (hLa:a.L≤100000000000) (hLb:b.L≤100000000000):aB Tryz.prog 195 [niV a,niV b] (niV (zW a b)):=by
 have h1:(nrm (-b.val)).L≤100000000000:=by rw[NI.L_nrm,aoi];exact hLb
 refine au (md:=1) (rf:=[]) mixed ak adO Tryz.func195 qqR qqR qqR ?_;refine wk3 ?_ ?_ ?_;all_goals first
  |exact⟨hb,als hLb qqD⟩
  |exact⟨ha,bQ _,hLa,h1⟩
  |exact Sup.of rfl
def XU:PSp:=λxs K=>match xs with| [p,q]=>ni1 p λa=>ni1 q λb=>VC (a.OK/\b.OK/\a.L≤100000000000/\b.L≤100000000000)/\K (niV (zW a b))|_=>False
theorem Uh:POK Tryz.prog 195 XU:=wU (C:=λa b=>a.OK/\b.OK/\a.L≤100000000000/\b.L≤100000000000) λa b h=>XT a b h.1 h.2.1 h.2.2.1 h.2.2.2
def kT (x y:Int):Int:=if x<y then-1 else if y<x then 1 else 0
theorem uS (x y:Int):fC (x-y)=kT x y:=by
 unfold fC kT;split
 ·omega
 ·split<;>omega
noncomputable def ajT:CPT:=ay 195 (aU XU) (ay 194 (aU uP) noC)
theorem yC:aZ Tryz.prog ajT:=aj (aF Uh) (aj (aF pG) aC)
theorem Ui (a b:NI) (ha:a.OK) (hb:b.OK) (hLa:a.L≤100000000000) (hLb:b.L≤100000000000):aB Tryz.prog 118 [niV a,niV b] (.int .i64 (kT a.val b.val)):=by
 refine yx ha hb λp q hp hq=>?_;rcases hp with⟨rfl,hp,hps⟩|⟨x,rfl,hp,hpx⟩<;>rcases hq with⟨rfl,hq,hqs⟩|⟨y,rfl,hq,hqy⟩
 ·have ea:=fZ hp
  have eb:=fZ hq;have na:True:=trivial;have nb:True:=trivial;have es:=gQ hp;have et:=gQ hq;generalize a.s=s at*
  generalize b.s=t at*
  refine au (md:=1) (rf:=[]) mixed ak yC Tryz.func118 qqR qqR qqR ?_;refine wk3 (λhq=>?_) (λhq hq=>?_) λhq hq=>?_;all_goals(try simp only[ea,eb,dD,uR,uS])
  all_goals first
   |exact na
   |exact nb
   |exact⟨ha,hb,hLa,hLb⟩
   |exact yB _ _
   |exact Sup.of rfl
   |(refine Sup.of ?_;unfold kT;simp only[es,et,dJ];first|rw[if_pos qqO]|rw[if_neg qqO,if_pos qqO]|rw[if_neg qqO,if_neg qqO])
 ·have ea:=fZ hp
  have eb:=gP hq;have na:True:=trivial;obtain⟨nb,nb'⟩:=fH hqy;have es:=gQ hp;have et:True:=trivial;generalize a.s=s at*
  generalize b.s=t at*
  refine au (md:=1) (rf:=[]) mixed ak yC Tryz.func118 qqR qqR qqR ?_;refine wk3 (λhq=>?_) (λhq=>?_) λhq=>?_;all_goals(try simp only[ea,eb,dD,uR,uS])
  all_goals first
   |exact na
   |exact nb
   |exact⟨ha,hb,hLa,hLb⟩
   |exact yB _ _
   |exact Sup.of rfl
   |(refine Sup.of ?_;unfold kT;simp only[es,et,dJ];first|rw[if_pos qqO]|rw[if_neg qqO,if_pos qqO]|rw[if_neg qqO,if_neg qqO])
 ·have ea:=gP hp
  have eb:=fZ hq;have nb:True:=trivial;obtain⟨na,na'⟩:=fH hpx;have es:True:=trivial;have et:True:=trivial;generalize a.s=s at*
  generalize b.s=t at*
  refine au (md:=1) (rf:=[]) mixed ak yC Tryz.func118 qqR qqR qqR ?_;refine wk3 (λhq=>?_) (λhq=>?_) λhq=>?_;all_goals(try simp only[ea,eb,dD,uR,uS])
  all_goals first
   |exact na
   |exact nb
   |exact⟨ha,hb,hLa,hLb⟩
   |exact yB _ _
   |exact Sup.of rfl
   |(refine Sup.of ?_;unfold kT;simp only[es,et,dJ];first|rw[if_pos qqO]|rw[if_neg qqO,if_pos qqO]|rw[if_neg qqO,if_neg qqO])
 ·have ea:=gP hp
  have eb:=gP hq;obtain⟨nb,nb'⟩:=fH hqy;obtain⟨na,na'⟩:=fH hpx;have es:True:=trivial;have et:True:=trivial;generalize a.s=s at*
  generalize b.s=t at*
  refine au (md:=1) (rf:=[]) mixed ak yC Tryz.func118 qqR qqR qqR ?_;refine wk3 (λhq=>?_) (λhq=>?_) λhq=>?_;all_goals(try simp only[ea,eb,dD,uR,uS])
  all_goals first
   |exact na
   |exact nb
   |exact⟨ha,hb,hLa,hLb⟩
   |exact yB _ _
   |exact Sup.of rfl
   |(refine Sup.of ?_;unfold kT;simp only[es,et,dJ];first|rw[if_pos qqO]|rw[if_neg qqO,if_pos qqO]|rw[if_neg qqO,if_neg qqO])
def Gw:PSp:=λxs K=>match xs with| [p,q]=>ni1 p λa=>ni1 q λb=>VC (a.OK/\b.OK/\a.L≤100000000000/\b.L≤100000000000)/\K (.int .i64 (kT a.val b.val))|_=>False
theorem Ed:POK Tryz.prog 118 Gw:=wU (C:=λa b=>a.OK/\b.OK/\a.L≤100000000000/\b.L≤100000000000) λa b h=>Ui a b h.1 h.2.1 h.2.2.1 h.2.2.2
theorem ahj {a b:NI} (ha:a.OK) (hb:b.OK):mdN (!(decide (a.s<0)==decide (b.s<0))) (a.val.natAbs*b.val.natAbs)=nrm (a.val*b.val):=by
 have h1:=NI.neg_iff ha;have h2:=NI.neg_iff hb;refine nE ?_;rw[an9];rw[show decide (a.s<0)=decide (a.val<0) by simp[h1],show decide (b.s<0)=decide (b.val<0) by simp[h2]]
 generalize a.val=x
 generalize b.val=y
 by_cases hx:x<0<;>by_cases hy:y<0<;>simp only[hx,hy,decide_true,decide_false]<;>simp
 ·rw[show((x.natAbs:Nat):Int)= -x by omega,show((y.natAbs:Nat):Int)= -y by omega,Int.neg_mul_neg]
 ·rw[show((x.natAbs:Nat):Int)= -x by omega,show((y.natAbs:Nat):Int)=y by omega,Int.neg_mul,aoj]
 ·rw[show((x.natAbs:Nat):Int)=x by omega,show((y.natAbs:Nat):Int)= -y by omega,aok,aoj]
 ·rw[show((x.natAbs:Nat):Int)=x by omega,show((y.natAbs:Nat):Int)=y by omega]
noncomputable def ajU:CPT:=ay 184 (aU nG) (ay 185 (aJ yu) (ay 191 (aJ Qv) (ay 190 (aJ Gv) (ay 189 (aJ rY) noC))))
theorem yD:aZ Tryz.prog ajU:=aj (aF lU) (aj (aA yw) (aj (aA adL) (aj (aA MV) (aj (aA uN) aC))))
theorem XV (a b:NI) (ha:a.OK) (hb:b.OK) (hLa:a.L≤100000000000) (hLb:b.L≤100000000000):aB Tryz.prog 110 [niV a,niV b] (niV (nrm (a.val*b.val))):=by
 have L1:(dl W a.val.natAbs).length≤100000000000:=hLa;have L2:(dl W b.val.natAbs).length≤100000000000:=hLb;have L3:(dl W (a.val.natAbs*b.val.natAbs)).length≤1000000000000:=by have:=ou a.val.natAbs b.val.natAbs;unfold NI.L at*;unfold Lw at*;omega
 have E:=ahj ha hb;refine yx ha hb λp q hp hq=>?_;rcases hp with⟨rfl,hp,hps⟩|⟨x,rfl,hp,hpx⟩<;>rcases hq with⟨rfl,hq,hqs⟩|⟨y,rfl,hq,hqy⟩
 ·have ea:=fZ hp
  have eb:=fZ hq;have na:True:=trivial;have nb:True:=trivial;have es:=gQ hp;have et:=gQ hq;unfold smI at hps hqs;generalize a.s=s at*
  generalize b.s=t at*
  refine au (md:=1) (rf:=[]) mixed ak yD Tryz.func110 qqR qqR qqR ?_
  repeat'((conv=>whnf);first|(intro hq;(try simp only[vw]at hq);try exact aV hq)|apply aI|exact aD|apply nM|apply fM)
  all_goals((try apply vM);(try simp only[vq]at*);try omega)
  all_goals(try simp only[ea,eb,dP])
  all_goals first
   |exact ha
   |exact hb
   |omega
   |exact⟨bS _,bS _,qqO,qqO⟩
   |exact⟨bS _,L3⟩
   |(rw[<-E];exact Sup.of rfl)
   |(rename_i h1 h2
     obtain⟨P,hP⟩:∃P,P=s.natAbs*t.natAbs:=⟨_,rfl⟩;have hP':(s.natAbs:Int)*(t.natAbs:Int)=P:=by rw[hP,an9]
     rw[hP']at h2 hq⊢;rw[<-E,es,et,<-hP,h1];unfold mdN;rw[if_pos qqO];refine Sup.via ?_;refine wk1 ?_;all_goals first|omega|(simp;omega))
 ·have ea:=fZ hp
  have eb:=gP hq;have na:True:=trivial;obtain⟨nb,nb'⟩:=fH hqy;generalize a.s=s at*
  generalize b.s=t at*
  refine au (md:=1) (rf:=[]) mixed ak yD Tryz.func110 qqR qqR qqR ?_;refine wk5 (λhq=>?_) (λhq=>?_) (λhq=>?_) (λhq=>?_) λhq=>?_;all_goals(try simp only[ea,eb,dP])
  all_goals first
   |exact na
   |exact nb
   |exact ha
   |exact hb
   |omega
   |exact⟨bS _,bS _,qqO,qqO⟩
   |exact⟨bS _,L3⟩
   |(rw[<-E];exact Sup.of rfl)
 ·have ea:=gP hp
  have eb:=fZ hq;have nb:True:=trivial;obtain⟨na,na'⟩:=fH hpx;generalize a.s=s at*
  generalize b.s=t at*
  refine au (md:=1) (rf:=[]) mixed ak yD Tryz.func110 qqR qqR qqR ?_;refine wk5 (λhq=>?_) (λhq=>?_) (λhq=>?_) (λhq=>?_) λhq=>?_;all_goals(try simp only[ea,eb,dP])
  all_goals first
   |exact na
   |exact nb
   |exact ha
   |exact hb
   |omega
   |exact⟨bS _,bS _,qqO,qqO⟩
   |exact⟨bS _,L3⟩
   |(rw[<-E];exact Sup.of rfl)
 ·have ea:=gP hp
  have eb:=gP hq;obtain⟨nb,nb'⟩:=fH hqy;obtain⟨na,na'⟩:=fH hpx;generalize a.s=s at*
  generalize b.s=t at*
  refine au (md:=1) (rf:=[]) mixed ak yD Tryz.func110 qqR qqR qqR ?_;refine wk5 (λhq=>?_) (λhq=>?_) (λhq=>?_) (λhq=>?_) λhq=>?_;all_goals(try simp only[ea,eb,dP])
  all_goals first
   |exact na
   |exact nb
   |exact ha
   |exact hb
   |omega
   |exact⟨bS _,bS _,qqO,qqO⟩
   |exact⟨bS _,L3⟩
   |(rw[<-E];exact Sup.of rfl)
def uT:PSp:=λxs K=>match xs with| [p,q]=>ni1 p λa=>ni1 q λb=>VC (a.OK/\b.OK/\a.L≤100000000000/\b.L≤100000000000)/\K (niV (nrm (a.val*b.val)))|_=>False
theorem pI:POK Tryz.prog 110 uT:=wU (C:=λa b=>a.OK/\b.OK/\a.L≤100000000000/\b.L≤100000000000) λa b h=>XV a b h.1 h.2.1 h.2.2.1 h.2.2.2
def iH (m:Int):Int:=(Go.Lib.bitLen m.toNat:Nat)
theorem lV (T:Array UInt8) (hT:∀j,j<256->(T.getD j 0).toNat=Go.Lib.bitLen j) (x:Int) (h:0≤x/\x<256):((T.getD x.toNat 0).toNat:Int)=iH x:=by
 rw[hT _ qqO];rfl
theorem lW (x:Int) (h:0≤x/\x<256):0≤iH x/\iH x≤8:=by
 have:=Go.Lib.bitLen_le8 ⟨x.toNat,qqO⟩;unfold iH;simp only at this;omega
theorem Ee (k K:Nat) (hK:2 ^ k=K) (x:Int) (h0:(K:Int)≤x) (h:x<18446744073709551616):iH x=k+iH (x / K):=by
 obtain⟨n,rfl⟩:∃n:Nat,x=n:=⟨x.toNat,qqO⟩;unfold iH;rw[anG,Go.Lib.bitLen_shift k n (by rw[hK];omega) qqO,hK]
 rw[<-aol,anG];omega
theorem XW (m:Int) (h:0≤m/\m<18446744073709551616):aB Tryz.prog 266 [.int .u64 m] (.int .i64 (iH m)):=by
 have q32:(2:Int) ^ an8 32=4294967296:=qqD;have q16:(2:Int) ^ an8 16=65536:=qqD;have q8:(2:Int) ^ an8 8=256:=qqD;have d32:an8 32≤IntKind.u64.bits:=qqD;have d16:an8 16≤IntKind.u64.bits:=qqD;have d8:an8 8≤IntKind.u64.bits:=qqD;have a3:4294967296≤m->iH m=32+iH (m / 4294967296):=λh1=>Ee 32 4294967296 rfl m h1 h.2;have a1:∀x:Int,65536≤x->x<18446744073709551616->iH x=16+iH (x / 65536):=λx h1 h2=>Ee 16 65536 rfl x h1 h2;have a2:∀x:Int,256≤x->x<18446744073709551616->iH x=8+iH (x / 256):=λx h1 h2=>Ee 8 256 rfl x h1 h2;refine au (md:=1) (rf:=[]) mixed ak aC Tryz.func266 qqR qqR qqR ?_
 repeat'((conv=>whnf);first|intro _|apply aI|exact aD|apply nM|apply fM)
 all_goals((try apply vM);(try simp only[vq]at*);try omega)
 all_goals(try simp only[q32,q16,q8]at*)
 all_goals(try first|exact d32|exact d16|exact d8|omega|(refine Int.lt_of_lt_of_le (b:=256) qqO qqV))
 all_goals(try(rw[lV _ ?_ (m / 4294967296 / 65536 / 256) qqO];rotate_left;(decide+kernel);(have:=lW (m / 4294967296 / 65536 / 256) qqO);first|omega|((refine Sup.of (congrArg (PV.int .i64) ?_));rw[a3 qqO,a1 (m / 4294967296) qqO qqO,a2 (m / 4294967296 / 65536) qqO qqO];omega)))
 all_goals(try(rw[lV _ ?_ (m / 4294967296 / 65536) qqO];rotate_left;(decide+kernel);(have:=lW (m / 4294967296 / 65536) qqO);first|omega|((refine Sup.of (congrArg (PV.int .i64) ?_));rw[a3 qqO,a1 (m / 4294967296) qqO qqO];omega)))
 all_goals(try(rw[lV _ ?_ (m / 4294967296 / 256) qqO];rotate_left;(decide+kernel);(have:=lW (m / 4294967296 / 256) qqO);first|omega|((refine Sup.of (congrArg (PV.int .i64) ?_));rw[a3 qqO,a2 (m / 4294967296) qqO qqO];omega)))
 all_goals(try(rw[lV _ ?_ (m / 4294967296) qqO];rotate_left;(decide+kernel);(have:=lW (m / 4294967296) qqO);first|omega|((refine Sup.of (congrArg (PV.int .i64) ?_));have:=a3 qqO;omega)))
 all_goals(try(rw[lV _ ?_ (m / 65536 / 256) qqO];rotate_left;(decide+kernel);(have:=lW (m / 65536 / 256) qqO);first|omega|((refine Sup.of (congrArg (PV.int .i64) ?_));rw[a1 m qqO qqO,a2 (m / 65536) qqO qqO];omega)))
 all_goals(try(rw[lV _ ?_ (m / 65536) qqO];rotate_left;(decide+kernel);(have:=lW (m / 65536) qqO);first|omega|((refine Sup.of (congrArg (PV.int .i64) ?_));rw[a1 m qqO qqO];omega)))
 all_goals(try(rw[lV _ ?_ (m / 256) qqO];rotate_left;(decide+kernel);(have:=lW (m / 256) qqO);first|omega|((refine Sup.of (congrArg (PV.int .i64) ?_));rw[a2 m qqO qqO];omega)))
 all_goals(try(rw[lV _ ?_ (m) qqO];rotate_left;(decide+kernel);(have:=lW (m) qqO);first|omega|((refine Sup.of (congrArg (PV.int .i64) ?_));omega)))
def Qw:PSp:=λxs K=>match xs with
 | [.int .u64 m]=>VC (0≤m/\m<18446744073709551616)/\K (.int .i64 (iH m))
 |_=>False
theorem Uj:POK Tryz.prog 266 Qw:=by
 intro xs K h;unfold Qw at h;split at h
 ·exact⟨_,h.2,XW _ h.1.get⟩
 ·exact h.elim
noncomputable def ajV:CPT:=ay 266 (aJ Qw) noC
theorem adP:aZ Tryz.prog ajV:=aj (aA Uj) aC
theorem Ef (m:Int):0≤iH m/\iH m≤64:=by
 have:∀f x,Go.Lib.bitLenAux f x≤f:=by
  intro f;induction f with
  |zero=>intro x;simp[Go.Lib.bitLenAux]
  |succ f ih=>intro x;rw[Go.Lib.bitLenAux];(split;omega;(have:=ih (x / 2);omega))
 have h2:=this 64 m.toNat;have h3:iH m=((Go.Lib.bitLenAux 64 m.toNat:Nat):Int):=rfl;omega
def lzI (m:Int):Nat:=(64-iH m).toNat
theorem adQ (m:Int) (h:0≤m/\m<18446744073709551616):aB Tryz.prog 237 [.int .u64 m] (.int .i64 (lzI m:Nat)):=by
 have:=Ef m;have e:((lzI m:Nat):Int)=64-iH m:=by unfold lzI;omega
 rw[e];refine au (md:=1) (rf:=[]) mixed ak adP Tryz.func237 qqR qqR qqR ?_;refine wk1 ?_;all_goals exact Sup.of rfl
def lzP:PSp:=λxs K=>match xs with
 | [.int .u64 m]=>VC (0≤m/\m<18446744073709551616)/\K (.int .i64 (lzI m:Nat))
 |_=>False
theorem abr:POK Tryz.prog 237 lzP:=by
 intro xs K h;unfold lzP at h;split at h
 ·exact⟨_,h.2,adQ _ h.1.get⟩
 ·exact h.elim
end Go.Eng.YtmkagljofpddpaaGreatDoor
namespace Go.Eng.Dig
set_option linter.unusedSimpArgs false
set_option linter.unusedVariables false
theorem ahk {K u d a b q r:Nat} (hu:u<a*K+b) (hd:d<K) (hr:q*a+r=u) (h:K≤q∨K*r+d<q*b):(u*K+d) / (a*K+b)<q:=by
 rw[al6 qqO];rcases h with h|h
 ·have h1:(u+1)*K≤(a*K+b)*K:=al2 _ hu
  have h2:K*(a*K+b)≤q*(a*K+b):=al2 _ h;have e1:(u+1)*K=u*K+K:=by grind
  have e2:K*(a*K+b)=(a*K+b)*K:=alP _ _;omega
 ·have e1:q*(a*K+b)=(q*a)*K+q*b:=by grind
  have e2:u*K=(q*a)*K+r*K:=by rw[<-hr];grind
  have e3:r*K=K*r:=alP _ _;omega
theorem abt {K u d a b q r:Nat} (hb:0<a*K+b) (hr:q*a+r=u) (h:q*b≤K*r+d):q≤(u*K+d) / (a*K+b):=by
 rw[al9 hb];have e1:q*(a*K+b)=(q*a)*K+q*b:=by grind
 have e2:u*K=(q*a)*K+r*K:=by rw[<-hr];grind
 have e3:r*K=K*r:=alP _ _;omega
theorem adR {K u d a b q r:Nat} (hu:u<a*K+b) (hb:b<K) (hr:q*a+r=u) (h:K≤r):q≤(u*K+d) / (a*K+b)/\q≤K:=by
 have hq:q≤K:=by
  refine aom λhlt=>?_;have h1:(K+1)*a≤q*a:=al2 _ hlt;have e1:(K+1)*a=a*K+a:=by grind
  omega
 refine⟨abt qqO hr ?_,hq⟩;have h1:q*b≤K*K:=amy hq qqO;have h2:K*K≤K*r:=anS _ h;omega
theorem abu {K u d a b:Nat} (hK:0<K) (hu:u<a*K+b) (hd:d<K):(u*K+d) / (a*K+b)<K:=by
 rw[al6 qqO];have h1:(u+1)*K≤(a*K+b)*K:=al2 _ hu;have e1:(u+1)*K=u*K+K:=by grind
 have e2:K*(a*K+b)=(a*K+b)*K:=alP _ _;omega
theorem uU {K u d a b:Nat} (hK:0<K) (ha:0<a) (hd:d<K):(u*K+d) / (a*K+b)≤u / a:=by
 have h1:(u*K+d) / (a*K+b)≤(u*K+d) / (a*K):=Nat.div_le_div_left qqO (anX ha hK);have h2:(u*K+d) / (a*K)=u / a:=by
  rw[alP a K,<-ant,alP u K,Nat.mul_add_div hK,alR hd,alg]
 omega
theorem Uk {K U Y:Nat} (hK:0<K) (hY:0<Y):U / Y=(U / K / Y)*K+((U / K % Y)*K+U % K) / Y/\U % Y=((U / K % Y)*K+U % K) % Y:=by
 have h0:=al7 U K;have h1:=al7 (U / K) Y;have e:U=((U / K % Y)*K+U % K)+(U / K / Y*K)*Y:=by
  generalize U / K % Y=r at*
  generalize U / K / Y=q at*
  generalize U % K=d at*
  generalize U / K=t at*
  subst h1;rw[<-h0]
  grind
 constructor
 ·conv=>lhs;rw[e,anM _ _ hY]
  rw[an3]
 ·conv=>lhs;rw[e,anR]
theorem uV {x y p:Nat} (hp:0<p):(x*p) / (y*p)=x / y/\(x*p) % (y*p) / p=x % y:=by
 refine⟨Nat.mul_div_mul_right _ _ hp,?_⟩;rw[anU,amM _ hp]
end Go.Eng.Dig
namespace Go.Eng.YtmkagljofpddpaaGreatDoor
open Go.Proofs Go.Eng.Dig
set_option linter.unusedSimpArgs false
set_option linter.unusedVariables false
set_option maxHeartbeats 0
set_option maxRecDepth 100000
noncomputable def ajW:CPT:=ay 237 (aJ lzP) noC
theorem sj:aZ Tryz.prog ajW:=aj (aA abr) aC
theorem Ul (lo y:Nat) (hl:lo<W) (hy:0<y) (hy2:y<W):aB Tryz.prog 236 [.int .u64 0,.int .u64 lo,.int .u64 y] (.tup [.int .u64 ((lo / y:Nat):Int),.int .u64 ((lo % y:Nat):Int)]):=by
 have h1:lo / y<18446744073709551616:=an4 (aon _ _) hl;refine au (md:=2) (rf:=[]) mixed ak aC Tryz.func236 qqR qqR qqR ?_;refine wk1 λhq hq hq=>?_;refine Sup.of ?_;rw[show((lo:Int).tdiv (y:Int))=((lo / y:Nat):Int)from rfl,show((lo:Int).tmod (y:Int))=((lo % y:Nat):Int)from rfl,dI _ h1];rfl
theorem Um:∀(f x:Nat),x<2 ^ f->x<2 ^ Go.Lib.bitLenAux f x/\(x≠0->2 ^ Go.Lib.bitLenAux f x≤2*x):=by
 intro f;induction f with
 |zero=>intro x h;simp at h;subst h;simp[Go.Lib.bitLenAux]
 |succ f ih=>
  intro x h;rw[Go.Lib.bitLenAux];split
  ·rename_i h0;subst h0;simp
  ·obtain⟨h1,h2⟩:=ih (x / 2) (by rw[anu]at h;omega)
   rw[an3,anu];refine⟨qqO,λ_=>?_⟩;by_cases h3:x / 2=0
   ·rw[h3]
    have:∀g,Go.Lib.bitLenAux g 0=0:=λg=>by cases g<;>simp[Go.Lib.bitLenAux]
    rw[this];omega
   ·have:=h2 h3;omega
theorem XY (y:Nat) (h0:0<y) (h:y<W):∃s:Nat,lzI (y:Int)=s/\s≤63/\y*2 ^ s<18446744073709551616/\18446744073709551616≤2*(y*2 ^ s):=by
 obtain⟨h1,h2⟩:=Um 64 y h;have h2:=h2 qqO;have h3:=Ef (y:Int);have e:iH (y:Int)=((Go.Lib.bitLenAux 64 y:Nat):Int):=rfl;have hp:Go.Lib.bitLenAux 64 y≠0:=λh=>by rw[h]at h1;omega
 have hz:lzI (y:Int)+Go.Lib.bitLenAux 64 y=64:=by unfold lzI;omega
 refine⟨_,rfl,qqO,?_,?_⟩;all_goals
  have hpw:2 ^ lzI (y:Int)*2 ^ Go.Lib.bitLenAux 64 y=18446744073709551616:=by rw[<-anI,hz]
  generalize 2 ^ lzI (y:Int)=p at*
  generalize 2 ^ Go.Lib.bitLenAux 64 y=q at*
  have hp0:0<p:=al5 λh=>by subst h;omega
 ·have:=aoo h1 hp0
  rw[alP y p];omega
 ·have:=anS p h2
  have e2:p*(2*y)=2*(y*p):=by grind
  omega
theorem wu (x:Int):IntKind.u64.wrap x=x % 18446744073709551616:=by
 simp only[IntKind.wrap,IntKind.bits,IntKind.signed];simp
theorem st3 {a b u d q:Nat} (hb:b<4294967296) (ha:a<4294967296) (hd:d<4294967296) (hr:u-q*a<4294967296) (hq:q<18446744073709551616):
 IntKind.u64.wrap (IntKind.u64.wrap (4294967296*((u-q*a:Nat):Int))+(d:Int))=((4294967296*(u-q*a)+d:Nat):Int)/\(q<4294967296->IntKind.u64.wrap ((q:Int)*(b:Int))=((q*b:Nat):Int))/\
 IntKind.u64.wrap (((u-q*a:Nat):Int)+(a:Int))=((u-q*a+a:Nat):Int)/\(1≤q->IntKind.u64.wrap ((q:Int)-1)=((q-1:Nat):Int)):=by
 simp only[wu];refine⟨qqO,λh=>?_,qqO,λh=>qqO⟩;rw[<-an9];have:q*b≤4294967295*4294967295:=amy qqO qqO;omega
theorem cs3 {a b u d q:Nat} (ha:0<a) (hu:u<a*4294967296+b) (hb:b<4294967296) (hd:d<4294967296) (hqu:q*a≤u) (hQ:(u*4294967296+d) / (a*4294967296+b)≤q):
 (q=(u*4294967296+d) / (a*4294967296+b)/\q<4294967296/\q*b≤4294967296*(u-q*a)+d)∨
 (1≤q/\(u*4294967296+d) / (a*4294967296+b)≤q-1/\(q<4294967296->4294967296*(u-q*a)+d<q*b)/\(q-1)*a≤u/\u-(q-1)*a=u-q*a+a/\(4294967296≤u-q*a+a->q-1=(u*4294967296+d) / (a*4294967296+b))):=by
 have hr:q*a+(u-q*a)=u:=qqO;have big:=λh=>ahk (q:=q) hu hd hr h;have ok:=λh=>abt (K:=4294967296) (d:=d) (b:=b) (q:=q) qqO hr h;have stop:=λr h1 h2=>(adR (d:=d) (q:=q-1) (r:=r) hu hb h1 h2).1;generalize(u*4294967296+d) / (a*4294967296+b)=Q at*
 by_cases h:4294967296≤q∨4294967296*(u-q*a)+d<q*b
 ·right
  have hlt:=big h;have e:q*a=(q-1)*a+a:=by
   obtain⟨k,rfl⟩:∃k,q=k+1:=⟨q-1,qqO⟩;rw[anw];grind
  have hr':(q-1)*a+(u-q*a+a)=u:=qqO;refine⟨qqO,qqO,λh'=>?_,qqO,qqO,λh'=>?_⟩
  ·rcases h with h|h
   ·omega
   ·exact h
  ·have:=stop _ hr' h'
   omega
 ·left
  have:=ok (aom λh'=>h (.inr h'));exact⟨qqO,qqO,aom λh'=>h (.inr h')⟩
theorem un3 {u d Y:Nat} (hY:Y<18446744073709551616) (h0:0<Y):IntKind.u64.wrap (IntKind.u64.wrap (IntKind.u64.wrap ((u:Int)*4294967296)+(d:Int))-IntKind.u64.wrap ((((u*4294967296+d) / Y:Nat):Int)*(Y:Int)))=(((u*4294967296+d) % Y:Nat):Int):=by
 have h1:=al7 (u*4294967296+d) Y;have h2:=al8 (u*4294967296+d) h0;have e:((((u*4294967296+d) / Y:Nat):Int)*(Y:Int))=((Y*((u*4294967296+d) / Y):Nat):Int):=by rw[an9,Int.mul_comm]
 rw[e];simp only[wu];omega
theorem Un (hi lo y:Nat) (h0:0<hi) (hl:lo<W) (hy:hi<y) (hy2:y<W):aB Tryz.prog 236 [.int .u64 hi,.int .u64 lo,.int .u64 y] (.tup [.int .u64 (((hi*W+lo) / y:Nat):Int),.int .u64 (((hi*W+lo) % y:Nat):Int)]):=by
 unfold W at*;obtain⟨s,hs,hs63,hY1,hY2⟩:=XY y qqO hy2;have E8:IntKind.u64.wrap ((lzI (y:Int):Nat):Int)=((s:Nat):Int):=by rw[hs,dI _ qqO]
 have E9:IntKind.u64.wrap (64-((s:Nat):Int))=((64-s:Nat):Int):=by rw[show(64:Int)-(s:Int)=((64-s:Nat):Int) by omega,dI _ qqO]
 have hpp:2 ^ s*2 ^ (64-s)=18446744073709551616:=by rw[<-anI,show s+(64-s)=64 by omega]
 have hP:((2:Int) ^ s)=((2 ^ s:Nat):Int):=by norm_cast
 have hP2:((2:Int) ^ (64-s))=((2 ^ (64-s):Nat):Int):=by norm_cast
 have hp0:0<2 ^ s:=anx qqO;have hlo:lo / 2 ^ (64-s)<2 ^ s:=by
  rw[al6 (anx qqO),hpp];exact hl
 have hhi:hi*2 ^ s<18446744073709551616:=an4 (al2 _ qqO) hY1;have hor:hi*2 ^ s|||lo / 2 ^ (64-s)=hi*2 ^ s+lo / 2 ^ (64-s):=by
  have:=aop hlo hi;rw[aoq]at this;exact this.symm
 have hsum:hi*2 ^ s+lo / 2 ^ (64-s)<18446744073709551616:=by
  have h1:(hi+1)*2 ^ s≤y*2 ^ s:=al2 _ hy;rw[al3]at h1;omega
 have hlw:lo / 2 ^ (64-s)<18446744073709551616:=an4 (aon _ _) hl;have E11:IntKind.u64.wrap ((alK IntKind.u64.bits ((hi*2 ^ s:Nat):Int)|||alK IntKind.u64.bits ((lo / 2 ^ (64-s):Nat):Int)).toNat:Int)=((hi*2 ^ s+lo / 2 ^ (64-s):Nat):Int):=
  Jg hhi hlw (λi _=>by rw[<-hor,aor]) hsum
 have dv:∀a:Nat,(a:Int) / 2 ^ an8 32=((a / 4294967296:Nat):Int):=λa=>by rw[p32];omega
 have dv2:∀a b:Nat,(a:Int) / (b:Int)=((a / b:Nat):Int):=λa b=>(aol a b).symm;have ml:∀a b:Nat,(a:Int)*(b:Int)=((a*b:Nat):Int):=λa b=>(an9 a b).symm;have d32:an8 32≤IntKind.u64.bits:=qqD;have b64:∀a:Nat,a≤64->a≤IntKind.u64.bits:=λa h=>h;obtain⟨Y,hY⟩:∃Y,Y=y*2 ^ s:=⟨_,rfl⟩;obtain⟨u,hu⟩:∃u,u=hi*2 ^ s+lo / 2 ^ (64-s):=⟨_,rfl⟩;obtain⟨v,hv⟩:∃v,v=lo*2 ^ s % 18446744073709551616:=⟨_,rfl⟩;have hU:(hi*18446744073709551616+lo)*2 ^ s=u*18446744073709551616+v:=by
  have h1:=al7 (lo*2 ^ s) 18446744073709551616;have h2:lo*2 ^ s / 18446744073709551616=lo / 2 ^ (64-s):=by
   rw[<-hpp,<-ant,amM _ hp0]
  rw[hu,hv,<-h2]
  grind
 have hw:v<18446744073709551616:=by rw[hv];exact al8 _ qqO
 have huY:u<Y:=by
  have h1:(hi+1)*2 ^ s≤y*2 ^ s:=al2 _ hy;rw[al3]at h1;omega
 rw[<-hY]at hY1 hY2;have hsplit:=al7 Y 4294967296;have ha:2147483648≤Y / 4294967296:=qqO;have td:∀a b:Nat,(a:Int).tdiv (b:Int)=((a / b:Nat):Int):=λ_ _=>rfl;obtain⟨a,hea⟩:∃a,a=Y / 4294967296:=⟨_,rfl⟩;obtain⟨b,heb⟩:∃b,b=Y % 4294967296:=⟨_,rfl⟩;obtain⟨d1,hd1⟩:∃d1,d1=v / 4294967296:=⟨_,rfl⟩;obtain⟨d0,hd0⟩:∃d0,d0=v % 4294967296:=⟨_,rfl⟩;have hYab:a*4294967296+b=Y:=qqO;have hb:b<4294967296:=qqO;have hd1':d1<4294967296:=qqO;have hd0':d0<4294967296:=qqO;have haK:a<4294967296:=qqO;have ha0:2147483648≤a:=qqO;have hqb:u / a<18446744073709551616:=an4 (aon _ _) qqO;obtain⟨q1,hq1⟩:∃q1,q1=(u*4294967296+d1) / Y:=⟨_,rfl⟩;obtain⟨r1,hr1⟩:∃r1,r1=(u*4294967296+d1) % Y:=⟨_,rfl⟩;have sb:∀m n:Nat,n≤m->(m:Int)-(n:Int)=((m-n:Nat):Int):=λm n h=>qqO;have w1:∀n:Nat,n<18446744073709551616->IntKind.u64.wrap (n:Int)=n:=dI;have hdz:¬IntKind.u64.wrap ((y:Int)*2 ^ (IntKind.u64.wrap ((lzI (y:Int):Nat):Int)).toNat) / 2 ^ an8 32=0:=by
  simp only[E8,anG,hP,ml,<-hY,dI _ hY1,dv];omega
 refine au (md:=2) (rf:=[]) mixed ak sj Tryz.func236 qqR qqR qqR ?_;refine wk8 (λhq hq hq=>?_) (λhq hq hq=>?_) (λhq hq hq=>?_) (λhq hq hq=>?_) (λhq hq hq=>?_) (λhq hq hq=>?_) (λhq hq hq=>?_) λhq hq hq=>?_;all_goals(try exact hdz qqA)
 all_goals(try
  simp only[E8,E9,anG,hP,hP2,ml,dv,dv2,td,dI _ hhi,E11,<-hY,<-hu,dI _ hY1,rX _ hY1,yt,<-hv,rX _ hw,<-hea,<-heb,<-hd1,<-hd0]
  )
 all_goals(try first|exact d32|exact b64 _ qqO|exact Int.natCast_nonneg _|omega)
 rw[<-hYab]at hq1 hr1;have hr1Y:r1<Y:=by rw[hr1,hYab];exact al8 _ qqO
 obtain⟨q0,hq0⟩:∃q0,q0=(r1*4294967296+d0) / (a*4294967296+b):=⟨_,rfl⟩;have hq1K:q1<4294967296:=by rw[hq1];exact abu qqO qqO hd1'
 have hq0K:q0<4294967296:=by rw[hq0];exact abu qqO qqO hd0'
 have U1:=un3 (u:=u) (d:=d1) hY1 qqO;have U0:=un3 (u:=r1) (d:=d0) hY1 qqO;rw[<-hYab,<-hq1,<-hr1,hYab]at U1;rw[<-hYab,<-hq0,hYab]at U0;have hdiv:=Uk (K:=4294967296) (U:=u*18446744073709551616+v) (Y:=Y) qqO qqO;rw[show(u*18446744073709551616+v) / 4294967296=u*4294967296+d1 by omega,show(u*18446744073709551616+v) % 4294967296=d0 by omega,<-hU]at hdiv
 have hback:=uV (x:=hi*18446744073709551616+lo) (y:=y) hp0;rw[<-hY,hdiv.1,hdiv.2]at hback;obtain⟨R1,R2⟩:=hback;rw[<-hYab,<-hq1,<-hr1,<-hq0]at R1;rw[<-hYab,<-hr1,hYab]at R2;have hs2:∀n:Nat,(n:Int) / 2 ^ ((s:Nat):Int).toNat=((n / 2 ^ s:Nat):Int):=λn=>by rw[anG,hP,dv2]
 have R3:IntKind.u64.wrap (IntKind.u64.wrap ((q1:Int)*4294967296)+(q0:Int))=(((hi*18446744073709551616+lo) / y:Nat):Int):=by
  rw[<-R1];simp only[wu];omega
 conv=>whnf
 refine gy (X:=Nat) (λk=>btw 19 134 k) (λq=>q1≤q/\q*a≤u/\u-q*a<4294967296/\q<18446744073709551616) (λq=>[(15,.int .u64 q),(16,.int .u64 (u-q*a:Nat))]) (λq=>[]) (λq=>q) (u / a) ⟨aH,mixed,ak,sj,aN⟩ qqR ?_ ?_ ?_
 ·have h1:=al7 u a
  have h2:=al8 u (show 0<a by omega)
  have e1:u / a*a=a*(u / a):=alP _ _;refine⟨?_,qqO,qqO,hqb⟩;rw[hq1];exact uU qqO qqO hd1'
 ·have h1:=aos u a
  refine wk2 ?_ ?_
  ·rw[alT hqb]
  ·rw[alT hqb,wu,wu,<-an9]
   omega
 intro q ⟨hqQ,hqu,hqr,hqW⟩;obtain⟨F1,F2,F3,F4⟩:=st3 (b:=b) hb haK hd1' hqr hqW;rcases cs3 (d:=d1) qqO qqO hb hd1' hqu (hq1▸hqQ)with⟨c1,c2,c3⟩|⟨c1,c2,c3,c4,c5,c6⟩
 ·rw[<-hq1]at c1
  have F2:=F2 c2;subst c1;refine wk1 λhq hq=>?_;rw[U1];conv=>whnf
  refine gy (X:=Nat) (λk=>btw 19 134 k) (λt=>q0≤t/\t*a≤r1/\r1-t*a<4294967296/\t<18446744073709551616) (λt=>[(18,.int .u64 t),(16,.int .u64 (r1-t*a:Nat))]) (λt=>[]) (λt=>t) (r1 / a) ⟨aH,mixed,ak,sj,aN⟩ qqR ?_ ?_ ?_
  ·have h1:=al7 r1 a
   have h2:=al8 r1 (show 0<a by omega)
   have e1:r1 / a*a=a*(r1 / a):=alP _ _;have h3:=aon r1 a;refine⟨?_,qqO,qqO,qqO⟩;rw[hq0];exact uU qqO qqO hd0'
  ·have h1:=aos r1 a
   have h3:=aon r1 a;refine wk2 ?_ ?_;all_goals(try rw[td])
   all_goals(rw[dI (r1 / a) qqO])
   all_goals(try(rw[wu,wu,<-an9];omega))
  intro t ⟨hqQ,hqu,hqr,hqW⟩;obtain⟨F1,F2,F3,F4⟩:=st3 (b:=b) hb haK hd0' hqr hqW;rcases cs3 (d:=d0) qqO qqO hb hd0' hqu (hq0▸hqQ)with⟨c1,c2,c3⟩|⟨c1,c2,c3,c4,c5,c6⟩
  ·rw[<-hq0]at c1
   have F2:=F2 c2;subst c1;all_goals exact zO
  ·rw[<-hq0]at c2 c6
   have F4:=F4 c1;have hnext:r1-t*a+a<4294967296->q0≤t-1/\(t-1)*a≤r1/\r1-(t-1)*a<4294967296/\t-1<18446744073709551616:=λh=>⟨c2,c4,qqO,qqO⟩;by_cases hK:t<4294967296
   ·have F2:=F2 hK
    have c3:=c3 hK;all_goals exact nD
   ·all_goals exact nD
 ·rw[<-hq1]at c2 c6
  have F4:=F4 c1;have hnext:u-q*a+a<4294967296->q1≤q-1/\(q-1)*a≤u/\u-(q-1)*a<4294967296/\q-1<18446744073709551616:=λh=>⟨c2,c4,qqO,qqO⟩;by_cases hK:q<4294967296
  ·have F2:=F2 hK
   have c3:=c3 hK;refine wk2 (λhq hq hq=>?_) λhq hq hq=>?_
   rotate_left
   all_goals first
    |(refine⟨q-1,[],⟨hnext qqO,qqO⟩,?_⟩;rw[F3,F4,c5];repeat'((conv=>whnf);first|intro _|apply aI|exact aD|apply nM|apply fM);all_goals((try apply vM);(try simp only[vq]at*);try omega))
    |skip
   rw[F4,c6 qqO,U1];conv=>whnf
   refine gy (X:=Nat) (λk=>btw 19 134 k) (λt=>q0≤t/\t*a≤r1/\r1-t*a<4294967296/\t<18446744073709551616) (λt=>[(18,.int .u64 t),(16,.int .u64 (r1-t*a:Nat))]) (λt=>[]) (λt=>t) (r1 / a) ⟨aH,mixed,ak,sj,aN⟩ qqR ?_ ?_ ?_
   ·have h1:=al7 r1 a
    have h2:=al8 r1 (show 0<a by omega)
    have e1:r1 / a*a=a*(r1 / a):=alP _ _;have h3:=aon r1 a;refine⟨?_,qqO,qqO,qqO⟩;rw[hq0];exact uU qqO qqO hd0'
   ·have h1:=aos r1 a
    have h3:=aon r1 a;refine wk2 ?_ ?_;all_goals(try rw[td])
    all_goals(rw[dI (r1 / a) qqO])
    all_goals(try(rw[wu,wu,<-an9];omega))
   intro t ⟨hqQ,hqu,hqr,hqW⟩;obtain⟨F1,F2,F3,F4⟩:=st3 (b:=b) hb haK hd0' hqr hqW;rcases cs3 (d:=d0) qqO qqO hb hd0' hqu (hq0▸hqQ)with⟨c1,c2,c3⟩|⟨c1,c2,c3,c4,c5,c6⟩
   ·rw[<-hq0]at c1
    have F2:=F2 c2;subst c1;all_goals exact zO
   ·rw[<-hq0]at c2 c6
    have F4:=F4 c1;have hnext:r1-t*a+a<4294967296->q0≤t-1/\(t-1)*a≤r1/\r1-(t-1)*a<4294967296/\t-1<18446744073709551616:=λh=>⟨c2,c4,qqO,qqO⟩;by_cases hK:t<4294967296
    ·have F2:=F2 hK
     have c3:=c3 hK;all_goals exact nD
    ·all_goals exact nD
  ·refine wk2 (λhq hq=>?_) λhq hq=>?_
   rotate_left
   all_goals first
    |(refine⟨q-1,[],⟨hnext qqO,qqO⟩,?_⟩;rw[F3,F4,c5];repeat'((conv=>whnf);first|intro _|apply aI|exact aD|apply nM|apply fM);all_goals((try apply vM);(try simp only[vq]at*);try omega))
    |skip
   rw[F4,c6 qqO,U1];conv=>whnf
   refine gy (X:=Nat) (λk=>btw 19 134 k) (λt=>q0≤t/\t*a≤r1/\r1-t*a<4294967296/\t<18446744073709551616) (λt=>[(18,.int .u64 t),(16,.int .u64 (r1-t*a:Nat))]) (λt=>[]) (λt=>t) (r1 / a) ⟨aH,mixed,ak,sj,aN⟩ qqR ?_ ?_ ?_
   ·have h1:=al7 r1 a
    have h2:=al8 r1 (show 0<a by omega)
    have e1:r1 / a*a=a*(r1 / a):=alP _ _;have h3:=aon r1 a;refine⟨?_,qqO,qqO,qqO⟩;rw[hq0];exact uU qqO qqO hd0'
   ·have h1:=aos r1 a
    have h3:=aon r1 a;refine wk2 ?_ ?_;all_goals(try rw[td])
    all_goals(rw[dI (r1 / a) qqO])
    all_goals(try(rw[wu,wu,<-an9];omega))
   intro t ⟨hqQ,hqu,hqr,hqW⟩;obtain⟨F1,F2,F3,F4⟩:=st3 (b:=b) hb haK hd0' hqr hqW;rcases cs3 (d:=d0) qqO qqO hb hd0' hqu (hq0▸hqQ)with⟨c1,c2,c3⟩|⟨c1,c2,c3,c4,c5,c6⟩
   ·rw[<-hq0]at c1
    have F2:=F2 c2;subst c1;all_goals exact zO
   ·rw[<-hq0]at c2 c6
    have F4:=F4 c1;have hnext:r1-t*a+a<4294967296->q0≤t-1/\(t-1)*a≤r1/\r1-(t-1)*a<4294967296/\t-1<18446744073709551616:=λh=>⟨c2,c4,qqO,qqO⟩;by_cases hK:t<4294967296
    ·have F2:=F2 hK
     have c3:=c3 hK;all_goals exact nD
    ·all_goals exact nD
def Cw:PSp:=λxs K=>match xs with
 | [.int .u64 hi,.int .u64 lo,.int .u64 y]=>VC (0≤hi/\hi<y/\0≤lo/\lo<18446744073709551616/\y<18446744073709551616)/\K (.tup [.int .u64 ((hi*18446744073709551616+lo) / y),.int .u64 ((hi*18446744073709551616+lo) % y)])
 |_=>False
theorem Jo:POK Tryz.prog 236 Cw:=by
 intro xs K hk;unfold Cw at hk;split at hk
 ·obtain⟨h1,h2,h3,h4,h5⟩:=hk.1.get
  rename_i hi lo y;obtain⟨X,rfl⟩:=an2 h1;obtain⟨L,rfl⟩:=an2 h3;obtain⟨Y,rfl⟩:=an2 (show 0≤y by omega)
  refine⟨_,hk.2,?_⟩;have e1:(((X:Int)*18446744073709551616+(L:Int)) / (Y:Int))=(((X*W+L) / Y:Nat):Int):=by rw[aol];rfl
  have e2:(((X:Int)*18446744073709551616+(L:Int)) % (Y:Int))=(((X*W+L) % Y:Nat):Int):=by rw[anP];rfl
  rw[e1,e2];by_cases h0:X=0
  ·subst h0
   have:=Ul L Y (by unfold W;omega) qqO (by unfold W;omega)
   simpa using this
  ·exact Un X L Y qqO (by unfold W;omega) qqO (by unfold W;omega)
 ·exact hk.elim
theorem adS {n i x z:Nat} {d e:Int} (hi:i<n) (h1:∀k,k<i->z / W ^ k % W=x / W ^ k % W) (h2:d=((z / W ^ i % W:Nat):Int)) (h3:e=((z / W ^ (i+1) % W:Nat):Int)) (hx:x<W ^ (i+1)) (hz:z<W ^ (i+2)):((dn W n x).set i d).set (i+1) e=dn W n z:=by
 apply anz
 ·simp[dw]
 ·intro k g1 g2
  rw[anD,anD];simp only[dn,anE,anF];split
  ·rename_i h;rw[h3,h]
  ·split
   ·rename_i h;rw[h2,h]
   ·by_cases hk:k<i
    ·rw[h1 k hk]
    ·have hp1:W ^ (i+1)≤W ^ k:=anL qqD qqO
     have hp2:W ^ (i+2)≤W ^ k:=anL qqD qqO;rw[alR qqO,alR qqO]
theorem adT {n i x z:Nat} {d:Int} (hi:i<n) (h1:∀k,k<i->z / W ^ k % W=x / W ^ k % W) (h2:d=((z / W ^ i % W:Nat):Int)) (hx:x<W ^ (i+1)) (hz:z<W ^ (i+1)):(dn W n x).set i d=dn W n z:=by
 apply anz
 ·simp[dw]
 ·intro k g1 g2
  rw[anD];simp only[dn,anE,anF];split
  ·rename_i h;rw[h2,h]
  ·by_cases hk:k<i
   ·rw[h1 k hk]
   ·have hp1:W ^ (i+1)≤W ^ k:=anL qqD qqO
    rw[alR qqO,alR qqO]
theorem shV {x i s:Nat} (hs:s≤63) {n:Nat} (hi:i<n):
 IntKind.u64.wrap ((alK IntKind.u64.bits ((dn W n (x % W ^ i*2 ^ s)).getD i 0)|||alK IntKind.u64.bits (IntKind.u64.wrap ((dl W x).getD i 0*2 ^ s))).toNat:Int)=((x % W ^ (i+1)*2 ^ s / W ^ i % W:Nat):Int)/\
 (dl W x).getD i 0 / 2 ^ (64-(s:Int)).toNat=((x % W ^ (i+1)*2 ^ s / W ^ (i+1) % W:Nat):Int):=by
 have hpr:2 ^ s*2 ^ (64-s)=W:=by rw[<-anI,show s+(64-s)=64 by omega]
 obtain⟨g1,g2,g3,g4,g5⟩:=MO W2 x i hpr;have hp0:0<2 ^ s:=anx qqO;have hxi:=al8 (x / W ^ i) (by decide:W>0)
 have hpW:2 ^ s≤W:=by rw[<-hpr];exact amq _ (anx qqO)
 rw[yg _ _ _ _ hi,bG W2,alT (a:=x % W ^ i*2 ^ s / W ^ i) qqO,g2,g3];generalize x % W ^ i*2 ^ s / W ^ i=o at*
 generalize x / W ^ i % W=t at*
 have eP:((t:Int)*2 ^ s)=((t*2 ^ s:Nat):Int):=by norm_cast
 have em:t*2 ^ s % W=(t % 2 ^ (64-s))*2 ^ s:=by rw[<-hpr,alP (2 ^ s) (2 ^ (64-s)),anU]
 constructor
 ·rw[eP,show IntKind.u64.wrap ((t*2 ^ s:Nat):Int)=((t*2 ^ s % W:Nat):Int)from yt _]
  have:=aop g1 (t % 2 ^ (64-s));rw[aoq,<-em]at this;have hm:=al8 (t*2 ^ s) (by decide:W>0)
  generalize t*2 ^ s % W=m at*
  change m<18446744073709551616 at hm;change IntKind.u64.wrap ((alK IntKind.u64.bits (o:Int)|||alK IntKind.u64.bits (m:Int)).toNat:Int)=_;have ho:o<18446744073709551616:=by unfold W at*;omega
  refine Jg ho hm (λk _=>?_) g5;rw[an3,this,aor,aot]
 ·rw[show((64:Int)-(s:Int)).toNat=64-s by omega]
  have e3:t*2 ^ s / W=t / 2 ^ (64-s):=by rw[<-hpr,<-ant,amM _ hp0]
  rw[e3,alT (an4 (aon _ _) hxi),aol]
  norm_cast
theorem shL {x i s:Nat} (hs:s≤63):x % W ^ i*2 ^ s<W ^ (i+1):=by
 rw[anu];have h1:=al8 x (pw W2 i);have h2:2 ^ s<W:=Nat.pow_lt_pow_right qqO (show s<64 by omega)
 exact aoc h1 h2
theorem XZ (x s:Nat) (hx:(dl W x).length≤400000000000) (hs:s≤63):dN Tryz.prog 238 [.isl (wd x) .none,.int .i64 s] [] [.rsl 0 0 ((dl W x).length+1)] [.cells (.ints .u64 (dn W ((dl W x).length+1) (x*2 ^ s))) false]:=by
 refine eB (md:=3) (rf:=[]) mixed ak aC 0 [(0,0)] Tryz.func238 qqR qqR qqR ?_;refine wk2 ?_ ?_
 ·exact .inl trivial
 conv=>whnf
 refine aR (X:=Nat) (λi=>i≤(dl W x).length) (λi=>[(14,.int .i64 i)]) (λi=>[(0,.cells (.ints .u64 (dn W ((dl W x).length+1) (x % W ^ i*2 ^ s))) false)]) (λi=>(dl W x).length-i) 0 ⟨aH,mixed,ak,aC,aN⟩ qqR qqO ?_ ?_
 ·refine wk1 ?_
  rw[show x % W ^ 0*2 ^ s=0 by rw[aod,amc,amo],kL,show(((dl W x).length:Int)+1).toNat=(dl W x).length+1 by omega]
 intro i hi;have hm0:=dw W ((dl W x).length+1) (x % W ^ i*2 ^ s);by_cases e:i=(dl W x).length
 ·subst e
  refine wk1 λhq=>?_;rw[alT (bU W2 x)]
 ·have hr1:=rG x i
  obtain⟨V1,V2⟩:=shV (x:=x) (i:=i) (n:=(dl W x).length+1) hs qqO;have low:∀k,k<i->x % W ^ (i+1)*2 ^ s / W ^ k % W=x % W ^ i*2 ^ s / W ^ k % W:=(MO W2 x i (p:=2 ^ s) (r:=2 ^ (64-s)) (by rw[<-anI,show s+(64-s)=64 by omega])).2.2.2.1
  have b64:∀a:Nat,a≤64->a≤IntKind.u64.bits:=λa h=>h;by_cases hs0:s=0
  ·subst hs0
   refine wk1 λhq hq=>?_;rw[V1,adT qqO low rfl (shL (s:=0) qqO) (by rw[aod,alV];exact al8 _ (pw W2 _))]
   refine⟨i+1,[],⟨qqO,qqO⟩,?_⟩;rw[show((i+1:Nat):Int)=(i:Int)+1 by omega]
   exact wk0;all_goals skip
  ·refine wk4 (λhq=>?_) (λhq hq=>?_) (λhq hq=>?_) λhq hq=>?_
   all_goals first
    |exact b64 _ qqO
    |(rw[alZ,hm0];omega)
    |(rw[V1,V2,show((i:Int)+1).toNat=i+1 by omega,adS qqO low rfl rfl (shL hs) (shL hs)]
      refine⟨i+1,[],⟨qqO,qqO⟩,?_⟩;rw[show((i+1:Nat):Int)=(i:Int)+1 by omega]
      exact wk0;all_goals skip)
def X0:LSp:=λxs objs K=>match xs,objs with
 | [.isl (.ints .u64 l) .none,.int .i64 s],[]=>VC (Dw l/\l.length≤400000000000/\0≤s/\s≤63)/\K [.rsl 0 0 (l.length+1)] [.cells (.ints .u64 (dn W (l.length+1) (vw l*2 ^ s.toNat))) false]
 |_,_=>False
end Go.Eng.YtmkagljofpddpaaGreatDoor
namespace Go.Eng.Dig
set_option linter.unusedSimpArgs false
set_option linter.unusedVariables false
def sg (B n j i d z:Nat):List Int:=(alA n).map λk=>if j≤k/\k<j+i then((d / B ^ (k-j) % B:Nat):Int)else((z / B ^ k % B:Nat):Int)
theorem su (B n j i d z:Nat):(sg B n j i d z).length=n:=by simp[sg]
theorem pJ (B n j i d z k:Nat) (h:k<n):(sg B n j i d z).getD k 0=if j≤k/\k<j+i then((d / B ^ (k-j) % B:Nat):Int)else((z / B ^ k % B:Nat):Int):=by
 simp[sg,alC,h]
theorem yE (B n j d z:Nat):sg B n j 0 d z=dn B n z:=by
 unfold sg dn;refine anC λk hk=>?_;rw[if_neg qqO]
theorem mJ {B n j i d z:Nat} (h:j+i<n) {x:Int} (hx:x=((d / B ^ i % B:Nat):Int)):(sg B n j i d z).set (j+i) x=sg B n j (i+1) d z:=by
 apply anz
 ·simp[su]
 ·intro k h1 h2
  rw[anD];simp only[sg,anE,anF];split
  ·subst_vars;rw[if_pos qqO,show j+i-j=i by omega]
  ·split<;>split<;>first|rfl|omega
theorem Cx {B n j i z r:Nat} (hB:2≤B) (hr:r<B ^ i) (hz:z / B ^ (j+i)=0) {d:Nat} (hd:∀k,k<i->d / B ^ k % B=r / B ^ k % B):sg B n j i d z=dn B n (z % B ^ j+r*B ^ j):=by
 have hp:=pw hB j;have hm:=al8 z hp;unfold sg dn;refine anC λk hk=>?_;congr 1;by_cases h1:k<j
 ·rw[if_neg qqO]
  congr 1
  obtain⟨t,rfl⟩:∃t,j=k+(t+1):=⟨j-k-1,qqO⟩;have e:z % B ^ (k+(t+1))+r*B ^ (k+(t+1))=z % B ^ (k+(t+1))+(r*B ^ t*B)*B ^ k:=by rw[anI B k (t+1),anu];grind
  rw[e,anM _ _ (pw hB k),anR,TM B z (k+(t+1)) k qqO]
 ·obtain⟨t,rfl⟩:∃t,k=j+t:=⟨k-j,qqO⟩
  have e:(z % B ^ j+r*B ^ j) / B ^ (j+t)=r / B ^ t:=by
   rw[anI,<-ant,anM _ _ hp,alR hm,alO]
  rw[e];by_cases h2:t<i
  ·rw[if_pos qqO,show j+t-j=t by omega,hd t h2]
  ·rw[if_neg qqO]
   congr 1
   have h3:z / B ^ (j+t)=0:=by
    obtain⟨s,rfl⟩:∃s,t=i+s:=⟨t-i,qqO⟩;rw[<-alk,anI,<-ant,hz,Nat.zero_div]
   have h4:r / B ^ t=0:=alR (alp hr (anL qqO qqO));rw[h3,h4]
def qc (B q v i:Nat):Nat:=q*(v % B ^ i) / B ^ i
theorem adU (B q v:Nat):qc B q v 0=0:=by simp[qc,amc]
theorem Uo {B:Nat} (hB:2≤B) (q v i:Nat):q*(v % B ^ (i+1)) / B ^ i=q*(v / B ^ i % B)+qc B q v i:=by
 rw[lq,Nat.mul_add,<-anW,anM _ _ (pw hB i)];unfold qc;omega
theorem adV {B:Nat} (hB:2≤B) (q v i:Nat):(q*(v / B ^ i % B)+qc B q v i) / B=qc B q v (i+1):=by
 rw[<-Uo hB,ant];rfl
theorem ahl {B:Nat} (hB:2≤B) (q v i:Nat):(q*(v / B ^ i % B)+qc B q v i) % B=q*v / B ^ i % B:=by
 rw[<-Uo hB,<-anJ,<-anJ,<-anu,anV,anO,<-anV]
theorem Qx {B:Nat} (hB:2≤B) {q:Nat} (hq:q<B) (v i:Nat):qc B q v i<B:=by
 unfold qc;rw[al6 (pw hB i)];have h1:=al8 v (pw hB i);by_cases h0:q=0
 ·subst h0;rw[amo];exact anX qqO (pw hB i)
 ·exact alp (aoo h1 qqO) (al2 _ qqO)
theorem ahm {B q v n:Nat} (hv:v<B ^ n):qc B q v n=q*v / B ^ n:=by unfold qc;rw[alT hv]
theorem Cy {B:Nat} (hB:2≤B) (t m i:Nat) (h:i<m):(t+B ^ m) / B ^ i % B=t / B ^ i % B:=by
 obtain⟨s,rfl⟩:∃s,m=i+(s+1):=⟨m-i-1,qqO⟩;rw[show t+B ^ (i+(s+1))=t+(B ^ s*B)*B ^ i by rw[anI,anu];grind,anM _ _ (pw hB i),anR]
theorem aiZ {B:Nat} (hB:2≤B) (t m y i:Nat) (h:i≤m):bo B (t+B ^ m) y i=bo B t y i:=by
 obtain⟨s,rfl⟩:∃s,m=i+s:=⟨m-i,qqO⟩;unfold bo;rw[show t+B ^ (i+s)=t+B ^ s*B ^ i by rw[anI];grind,anR]
theorem MX {B:Nat} (hB:2≤B) {t m y:Nat} (hy:y≤t+B ^ m) {i:Nat} (hi:i<m):(((t / B ^ i % B:Nat):Int)-((y / B ^ i % B:Nat):Int)-(bo B t y i:Int)) % B=(((t+B ^ m-y) / B ^ i % B:Nat):Int):=by
 rw[<-Jb hB hy,Cy hB t m i hi,aiZ hB t m y i qqO]
end Go.Eng.Dig
namespace Go.Eng.YtmkagljofpddpaaGreatDoor
open Go.Proofs Go.Eng.Dig
set_option linter.unusedSimpArgs false
set_option linter.unusedVariables false
set_option maxHeartbeats 0
set_option maxRecDepth 100000
theorem ahn:LOK Tryz.prog 238 X0:=by
 intro xs objs K hk;unfold X0 at hk;split at hk
 ·rename_i l s
  obtain⟨h1,h2,h3,h4⟩:=hk.1.get;obtain⟨x,rfl⟩:=fq h1;obtain⟨t,rfl⟩:=an2 h3;refine⟨_,_,hk.2,?_⟩;rw[dP];exact XZ x t h2 qqO
 ·exact hk.elim
noncomputable def ajX:CPT:=ay 189 (aJ rY) (ay 231 (aJ wT) (ay 233 (aJ Cr) (ay 236 (aJ Cw) noC)))
theorem yF:aZ Tryz.prog ajX:=aj (aA uN) (aj (oq zT) (aj (oq Je) (aj (aA Jo) aC)))
theorem Qy {V T n:Nat} (hn:(dl W V).length=n) (hn2:2≤n) (hT:T<W*V):∃u0 u1 u2 v1 v2:Nat,T / W ^ n % W=u0/\T / W ^ (n-1) % W=u1/\T / W ^ (n-2) % W=u2/\V / W ^ (n-1) % W=v1/\V / W ^ (n-2) % W=v2/\
 u0<W/\u1<W/\u2<W/\v1<W/\v2<W/\1≤v1/\u0≤v1/\(∀q,u0*W+u1+1≤(q+1)*v1->T / V≤q)/\(∀q,(u0*W+u1)*W+u2<q*(v1*W+v2)->T / V<q)/\(∀q,q≤W->q*(v1*W+v2)≤(u0*W+u1)*W+u2->q≤T / V+1):=by
 obtain⟨m,rfl⟩:∃m,n=m+2:=⟨n-2,qqO⟩;rw[show m+2-1=m+1 by omega,show m+2-2=m by omega]
 have hVl:=bU W2 V;rw[hn]at hVl;have hVg:=jI W2 V (m+1) hn;have hW:0<W:=qqD;have p0:=pw W2 m;have p1:=pw W2 (m+1);have hTl:T<W ^ (m+3):=by
  have:W*V≤W*W ^ (m+2):=anS _ qqO;rw[anu W (m+2),alP];omega
 have tU:=gT W T m;have tU1:=gT W T (m+1);have tU2:=gT W T (m+2);have tU3:T / W ^ (m+3)=0:=alR hTl;have tV:=gT W V m;have tV1:=gT W V (m+1);have tV2:V / W ^ (m+2)=0:=alR hVl;have l0:=al8 (T / W ^ (m+2)) hW;have l1:=al8 (T / W ^ (m+1)) hW;have l2:=al8 (T / W ^ m) hW;have l3:=al8 (V / W ^ (m+1)) hW;have l4:=al8 (V / W ^ m) hW;have q1:1≤V / W ^ (m+1):=(al9 p1).2 qqO;have d0:=al7 T (W ^ m);have m0:=al8 T p0;have d1:=al7 T (W ^ (m+1));have m1:=al8 T p1;have e0:=al7 V (W ^ m);have n0:=al8 V p0;have e1:=al7 V (W ^ (m+1));have n1:=al8 V p1;rw[show m+2+1=m+3 from rfl,tU3,amo,alO]at tU2;rw[show m+1+1=m+2 from rfl,tV2,amo,alO]at tV1;rw[show m+1+1=m+2 from rfl]at tU1;rw[<-tU2]at l0;rw[<-tV1]at l3;have hu0:T / W ^ (m+2)≤V / W ^ (m+1):=by
  have:T / W ^ (m+2)=T / W / W ^ (m+1):=by rw[ant,anu W (m+1),alP]
  rw[this];exact anK (anZ ((al6 hW).2 (by rw[alP];exact hT)))
 refine⟨_,_,_,_,_,rfl,rfl,rfl,rfl,rfl,?_⟩;rw[<-tU2,<-tV1];refine⟨l0,l1,l2,l3,l4,q1,hu0,λq hq=>?_,λq hq=>?_,λq hq h=>?_⟩
 ·rw[<-tU1]at hq
  exact XL (B:=W) (p:=W ^ (m+1)) (u1:=T / W ^ (m+1)) (v1:=V / W ^ (m+1)) (by rw[alP];exact aou T p1) (aos _ _) hq
 ·rw[<-tU1,<-tU,<-tV]at hq
  exact Cn (p:=W ^ m) (u2:=T / W ^ m) (v2:=V / W ^ m) (by rw[alP];exact aou T p0) (aos _ _) hq
 ·rw[<-tU1,<-tU,<-tV]at h
  refine Co (B:=W) (p:=W ^ m) (u2:=T / W ^ m) (v2:=V / W ^ m) (w:=V % W ^ m) (aos _ _) (aov V (W ^ m)).symm n0 ?_ hq h;have h1:1*W≤V / W ^ (m+1)*W:=al2 _ q1;rw[al4]at h1;rw[tV];exact als h1 (Nat.le_add_right _ _)
theorem ai0 {V Z L j T q D:Nat} (hTT:Z / W ^ j=T) {n:Nat} (hD:D=T+W ^ (n+1)-q*V) (hqV:q*V≤T+W ^ (n+1)) (hq:q<W) {i:Nat} (hi:i≤n) (hj:j+n+1≤L):
 ∃P O:Int,(q:Int)*(dl W V).getD i 0=P/\(sg W L j i D Z).getD (j+i) 0=O/\0≤P/\P≤340282366920938463426481119284349108225/\0≤O/\O<18446744073709551616/\
 IntKind.u64.wrap (P / 18446744073709551616+(P % 18446744073709551616+(qc W q V i:Nat)+0) / 18446744073709551616)=(qc W q V (i+1):Nat)/\
 (O-(P % 18446744073709551616+(qc W q V i:Nat)+0) % 18446744073709551616-(bo W T (q*V) i:Nat)) % 18446744073709551616=((D / W ^ i % W:Nat):Int)/\
 (if O<(P % 18446744073709551616+(qc W q V i:Nat)+0) % 18446744073709551616+(bo W T (q*V) i:Nat)then(1:Int)else 0)=(bo W T (q*V) (i+1):Nat):=by
 refine⟨((q*(V / W ^ i % W):Nat):Int),((T / W ^ i % W:Nat):Int),?_,?_,?_⟩
 ·rw[bG W2,an9]
 ·rw[pJ _ _ _ _ _ _ _ qqO,if_neg qqO,anI,<-ant,hTT]
 ·have e1:=adV W2 q V i
  have e2:=ahl W2 q V i;have e3:=yj W2 T (q*V) i;have e4:=MX W2 hqV (i:=i) qqO;rw[<-hD]at e4;have h1:=al8 (T / W ^ i) (by decide:W>0)
  have h2:=al8 (V / W ^ i) (by decide:W>0)
  have h4:=amy (show q≤18446744073709551615 by unfold W at*;omega) (show V / W ^ i % W≤18446744073709551615 by unfold W at*;omega)
  have h5:=Qx W2 hq V i;have h6:=Ck W T (q*V) i;rw[<-e4,e3,<-e2,<-e1];clear e1 e2 e3 e4;generalize q*(V / W ^ i % W)=a at*
  generalize T / W ^ i % W=b at*
  generalize qc W q V i=c at*
  generalize bo W T (q*V) i=g at*
  unfold W at*;refine⟨qqO,qqO,qqO,qqO,by rw[wu];omega,qqO,?_⟩
  split<;>split<;>omega
theorem ai1 {V Z L j T q D:Nat} (hTT:Z / W ^ j=T) {n:Nat} (hV:V<W ^ n) (hD:D=T+W ^ (n+1)-q*V) (hqV:q*V≤T+W ^ (n+1)) (hq:q<W) (hj:j+n+1≤L):
 ∃O:Int,(sg W L j n D Z).getD (j+n) 0=O/\0≤O/\O<18446744073709551616/\(O-(qc W q V n:Nat)-(bo W T (q*V) n:Nat)) % 18446744073709551616=((D / W ^ n % W:Nat):Int)/\
 (if O<(qc W q V n:Nat)+(bo W T (q*V) n:Nat)then(1:Int)else 0)=(bo W T (q*V) (n+1):Nat):=by
 refine⟨((T / W ^ n % W:Nat):Int),?_,?_⟩
 ·rw[pJ _ _ _ _ _ _ _ qqO,if_neg qqO,anI,<-ant,hTT]
 ·have e2:qc W q V n=q*V / W ^ n % W:=by
   have:=Qx W2 hq V n;rw[ahm hV]at this⊢;exact(alT this).symm
  have e3:=yj W2 T (q*V) n;have e4:=MX W2 hqV (i:=n) qqO;rw[<-hD,<-e2]at e4;rw[<-e2]at e3;have h1:=al8 (T / W ^ n) (by decide:W>0)
  rw[<-e4,e3];generalize T / W ^ n % W=b at*
  generalize qc W q V n=c at*
  generalize bo W T (q*V) n=g at*
  unfold W at*;refine⟨qqO,qqO,rfl,?_⟩;split<;>split<;>omega
theorem ai2 {V D r n k:Nat} (hDV:D+V=r+W ^ (n+1)) (hk:k≤n):(((D / W ^ k % W:Nat):Int)+(dl W V).getD k 0+(ca W D V k:Nat)) % 18446744073709551616=((r / W ^ k % W:Nat):Int)/\(((D / W ^ k % W:Nat):Int)+(dl W V).getD k 0+(ca W D V k:Nat)) / 18446744073709551616=(ca W D V (k+1):Nat):=by
 have e1:=wP W2 D V k;have e2:=rT W2 D V k;rw[hDV,Cy W2 r (n+1) k qqO]at e1;rw[bG W2,<-e1,<-e2];generalize D / W ^ k % W=a
 generalize V / W ^ k % W=b
 generalize ca W D V k=c
 unfold W;omega
theorem Uq (V Z L j:Nat) (hn2:2≤(dl W V).length) (hj:j+(dl W V).length+1≤L) (hL:L≤900000000000) (hT:Z / W ^ j<W*V):
 dN Tryz.prog 239 [.rsl 0 j ((dl W V).length+1),.isl (wd V) .none] [.cells (.ints .u64 (dn W L Z)) false] [.int .u64 ((Z / W ^ j / V:Nat):Int)] [.cells (.ints .u64 (dn W L (Z % W ^ j+Z / W ^ j % V*W ^ j))) false]:=by
 have hU:∀k,k≤(dl W V).length->(dn W L Z).getD (j+k) 0=((Z / W ^ j / W ^ k % W:Nat):Int):=λk hk=>by
  rw[yg _ _ _ _ qqO,anI,ant]
 have hlen:=dw W L Z;generalize hTT:Z / W ^ j=T at*
 obtain⟨u0,u1,u2,v1,v2,a0,a1,a2,b1,b2,l0,l1,l2,m1,m2,hv1,huv,gA,gB,gC⟩:=Qy rfl hn2 hT;have H0:(dn W L Z).getD (j+(dl W V).length) 0=(u0:Int):=by rw[hU _ (alo _),a0]
 have H1:(dn W L Z).getD (j+(((dl W V).length:Int)-1).toNat) 0=(u1:Int):=by rw[show(((dl W V).length:Int)-1).toNat=(dl W V).length-1 by omega,hU _ qqO,a1]
 have H2:(dn W L Z).getD (j+(((dl W V).length:Int)-2).toNat) 0=(u2:Int):=by rw[show(((dl W V).length:Int)-2).toNat=(dl W V).length-2 by omega,hU _ qqO,a2]
 have G1:(dl W V).getD (((dl W V).length:Int)-1).toNat 0=(v1:Int):=by rw[show(((dl W V).length:Int)-1).toNat=(dl W V).length-1 by omega,bG W2,b1]
 have G2:(dl W V).getD (((dl W V).length:Int)-2).toNat 0=(v2:Int):=by rw[show(((dl W V).length:Int)-2).toNat=(dl W V).length-2 by omega,bG W2,b2]
 clear a0 a1 a2 b1 b2;have l0':u0<18446744073709551616:=l0;have l1':u1<18446744073709551616:=l1;have l2':u2<18446744073709551616:=l2;have m1':v1<18446744073709551616:=m1;have m2':v2<18446744073709551616:=m2;have gA':∀q,u0*18446744073709551616+u1+1≤(q+1)*v1->T / V≤q:=gA;have gB':∀q,(u0*18446744073709551616+u1)*18446744073709551616+u2<q*(v1*18446744073709551616+v2)->T / V<q:=gB;have gC':∀q,q≤18446744073709551616->q*(v1*18446744073709551616+v2)≤(u0*18446744073709551616+u1)*18446744073709551616+u2->q≤T / V+1:=gC;clear gA gB gC l0 l1 l2 m1 m2;obtain⟨t2,ht2⟩:∃t2,t2=u0*18446744073709551616+u1:=⟨_,rfl⟩;rw[<-ht2]at gA' gB' gC';have hstart:∃Q0,(T / V≤Q0/\Q0<18446744073709551616/\Q0*v1≤t2/\t2-Q0*v1<36893488147419103232)/\(v1≤u0->Q0=18446744073709551615/\t2-Q0*v1=v1+u1)/\(u0<v1->Q0=t2 / v1/\t2-Q0*v1=t2 % v1):=by
  by_cases hb:v1≤u0
  ·have:u0=v1:=qqO
   refine⟨18446744073709551615,⟨by have:=Nat.div_lt_of_lt_mul (show T<V*18446744073709551616 by rw[alP];exact hT);omega,qqO,qqO,qqO⟩,λ_=>⟨rfl,qqO⟩,λh=>absurd h qqO⟩
  ·have hd:=al7 t2 v1
   have hm:=al8 t2 hv1;have hc:t2 / v1*v1=v1*(t2 / v1):=alP _ _;have hq1:t2 / v1<18446744073709551616:=by
    rw[al6 hv1];omega
   refine⟨t2 / v1,⟨gA' _ (by rw[al3];omega),qqO,qqO,qqO⟩,λh=>absurd h hb,λ_=>⟨rfl,qqO⟩⟩
 obtain⟨Q0,hI0,hs1,hs2⟩:=hstart;refine eB (md:=3) (rf:=[]) mixed ak yF 1 [] Tryz.func239 qqR qqR qqR ?_;refine wk2 (λhq=>?_) λhq=>?_;all_goals(try(refine⟨qqO,qqO,qqO,qqO,qqO⟩))
 all_goals(try(refine⟨qqO,qqO,qqO,qqO⟩))
 all_goals(conv=>whnf)
 all_goals(refine gy (X:=Nat) (λk=>btw 19 185 k) (λq=>T / V≤q/\q<18446744073709551616/\q*v1≤t2/\t2-q*v1<36893488147419103232) (λq=>[(6,.int .u64 q),(7,.int .u64 ((t2-q*v1) % 18446744073709551616:Nat)),(8,.int .u64 ((t2-q*v1) / 18446744073709551616:Nat)),(9,.any),(10,.any)]) (λq=>[]) (λq=>q) Q0 ⟨aH,mixed,ak,yF,aN⟩ qqR hI0 ?_ ?_)
 ·obtain⟨e1,e2⟩:=hs1 qqO
  exact wk0;all_goals first
   |(rw[e1];rfl)
   |(rw[e2];try omega)
 rotate_left
 ·obtain⟨e1,e2⟩:=hs2 qqO
  have hm:=al8 t2 hv1;have t2I:(u0:Int)*18446744073709551616+(u1:Int)=((t2:Nat):Int):=qqO;refine wk2 ?_ ?_
  ·rw[H0,H1,G1,t2I,e1];try rfl
  ·rw[H0,H1,G1,t2I,e2,alT qqO];try rfl
  all_goals(rw[e2,alR qqO];try rfl)
 all_goals
  intro q ⟨hqQ,hqW,hqt,hqr⟩;have hF:(q:Int)*(dl W V).getD (((dl W V).length:Int)-2).toNat 0=((q*v2:Nat):Int):=by rw[G2,an9]
  have hqv:q*v2≤18446744073709551615*18446744073709551615:=amy qqO qqO;have eV:q*(v1*18446744073709551616+v2)=q*v1*18446744073709551616+q*v2:=by grind
  have gB:=gB' q;have gC:=gC' q qqO;rw[eV]at gB gC;have eq1:1≤q->(q-1)*v1=q*v1-v1:=λh=>by rw[Nat.sub_mul,al4]
  have hq1v:1≤q->v1≤q*v1:=λh=>aow _ h;have hq0:(t2-q*v1)*18446744073709551616+u2<q*v2->1≤q:=λh=>al5 λh0=>by subst h0;omega
  have hw1:1≤q->IntKind.u64.wrap ((q:Int)-1)=((q-1:Nat):Int):=λh=>by rw[wu];omega
 all_goals
  by_cases hov:(t2-q*v1) / 18446744073709551616=0
 all_goals(try(
  by_cases hpass:q*v2≤(t2-q*v1)*18446744073709551616+u2))
 all_goals repeat'((conv=>whnf);first|(intro hq;(try simp only[vw]at hq);try exact aV hq)|apply aI|exact aD|apply nM|apply fM)
 all_goals all_goals((try apply vM);(try simp only[vq]at*);try omega)
 all_goals(try(
  refine⟨q-1,[],⟨⟨qqO,qqO,qqO,qqO⟩,qqO⟩,?_⟩;rw[hw1 qqO,G1]
  repeat'((conv=>whnf);first|intro _|apply aI|exact aD|apply nM|apply fM)
  all_goals((try apply vM);(try simp only[vq]at*);try omega)))
 all_goals
  have hqT:q≤T / V+1:=by
   by_cases hov':(t2-q*v1) / 18446744073709551616=0
   ·exact gC qqO
   ·exact gC qqO
  obtain⟨D,hD⟩:∃D,D=T+W ^ ((dl W V).length+1)-q*V:=⟨_,rfl⟩;have hVl:=bU W2 V;have hV0:0<V:=al5 λh=>by subst h;simp[ji]at hn2
  have hTV:T / V*V≤T:=aos _ _;have hqV1:q*V≤(T / V+1)*V:=al2 _ hqT;have hVW:V<W ^ ((dl W V).length+1):=alp hVl (anL qqD qqO);have hqV:q*V≤T+W ^ ((dl W V).length+1):=by rw[al3,al4]at hqV1;omega
  have hTl:T<W ^ ((dl W V).length+1):=alp hT (by rw[anu,alP];exact al2 _ (anZ hVl))
  have hql:q*V<W ^ ((dl W V).length+1):=by rw[anu,alP];exact aoc hVl hqW
  have hbl:bo W T (q*V) ((dl W V).length+1)=if T<q*V then 1 else 0:=by unfold bo;rw[alT hTl,alT hql]
  clear gA' gB' gC' gB gC eV eq1 hq1v hq0 hs1 hs2 hI0 hqt hqr H0 H1 H2 G1 G2 hF hqv hqV1 hTV;conv=>whnf
  refine gy (X:=Nat) (λk=>btw 19 103 k||btw 106 185 k) (λi=>i≤(dl W V).length) (λi=>[(105,.int .i64 i),(11,.int .u64 (bo W T (q*V) i:Nat)),(12,.int .u64 (qc W q V i:Nat)),(13,.any),(14,.any),(15,.any),(16,.any)]) (λi=>[(0,.cells (.ints .u64 (sg W L j i D Z)) false)]) (λi=>(dl W V).length-i) 0 ⟨aH,mixed,ak,yF,aN⟩ qqR qqO ?_ ?_
  ·refine wk3 ?_ ?_ ?_
   all_goals first|(rw[DR];rfl)|(rw[adU];rfl)|(rw[yE])
  intro i hi;have hm:=su W L j i D Z;have hqc:qc W q V i<18446744073709551616:=Qx W2 hqW V i;have hbo:=Ck W T (q*V) i;have hv:=rG V i;by_cases e:i=(dl W V).length
  ·subst e
   obtain⟨O,e1,o0,o1,E1,E2⟩:=ai1 hTT hVl hD hqV hqW hj;rw[<-e1]at E2;by_cases hlt:T<q*V
   ·rw[hbl,if_pos hlt]at E2
    have hq1:q=T / V+1:=by
     have:¬q≤T / V:=λh=>by
      have:=(al9 hV0).1 h;omega
     omega
    have hwq:IntKind.u64.wrap ((q:Int)-1)=((T / V:Nat):Int):=by
     have:(q:Int)-1=((T / V:Nat):Int):=by rw[hq1];omega
     rw[this,dI _ qqO]
    have hqm:q*V=T / V*V+V:=by rw[hq1,al3,al4]
    have hdm:=aov T V;obtain⟨r,hr⟩:∃r,r=T % V:=⟨_,rfl⟩;rw[<-hr]at hdm⊢;have hrV:r<V:=by rw[hr];exact al8 _ hV0
    have hDV:D+V=r+W ^ ((dl W V).length+1):=qqO;have hDl:D<W ^ ((dl W V).length+1):=qqO;have hz0:Z / W ^ (j+((dl W V).length+1))=0:=by rw[anI,<-ant,hTT];exact alR hTl
    obtain⟨Z2,hZ2⟩:∃Z2,Z2=Z % W ^ j+D*W ^ j:=⟨_,rfl⟩;have hZ2d:Z2 / W ^ j=D:=by rw[hZ2,anM _ _ (pw W2 j),alR (al8 _ (pw W2 j)),alO]
    have hZ2m:Z2 % W ^ j=Z % W ^ j:=by rw[hZ2,anR,anO]
    have hz2:Z2 / W ^ (j+((dl W V).length+1))=0:=by rw[anI,<-ant,hZ2d];exact alR hDl
    have hall:sg W L j ((dl W V).length+1) D Z=sg W L j 0 r Z2:=by rw[yE,hZ2];exact Cx W2 hDl hz0 (λ_ _=>rfl)
    have hfin:sg W L j ((dl W V).length+1) r Z2=dn W L (Z % W ^ j+r*W ^ j):=by rw[<-hZ2m];exact Cx W2 qqO hz2 (λ_ _=>rfl)
    have hg:∀k,k≤(dl W V).length->(sg W L j k r Z2).getD (j+k) 0=((D / W ^ k % W:Nat):Int):=λk hk=>by
     rw[pJ _ _ _ _ _ _ _ qqO,if_neg qqO,anI,<-ant,hZ2d]
    refine wk1 λhq hq=>?_;rw[e1,E1,mJ qqO rfl];conv=>whnf
    refine gy (X:=Nat) (λk=>btw 19 103 k||btw 106 155 k||btw 158 185 k) (λk=>k≤(dl W V).length) (λk=>[(157,.int .i64 k),(17,.int .u64 (ca W D V k:Nat)),(18,.any)]) (λk=>[(0,.cells (.ints .u64 (sg W L j k r Z2)) false)]) (λk=>(dl W V).length-k) 0 ⟨aH,mixed,ak,yF,aN⟩ qqR qqO ?_ ?_
    ·refine wk1 ?_
     all_goals first|(rw[rR];rfl)|exact hall
    intro k hk;have hm2:=su W L j k r Z2;have hck:=nT W2 D V k;have hvk:=rG V k;have hgk:=hg k hk;obtain⟨A1,A2⟩:=ai2 (k:=k) hDV hk;have hDk:D / W ^ k % W<18446744073709551616:=al8 _ qqD;by_cases e:k=(dl W V).length
    ·subst e
     have hv0:(dl W V).getD (dl W V).length 0=0:=by rw[alC,anA (alo _)];rfl
     rw[hv0,Int.add_zero]at A1;refine wk1 λhq=>?_;all_goals first
      |exact hwq
      |(rw[hwq])
      |(rw[hgk,wu,A1,mJ qqO rfl,hfin])
    ·refine wk1 λhq=>?_
     all_goals(try rw[hgk])
     all_goals first
      |omega
      |(refine⟨qqO,qqO,qqO,qqO⟩)
      |(rw[A1,A2,mJ qqO rfl]
        refine⟨k+1,[],⟨qqO,qqO⟩,?_⟩;rw[show((k+1:Nat):Int)=(k:Int)+1 by omega]
        exact wk0;all_goals skip)
   ·rw[hbl,if_neg hlt]at E2
    have hq':q=T / V:=by
     have:=(al9 hV0).2 (aom hlt);omega
    have hdm:=aov T V;have hrV:T % V<V:=al8 _ hV0;have hDr:D=T % V+W ^ ((dl W V).length+1):=by rw[hD,hq'];omega
    have hz0:Z / W ^ (j+((dl W V).length+1))=0:=by rw[anI,<-ant,hTT];exact alR hTl
    have hfin0:sg W L j ((dl W V).length+1) D Z=dn W L (Z % W ^ j+T % V*W ^ j):=Cx W2 qqO hz0 (λk hk=>by rw[hDr];exact Cy W2 _ _ _ hk)
    refine wk1 λhq hq=>?_;all_goals first
     |(rw[e1];refine⟨qqO,qqO,qqO,qqO,qqO,qqO⟩)
     |(rw[e1,E1,mJ qqO rfl];exact hfin0)
     |(rw[hq'])
  ·obtain⟨P,O,e1,e2,p0,p1,o0,o1,E1,E2,E3⟩:=ai0 (i:=i) hTT hD hqV hqW qqO hj
   refine wk1 λhq=>?_;all_goals(try rw[e1])
   all_goals(try rw[e2])
   all_goals first
    |omega
    |(rw[E1,E2,E3,mJ qqO rfl]
      refine⟨i+1,[],⟨qqO,qqO⟩,?_⟩;rw[show((i+1:Nat):Int)=(i:Int)+1 by omega]
      exact wk0;all_goals skip)
end Go.Eng.YtmkagljofpddpaaGreatDoor
namespace Go.Eng.Dig
set_option linter.unusedSimpArgs false
set_option linter.unusedVariables false
def zd (B X V k:Nat):Nat:=X % B ^ k+X / B ^ k % V*B ^ k
theorem Jp {B:Nat} (hB:2≤B) (X V j:Nat):zd B X V (j+1) / B ^ j=X / B ^ (j+1) % V*B+X / B ^ j % B:=by
 have hp:=pw hB j;have h1:=al8 X hp;unfold zd;rw[lq,anu,show X % B ^ j+X / B ^ j % B*B ^ j+X / (B ^ j*B) % V*(B ^ j*B)=X % B ^ j+(X / (B ^ j*B) % V*B+X / B ^ j % B)*B ^ j by grind,anM _ _ hp,alR h1,alO]
theorem aho {B:Nat} (hB:2≤B) (X V j:Nat):zd B X V (j+1) % B ^ j=X % B ^ j:=by
 unfold zd;rw[lq,anu,show X % B ^ j+X / B ^ j % B*B ^ j+X / (B ^ j*B) % V*(B ^ j*B)=X % B ^ j+(X / (B ^ j*B) % V*B+X / B ^ j % B)*B ^ j by grind,anR,anO]
theorem Qz {B:Nat} (hB:2≤B) {V:Nat} (hV:0<V) (X j:Nat):zd B X V (j+1) / B ^ j<B*V:=by
 rw[Jp hB];have h1:=al8 (X / B ^ (j+1)) hV;have h2:=al8 (X / B ^ j) (by omega:B>0)
 have:(X / B ^ (j+1) % V+1)*B≤V*B:=al2 _ qqO;rw[alP B V]
 grind
theorem ahp {B:Nat} (hB:2≤B) {V:Nat} (hV:0<V) (X j:Nat):zd B X V (j+1) / B ^ j / V=X / V / B ^ j % B:=by
 rw[Jp hB];have e:X / V / B ^ j=X / B ^ j / V:=by rw[ant,ant,alP]
 rw[e];have h0:=gT B X j;have h1:=al7 (X / B ^ (j+1)) V;have h2:=al8 (X / B ^ (j+1)) hV;have h3:=al8 (X / B ^ j) (by omega:B>0)
 generalize X / B ^ j % B=d at*
 generalize X / B ^ (j+1) % V=r at*
 generalize X / B ^ (j+1) / V=q at*
 have e2:X / B ^ j=(r*B+d)+(q*B)*V:=by rw[h0,<-h1];grind
 rw[e2,anM _ _ hV,anR,alT];rw[al6 hV];have:(r+1)*B≤V*B:=al2 _ qqO
 grind
theorem ajY {B:Nat} (hB:2≤B) (X V j:Nat):zd B X V (j+1) / B ^ j % V=X / B ^ j % V:=by
 rw[Jp hB];exact DW B V X j
theorem MZ {B:Nat} (hB:2≤B) (X V j:Nat):zd B X V (j+1) % B ^ j+zd B X V (j+1) / B ^ j % V*B ^ j=zd B X V j:=by
 rw[ajY hB,aho hB];rfl
theorem M8 (B X V:Nat):zd B X V 0=X % V:=by
 unfold zd;rw[aod,amc,amb,alV,alO]
theorem Jq {B X V k:Nat} (h:X<V*B ^ k):zd B X V k=X:=by
 unfold zd;by_cases hp:B ^ k=0
 ·rw[hp]at h;simp at h
 rw[alT (a:=X / B ^ k) ((al6 qqO).2 h)];have:=al7 X (B ^ k);rw[alP]at this;omega
theorem sw {B n i z:Nat} (h:i<n) {d:Int} (hd:d=((z / B ^ i % B:Nat):Int)):(dm B n (i+1) 0 z).set i d=dm B n i 0 z:=by
 apply anz
 ·simp[iY]
 ·intro k h1 h2
  rw[anD];simp only[dm,anE,anF];split
  ·subst_vars;rw[if_neg qqO]
  ·split<;>split<;>first|rfl|omega
theorem X3 {B p r:Nat} (hB:2≤B) (hpr:p*r=B) (z i:Nat):z / p / B ^ i % B=z / B ^ i % B / p+z / B ^ (i+1) % B*r % B:=by
 have hp0:0<p:=al5 λh=>by subst h;omega
 have hr0:0<r:=al5 λh=>by subst h;omega
 rw[ant,alP p,<-ant];have h0:=gT B z i;have hd:=gT B z (i+1);have h3:=al8 (z / B ^ i) (by omega:B>0)
 generalize z / B ^ i % B=d at*
 generalize hb:z / B ^ (i+1)=t at*
 rw[h0];have e1:(t*B+d) / p=t*r+d / p:=by
  rw[<-hpr,show t*(p*r)+d=d+(t*r)*p by grind,anM _ _ hp0,an3]
 have e2:d / p<r:=(al6 hp0).2 (by rw[alP,hpr];exact h3)
 have e3:t*r % B=(t % p)*r:=by rw[<-hpr,anU]
 have e4:t % B*r % B=t*r % B:=by rw[anV,anO,<-anV]
 rw[e1,e4,e3];have h5:=al8 t hp0;have h6:(t % p+1)*r≤p*r:=al2 _ qqO;have h7:t*r=(t % p)*r+(t / p)*(p*r):=by
  have:=al7 t p;generalize t / p=a at*
  generalize t % p=b at*
  subst this
  grind
 rw[h7,hpr,show t % p*r+t / p*B+d / p=(t % p*r+d / p)+(t / p)*B by omega,anR,alT (by rw[hpr]at h6;grind)]
 omega
end Go.Eng.Dig
namespace Go.Eng.YtmkagljofpddpaaGreatDoor
open Go.Proofs Go.Eng.Dig
set_option linter.unusedSimpArgs false
set_option linter.unusedVariables false
set_option maxHeartbeats 0
set_option maxRecDepth 100000
def Jr (X V L:Nat):LSp:=λxs objs K=>match xs,objs with
 | [.rsl 0 j m,.isl (.ints .u64 l) .none],[.cells (.ints .u64 d) false]=>VC (l=dl W V/\m=(dl W V).length+1/\d=dn W L (zd W X V (j+1))/\2≤(dl W V).length/\j+(dl W V).length+1≤L/\L≤900000000000)/\K [.int .u64 ((X / V / W ^ j % W:Nat):Int)] [.cells (.ints .u64 (dn W L (zd W X V j))) false]
 |_,_=>False
theorem X4 (X V L:Nat):LOK Tryz.prog 239 (Jr X V L):=by
 intro xs objs K hk;unfold Jr at hk;split at hk
 ·obtain⟨h1,h2,h3,h4,h5,h6⟩:=hk.1.get
  subst h1 h2 h3;refine⟨_,_,hk.2,?_⟩;rename_i j;have hV:0<V:=al5 λh=>by subst h;simp[ji]at h4
  have:=Uq V (zd W X V (j+1)) L j h4 h5 h6 (Qz W2 hV X j);rw[ahp W2 hV,MZ W2]at this;exact this
 ·exact hk.elim
noncomputable def ajZ:CPT:=ay 187 (aJ Ct) (ay 236 (aJ Cw) (ay 232 (nS uM) noC))
theorem Eh:aZ Tryz.prog ajZ:=aj (aA DX) (aj (aA Jo) (aj (kC rV) aC))
theorem adW {r:Nat} (h:r<W):trm [(r:Int)]=dl W r:=by
 by_cases h0:r=0
 ·subst h0;rfl
 ·rw[jQ W2 h0 h]
  exact zP [] qqO
theorem ai3 (x y:Nat) (hx:(dl W x).length≤400000000000) (hy:(dl W y).length≤400000000000) (h:x<y):aB Tryz.prog 196 [.isl (wd x) .none,.isl (wd y) .none] (.tup [.isl (wd (x / y)) .none,.isl (wd (x % y)) .none]):=by
 have hc:dU x y= -1:=by unfold dU;rw[if_pos h]
 rw[alR h,alT h];refine au (md:=1) (rf:=[]) mixed ak Eh Tryz.func196 qqR qqR qqR ?_;refine wk7 ?_ (λhq=>?_) (λhq hq=>?_) (λhq hq=>?_) (λhq hq=>?_) (λhq hq=>?_) λhq hq=>?_;all_goals(try simp only[dP,hc]at*)
 all_goals first
  |exact⟨bS _,bS _,qqO,qqO⟩
  |(exfalso;omega)
  |refine Sup.via ?_
 all_goals repeat'((conv=>whnf);first|intro _|apply aI|exact aD|apply nM|apply fM)
 all_goals all_goals((try apply vM);(try simp only[vq]at*);try omega)
 all_goals exact rfl
theorem ahq (x y:Nat) (hx:(dl W x).length≤400000000000) (hy0:y≠0) (hy:y<W) (h:y≤x):aB Tryz.prog 196 [.isl (wd x) .none,.isl (.ints .u64 [(y:Int)]) .none] (.tup [.isl (wd (x / y)) .none,.isl (wd (x % y)) .none]):=by
 have hd1:=jQ W2 hy0 hy;have hvy:vw [(y:Int)]=y:=by rw[<-hd1];exact dP y
 have hdw:Dw [(y:Int)]:=by rw[<-hd1];exact bS y
 have hc:0≤dU x y:=by unfold dU;split<;>(try split)<;>omega
 have hy':y<18446744073709551616:=hy;have hr:x % y<y:=al8 _ qqO;have hQl:x / y<W ^ (dl W x).length:=an4 (aon _ _) (bU W2 x);have hg:([(y:Int)].getD (an8 0) 0)=(y:Int):=rfl;refine au (md:=1) (rf:=[]) mixed ak Eh Tryz.func196 qqR qqR qqR ?_;refine wk4 ?_ (λhq=>?_) (λhq hq=>?_) λhq hq=>?_;all_goals(try simp only[dP,hvy]at*)
 all_goals first
  |exact⟨bS _,hdw,qqO,qqS⟩
  |(exfalso;omega)
  |exact .inl trivial
  |skip
 have hX0:x / W ^ (dl W x).length=0:=alR (bU W2 x);conv=>whnf
 refine aR (X:=Nat) (λk=>k≤(dl W x).length) (λk=>[(8,.int .i64 ((k:Int)-1)),(7,.int .u64 ((x / W ^ k % y:Nat):Int)),(34,.any)]) (λk=>[(4,.cells (.ints .u64 (dm W (dl W x).length k 0 (x / y))) false)]) (λk=>k) (dl W x).length ⟨aH,mixed,ak,Eh,aN⟩ qqR qqO ?_ ?_
 ·refine wk2 ?_ ?_
  all_goals first
   |(rw[hX0,Nat.zero_mod];rfl)
   |(rw[qy _ _ (alo _),kL])
 intro k hk;have hm:=iY W (dl W x).length k 0 (x / y);cases k with
 |zero=>
  refine wk2 (λhq=>?_) λhq=>?_;all_goals first
   |(rw[fV _ _ hm.symm,hm];omega)
   |(rw[fV _ _ hm.symm,pF,jk W2 hQl,aod,amb,adW (aox hr hy)];exact Sup.of rfl)
 |succ k=>
  have hX1:=(TU (B:=W) (b:=y) W2 qqO x k).resolve_right qqO;have hX2:=DW W y x k;have hr1:=rG x k;have hrk:x / W ^ (k+1) % y<y:=al8 _ qqO;have hQ:(((x / W ^ (k+1) % y:Nat):Int)*18446744073709551616+(dl W x).getD k 0) / ([(y:Int)].getD (an8 0) 0)=((x / y / W ^ k % W:Nat):Int):=by
   have:=congrArg (aoy:Nat->Int) hX1;rw[bG W2,hg,<-this,aol,aoa,an9];rfl
  have hR:(((x / W ^ (k+1) % y:Nat):Int)*18446744073709551616+(dl W x).getD k 0) % ([(y:Int)].getD (an8 0) 0)=((x / W ^ k % y:Nat):Int):=by
   have:=congrArg (aoy:Nat->Int) hX2;rw[bG W2,hg];refine Eq.trans (b:=(((x / W ^ (k+1) % y*W+x / W ^ k % W) % y:Nat):Int)) ?_ this;generalize x / W ^ (k+1) % y=u
   generalize x / W ^ k % W=v
   rw[anP,aoa,an9];rfl
  rw[show((k+1:Nat):Int)-1=(k:Int) by omega]
  refine wk1 λhq=>?_;all_goals first
   |omega
   |(rw[hg];refine⟨qqO,qqO,qqO,qqO,qqO⟩)
   |(rw[hQ,hR,sw qqO rfl]
     refine⟨k,[],⟨qqO,qqO⟩,?_⟩;exact wk0;all_goals skip)
theorem ahr {m:Nat} (h0:0<m) (h:m<W):lzI m≤63/\(m+1)*2 ^ lzI m≤W:=by
 obtain⟨a,b,c⟩:=Go.Lib.bitLenAux_bounds 64 m h qqO;have hL:Go.Lib.bitLenAux 64 m≤64:=Go.Lib.bitLen_le m 64 (alo _) h;have e:lzI m=64-Go.Lib.bitLenAux 64 m:=by
  unfold lzI iH Go.Lib.bitLen;rw[anG];omega
 rw[e];generalize Go.Lib.bitLenAux 64 m=L at*
 refine⟨qqO,?_⟩;have h1:(m+1)*2 ^ (64-L)≤2 ^ L*2 ^ (64-L):=al2 _ c;rw[<-anI,show L+(64-L)=64 by omega]at h1
 exact h1
theorem X5 {y n:Nat} (hn:(dl W y).length=n+1) {s:Nat} (hs:s=lzI ((dl W y).getD n 0)):s≤63/\y*2 ^ s<W ^ (n+1)/\(dl W (y*2 ^ s)).length=n+1:=by
 have hl:=bU W2 y;have hg:=jI W2 y n hn;rw[hn]at hl;have hp:=pw W2 n;have hy0:y≠0:=λh=>by subst h;simp[ji]at hn
 have ht:(dl W y).getD n 0=((y / W ^ n:Nat):Int):=by
  rw[bG W2,alT];rw[al6 hp,alP,<-anu];exact hl
 have h1:0<y / W ^ n:=(al9 hp).2 qqO;have h2:y / W ^ n<W:=by
  rw[al6 hp,alP,<-anu];exact hl
 rw[ht]at hs;obtain⟨a,b⟩:=ahr h1 h2;rw[<-hs]at a b;have hps:0<2 ^ s:=anx qqO;have h3:y<(y / W ^ n+1)*W ^ n:=by rw[alP];exact aou y hp
 have h4:y*2 ^ s<W ^ (n+1):=by
  have g1:y*2 ^ s<(y / W ^ n+1)*W ^ n*2 ^ s:=anT h3 hps;have g2:(y / W ^ n+1)*W ^ n*2 ^ s=(y / W ^ n+1)*2 ^ s*W ^ n:=by grind
  have g3:(y / W ^ n+1)*2 ^ s*W ^ n≤W*W ^ n:=al2 _ b;rw[anu,alP (W ^ n)];omega
 refine⟨a,h4,?_⟩;have g4:=fG W2 h4;have g5:=lQ W2 (x:=y*2 ^ s) (k:=n) (als hg (amq _ hps));omega
theorem ai4 {Z s L i:Nat} (hs0:0<s) (hs:s≤63) (hi:i+1<L):
 ((dm W L i (Z / 2 ^ s) Z).set i ((dm W L i (Z / 2 ^ s) Z).getD i 0 / 2 ^ s)).set i (IntKind.u64.wrap ((alK IntKind.u64.bits (((dm W L i (Z / 2 ^ s) Z).set i ((dm W L i (Z / 2 ^ s) Z).getD i 0 / 2 ^ s)).getD i 0)|||alK IntKind.u64.bits (IntKind.u64.wrap (((dm W L i (Z / 2 ^ s) Z).set i ((dm W L i (Z / 2 ^ s) Z).getD i 0 / 2 ^ s)).getD ((i:Int)+1).toNat 0*2 ^ (64-(s:Int)).toNat))).toNat:Int))=dm W L (i+1) (Z / 2 ^ s) Z:=by
 have hl:=iY W L i (Z / 2 ^ s) Z;have hpr:2 ^ s*2 ^ (64-s)=W:=by rw[<-anI,show s+(64-s)=64 by omega]
 have e1:((i:Int)+1).toNat=i+1:=qqO;have e2:(64-(s:Int)).toNat=64-s:=qqO;have g1:(dm W L i (Z / 2 ^ s) Z).getD i 0=((Z / W ^ i % W:Nat):Int):=by rw[lS _ _ _ _ _ _ qqO,if_neg qqO]
 have g2:∀v,((dm W L i (Z / 2 ^ s) Z).set i v).getD i 0=v:=λv=>by
  rw[alC,List.getElem?_set_self qqO];rfl
 have g3:∀v,((dm W L i (Z / 2 ^ s) Z).set i v).getD (i+1) 0=((Z / W ^ (i+1) % W:Nat):Int):=λv=>by
  rw[alC,List.getElem?_set_ne qqO,<-alC,lS _ _ _ _ _ _ qqO,if_neg qqO]
 have hdd:=X3 W2 hpr Z i;have hd:=al8 (Z / W ^ i) (by decide:W>0)
 have hzd:=al8 (Z / 2 ^ s / W ^ i) (by decide:W>0)
 rw[e1,e2,g2,g3,g1,List.set_set];refine mI qqO ?_;rw[hdd]at hzd⊢;generalize Z / W ^ i % W=d at*
 generalize Z / W ^ (i+1) % W=e at*
 have eP:((e:Int)*2 ^ (64-s))=((e*2 ^ (64-s):Nat):Int):=by norm_cast
 have eD:((d:Int) / 2 ^ s)=((d / 2 ^ s:Nat):Int):=by norm_cast
 have em:e*2 ^ (64-s) % W=(e % 2 ^ s)*2 ^ (64-s):=by rw[<-hpr,anU]
 have hb:d / 2 ^ s<2 ^ (64-s):=(al6 (anx qqO)).2 (by rw[alP,hpr];exact hd)
 rw[eP,eD,show IntKind.u64.wrap ((e*2 ^ (64-s):Nat):Int)=((e*2 ^ (64-s) % W:Nat):Int)from yt _];have:=aop hb (e % 2 ^ s);rw[aoq,<-em]at this;have hm:=al8 (e*2 ^ (64-s)) (by decide:W>0)
 generalize e*2 ^ (64-s) % W=m at*
 generalize d / 2 ^ s=o at*
 have ho:o<W:=qqO;exact Jg ho hm (λk _=>by rw[an3,this,aor,aot]) hzd
noncomputable def aj0 (X V L:Nat):CPT:=ay 187 (aJ Ct) (ay 237 (aJ lzP) (ay 238 (dX [] X0) (ay 239 (dX [0] (Jr X V L)) (ay 232 (nS uM) noC))))
theorem adX (X V L:Nat):aZ Tryz.prog (aj0 X V L):=aj (aA DX) (aj (aA abr) (aj (bX [] ahn) (aj (bX [0] (X4 X V L)) (aj (kC rV) aC))))
theorem ahs (x y:Nat) (hx:(dl W x).length≤400000000000) (hy:(dl W y).length≤400000000000) (hn2:2≤(dl W y).length) (h:y≤x):aB Tryz.prog 196 [.isl (wd x) .none,.isl (wd y) .none] (.tup [.isl (wd (x / y)) .none,.isl (wd (x % y)) .none]):=by
 have hc:0≤dU x y:=by unfold dU;split<;>(try split)<;>omega
 obtain⟨n,hn⟩:∃n,(dl W y).length=n+1:=⟨(dl W y).length-1,qqO⟩;obtain⟨s,hs⟩:∃s,s=lzI ((dl W y).getD n 0):=⟨_,rfl⟩;obtain⟨hs63,hV,hVl⟩:=X5 hn hs;have hlen:(dl W y).length≤(dl W x).length:=fK h;have htop:=rG y n;have en:(((dl W y).length:Int)-1).toNat=n:=qqO;have hdiv:x*2 ^ s / (y*2 ^ s)=x / y/\x*2 ^ s % (y*2 ^ s) / 2 ^ s=x % y:=uV (anx qqO);have hstart:x*2 ^ s<y*2 ^ s*W ^ ((dl W x).length-n):=by
  have h1:=bU W2 x;have h2:=jI W2 y n hn;have h3:W ^ (dl W x).length=W ^ n*W ^ ((dl W x).length-n):=by rw[<-anI,show n+((dl W x).length-n)=(dl W x).length by omega]
  have h4:W ^ n*W ^ ((dl W x).length-n)≤y*W ^ ((dl W x).length-n):=al2 _ h2;have h5:x*2 ^ s<y*W ^ ((dl W x).length-n)*2 ^ s:=anT qqO (anx qqO);have h6:y*W ^ ((dl W x).length-n)*2 ^ s=y*2 ^ s*W ^ ((dl W x).length-n):=by grind
  omega
 have eV:trm (aoz ((dl W y).length+1-0) (aoA 0 (dn W ((dl W y).length+1) (y*2 ^ s))))=dl W (y*2 ^ s):=by
  rw[fV _ _ (dw _ _ _).symm,jk W2];rw[hn,anu];exact alp hV (amq _ qqD)
 have hlV:(aoz ((dl W y).length+1-0) (aoA 0 (dn W ((dl W y).length+1) (y*2 ^ s)))).length=(dl W y).length+1:=by rw[fV _ _ (dw _ _ _).symm,dw]
 have hdl:=dw W ((dl W y).length+1) (y*2 ^ s);generalize hX:x*2 ^ s=X at*
 generalize hVV:y*2 ^ s=V at*
 have hV0:0<V:=by rw[<-hVV];exact anX (al5 λh=>by subst h;simp[ji]at hn) (anx qqO)
 have hC:=adX X V ((dl W x).length+1);refine au (md:=3) (rf:=[]) mixed ak hC Tryz.func196 qqR qqR qqR ?_
 repeat'((conv=>whnf);first|(intro hq;(try simp only[vw]at hq);try exact aV hq)|apply aI|exact aD|apply nM|apply fM)
 all_goals((try apply vM);(try simp only[vq]at*);try omega)
 all_goals(try simp only[dP,en,<-hs,anG,hX,hVV])
 all_goals(try rw[eV])
 all_goals first
  |omega
  |exact⟨bS _,bS _,qqO,qqO⟩
  |(exfalso;rw[uK W2,uK W2]at hq;omega)
  |exact htop
  |exact⟨bS _,qqO,qqO,qqO⟩
  |exact .inl trivial
  |skip
 conv=>whnf
 refine gy (X:=Nat) (λt=>btw 16 136 t) (λk=>k≤(dl W x).length-n) (λk=>[(14,.int .i64 ((k:Int)-1))]) (λk=>[(16,.cells (.ints .u64 (dn W ((dl W x).length+1) (zd W X V k))) false),(20,.cells (.ints .u64 (dm W ((dl W x).length-n) k 0 (X / V))) false)]) (λk=>k) ((dl W x).length-n) ⟨aH,mixed,ak,hC,aN⟩ qqR qqO ?_ ?_
 ·refine wk2 ?_ ?_
  ·rw[Jq hstart]
  ·rw[qy _ _ (alo _),kL,show((((dl W x).length:Int)-((dl W V).length:Int)+1)).toNat=(dl W x).length-n by omega]
 intro k hk;have hm1:=dw W ((dl W x).length+1) (zd W X V k);have hm2:=iY W ((dl W x).length-n) k 0 (X / V);cases k with
 |zero=>
  rw[M8];have hZV:X % V<V:=al8 _ hV0;generalize X % V=Z at*
  refine wk1 λhq=>?_;conv=>whnf
  refine gy (X:=Nat) (λt=>btw 16 95 t||btw 98 136 t) (λi=>i≤n+1) (λi=>[(97,.int .i64 i),(15,.any)]) (λi=>[(16,.cells (.ints .u64 (dm W ((dl W x).length+1) i (Z / 2 ^ s) Z)) false)]) (λi=>n+1-i) 0 ⟨aH,mixed,ak,hC,aN⟩ qqR qqO ?_ ?_
  ·exact wk0
   all_goals(try rw[pF])
  intro i hi;have hm3:=iY W ((dl W x).length+1) i (Z / 2 ^ s) Z;by_cases e:i=n+1
  ·subst e
   have eQ:(aoz (((((dl W x).length:Int)-((dl W V).length:Int)+1)).toNat-0) (aoA 0 (dm W ((dl W x).length-n) 0 0 (X / V))))=dn W ((dl W x).length-n) (X / V):=by rw[fV _ _ (by rw[hm2];omega),pF]
   have eR:(aoz ((dl W V).length-0-0) (aoA 0 (dm W ((dl W x).length+1) (n+1) (Z / 2 ^ s) Z)))=dn W (n+1) (Z / 2 ^ s):=by
    rw[hVl];apply anz
    ·simp[iY,dw]<;>omega
    ·intro k h1 h2
     rw[dw]at h2;simp only[Nat.sub_zero,List.drop_zero,List.getElem_take,dm,dn,anE,anF];rw[if_pos h2]
   have hQl:X / V<W ^ ((dl W x).length-n):=(al6 hV0).2 (by rw[alP];exact hstart)
   have hRl:Z / 2 ^ s<W ^ (n+1):=an4 (aon _ _) (aox hZV hV);refine wk3 (λhq=>?_) (λhq=>?_) λhq=>?_;all_goals first
    |(rw[eQ,dw];omega)
    |(rw[eR,dw];omega)
    |(rw[eQ,eR,jk W2 hQl,jk W2 hRl,hdiv.1,hdiv.2];exact Sup.of rfl)
  ·have hin:i+1<(dl W x).length+1:=qqO
   by_cases hs0:s=0
   ·subst hs0
    have eS:(dm W ((dl W x).length+1) i (Z / 2 ^ 0) Z).set i ((dm W ((dl W x).length+1) i (Z / 2 ^ 0) Z).getD i 0 / 2 ^ 0)=dm W ((dl W x).length+1) (i+1) (Z / 2 ^ 0) Z:=by
     refine mI qqO ?_;rw[lS _ _ _ _ _ _ qqO,if_neg qqO];simp
    have eN:0≤(dm W ((dl W x).length+1) i (Z / 2 ^ 0) Z).getD i 0:=by
     rw[lS _ _ _ _ _ _ qqO,if_neg qqO];omega
    refine wk1 λhq hq=>?_;all_goals first
     |exact eN
     |(rw[eS]
       refine⟨i+1,[],⟨qqO,qqO⟩,?_⟩;rw[show((i+1:Nat):Int)=(i:Int)+1 by omega]
       exact wk0;all_goals skip)
   ·have eN:∀k,k<(dl W x).length+1->0≤(dm W ((dl W x).length+1) i (Z / 2 ^ s) Z).getD k 0:=λk hk=>by
     rw[lS _ _ _ _ _ _ hk];split<;>omega
    have b64:∀a:Nat,a≤64->a≤IntKind.u64.bits:=λa h=>h;refine wk7 (λhq=>?_) (λhq=>?_) (λhq hq hq=>?_) (λhq hq hq=>?_) (λhq hq hq=>?_) (λhq hq hq=>?_) λhq hq hq=>?_;all_goals first
     |exact eN _ qqO
     |exact b64 _ qqO
     |(rw[alZ,hm3];omega)
     |(rw[ai4 qqO hs63 hin]
       refine⟨i+1,[],⟨qqO,qqO⟩,?_⟩;rw[show((i+1:Nat):Int)=(i:Int)+1 by omega]
       exact wk0;all_goals skip)
 |succ k=>
  have ekX:((k:Int)).toNat=k:=anG k;have hk2:k<(dl W x).length-n:=qqO;rw[show((k+1:Nat):Int)-1=(k:Int) by omega]
  refine wk1 λhq=>?_;all_goals first
   |omega
   |(rw[sw hk2 rfl]
     refine⟨k,[],⟨qqO,qqO⟩,?_⟩;exact wk0;all_goals skip)
def Gx:PSp:=λxs K=>match xs with
 | [.isl (.ints .u64 l) .none,.isl (.ints .u64 m) .none]=>VC (Dw l/\Dw m/\l.length≤400000000000/\m.length≤400000000000/\m≠[])/\K (.tup [.isl (wd (vw l / vw m)) .none,.isl (wd (vw l % vw m)) .none])
 |_=>False
theorem M9:POK Tryz.prog 196 Gx:=by
 intro xs K hk;unfold Gx at hk;split at hk
 ·obtain⟨h1,h2,h3,h4,h5⟩:=hk.1.get
  rename_i l m;obtain⟨x,rfl⟩:=fq h1;obtain⟨y,rfl⟩:=fq h2;refine⟨_,hk.2,?_⟩;rw[dP,dP];have hy0:y≠0:=λh=>h5 ((fD W2).2 h);by_cases hlt:x<y
  ·exact ai3 x y h3 h4 hlt
  ·by_cases h1:y<W
   ·have e:=jQ W2 hy0 h1
    unfold wd;rw[e];exact ahq x y h3 hy0 h1 qqO
   ·refine ahs x y h3 h4 ?_ qqO
    have:=lQ W2 (x:=y) (k:=1) (by rw[aof];omega)
    omega
 ·exact hk.elim
def gD:NI:=⟨1,[]⟩
theorem Js:gD.val=1:=rfl
theorem Ei:gD.OK:=.inl ⟨rfl,by unfold smI gD;simp⟩
def divN (a b:NI):NI:=if a.w=[]/\b.w=[]/\a.s≠ -9223372036854775808 then nrm (a.val / b.val)else
 if a.s<0/\a.val.natAbs % b.val.natAbs≠0 then zW (nrm (-((a.val.natAbs / b.val.natAbs:Nat):Int))) gD else nrm (a.val / b.val)
theorem Na {a b:Int} (hb:0<b) (h:a<0):a / b=(if a.natAbs % b.natAbs=0 then-((a.natAbs / b.natAbs:Nat):Int)else-((a.natAbs / b.natAbs:Nat):Int)-1)/\a % b=(if a.natAbs % b.natAbs=0 then 0 else-((a.natAbs % b.natAbs:Nat):Int)+b):=by
 have h1:=al7 a.natAbs b.natAbs;have h2:=al8 a.natAbs (show b.natAbs>0 by omega)
 have e:b*((a.natAbs / b.natAbs:Nat):Int)+((a.natAbs % b.natAbs:Nat):Int)= -a:=by
  have:=congrArg (aoy:Nat->Int) h1;rw[aoa,an9]at this;rw[show((b.natAbs:Nat):Int)=b by omega,show((a.natAbs:Nat):Int)= -a by omega]at this
  exact this
 rw[show((a.natAbs / b.natAbs:Nat):Int)=((a.natAbs / b.natAbs:Nat):Int)from rfl];generalize a.natAbs / b.natAbs=q at*
 generalize a.natAbs % b.natAbs=r at*
 refine(aoB hb).2 ?_;split
 ·rename_i h0;subst h0
  refine⟨?_,qqO,hb⟩;rw[aok];omega
 ·refine⟨?_,qqO,qqO⟩
  rw[aoC,aok];omega
theorem QA {a b:Int} (hb:0<b) (h:0≤a):a / b=((a.natAbs / b.natAbs:Nat):Int)/\a % b=((a.natAbs % b.natAbs:Nat):Int):=by
 rw[aol,anP,show((b.natAbs:Nat):Int)=b by omega,show((a.natAbs:Nat):Int)=a by omega]
 exact⟨rfl,rfl⟩
theorem Cz {a b:NI} (ha:a.OK) (hb:0<b.val) (h:b.val∣a.val):divN a b=nrm (a.val / b.val):=by
 unfold divN;split
 ·rfl
 ·rw[if_neg]
  rintro⟨h1,h2⟩
  obtain⟨k,hk⟩:=h;apply h2;rw[hk,Int.natAbs_mul,Nat.mul_mod_right]
theorem X6 {a b:Int} (hb:0<b):(a.tmod b<0->a.tdiv b-1=a / b/\a.tmod b+b=a % b)/\(¬a.tmod b<0->a.tdiv b=a / b/\a.tmod b=a % b):=by
 have h1:=Int.mul_tdiv_add_tmod a b;have h2:a.tmod b<b:=aoD a hb;have h3: -b<a.tmod b:=by
  by_cases h:0≤a
  ·have:=Int.tmod_nonneg b h;omega
  ·have h4:=aoD (-a) hb
   rw[Int.neg_tmod]at h4;omega
 generalize a.tdiv b=q at*
 generalize a.tmod b=r at*
 constructor
 ·intro h
  have:=(aoB hb (r:=r+b) (q:=q-1) (a:=a)).2 ⟨by rw[aoC];omega,qqO,qqO⟩
  exact⟨this.1.symm,this.2.symm⟩
 ·intro h
  have:=(aoB hb (r:=r) (q:=q) (a:=a)).2 ⟨qqO,qqO,qqO⟩;exact⟨this.1.symm,this.2.symm⟩
noncomputable def ofP:PSp:=λxs K=>match xs with
 | [.int .i64 n]=>K (.agg [.int .i64 n,.nils])
 |_=>False
theorem adY (n:Int):aB Tryz.prog 108 [.int .i64 n] (.agg [.int .i64 n,.nils]):=by
 refine au (md:=1) (rf:=[]) mixed ak aC Tryz.func108 qqR qqR qqR ?_;refine wk1 ?_;all_goals(refine Sup.via ?_;repeat'((conv=>whnf);first|intro _|apply aI|exact aD|apply nM|apply fM);all_goals((try apply vM);(try simp only[vq]at*);try omega))
theorem oU:POK Tryz.prog 108 ofP:=by
 intro xs K hk;unfold ofP at hk;split at hk
 ·exact⟨_,hk,adY _⟩
 ·exact hk.elim
noncomputable def aj1:CPT:=ay 184 (aU nG) (ay 185 (aJ yu) (ay 196 (aJ Gx) (ay 194 (aU uP) (ay 195 (aU XU) (ay 109 (aU Ec) (ay 108 (aU ofP) noC))))))
theorem sD:aZ Tryz.prog aj1:=aj (aF lU) (aj (aA yw) (aj (aA M9) (aj (aF pG) (aj (aF Uh) (aj (aF wV) (aj (aF oU) aC))))))
theorem Jt {a b:NI} (h:a.val+b.val≠ -9223372036854775808):addN a b=nrm (a.val+b.val):=by
 unfold addN;rw[if_neg]
 rintro⟨h1,h2,h3⟩
 rw[gQ h1,gQ h2]at h;exact h h3
theorem Us {p:Prop} [Decidable p] (x:Nat):(if p then-(x:Int)else x).natAbs=x:=by split<;>omega
theorem oz (a:NI) (x:Nat):mdN (decide (a.s<0)) x=nrm (if a.s<0 then-(x:Int)else x):=by
 refine nE ?_;by_cases h:a.s<0<;>simp[h]
theorem ai5 {a b:NI} (ha:a.OK) (hb:0<b.val) (hbig:¬(a.w=[]/\b.w=[]/\a.s≠ -9223372036854775808)) (h:fC (mdN (decide (a.s<0)) (a.val.natAbs % b.val.natAbs)).val<0):zW (mdN (decide (a.s<0)) (a.val.natAbs / b.val.natAbs)) ⟨1,[]⟩=divN a b/\addN (mdN (decide (a.s<0)) (a.val.natAbs % b.val.natAbs)) b=nrm (a.val % b.val):=by
 rw[oz,bg]at h;rw[oz,oz];have hs:a.s<0:=Decidable.byContradiction λhn=>by rw[if_neg hn]at h;unfold fC at h;omega
 rw[if_pos hs]at h;have hr:a.val.natAbs % b.val.natAbs≠0:=λh0=>by rw[h0]at h;unfold fC at h;simp at h;omega
 rw[if_pos hs,if_pos hs];obtain⟨e1,e2⟩:=Na hb ((NI.neg_iff ha).1 hs);rw[if_neg hr]at e1 e2;constructor
 ·unfold divN
  rw[if_neg hbig,if_pos ⟨hs,hr⟩];rfl
 ·have h2:=al8 a.val.natAbs (show b.val.natAbs>0 by omega)
  rw[Jt,bg,e2];rw[bg];omega
theorem ai6 {a b:NI} (ha:a.OK) (hb:0<b.val) (hbig:¬(a.w=[]/\b.w=[]/\a.s≠ -9223372036854775808)) (h:¬fC (mdN (decide (a.s<0)) (a.val.natAbs % b.val.natAbs)).val<0):mdN (decide (a.s<0)) (a.val.natAbs / b.val.natAbs)=divN a b/\mdN (decide (a.s<0)) (a.val.natAbs % b.val.natAbs)=nrm (a.val % b.val):=by
 rw[oz,bg]at h;rw[oz,oz];unfold divN;rw[if_neg hbig];by_cases hs:a.s<0
 ·rw[if_pos hs]at h
  have hr:a.val.natAbs % b.val.natAbs=0:=Decidable.byContradiction λh0=>by unfold fC at h;omega
  obtain⟨e1,e2⟩:=Na hb ((NI.neg_iff ha).1 hs);rw[if_pos hr]at e1 e2;rw[if_neg (c:=a.s<0/\a.val.natAbs % b.val.natAbs≠0) (λh=>h.2 hr),if_pos hs,if_pos hs,e1,e2,hr];exact⟨rfl,rfl⟩
 ·rw[if_neg (c:=a.s<0/\a.val.natAbs % b.val.natAbs≠0) (λh=>hs h.1),if_neg hs,if_neg hs]
  obtain⟨e1,e2⟩:=QA hb (show 0≤a.val from Int.not_lt.1 λh=>hs ((NI.neg_iff ha).2 h));rw[e1,e2];exact⟨rfl,rfl⟩
theorem adZ (a b:NI) (ha:a.OK) (hb:b.OK) (hp:0<b.val) (hLa:a.L≤100000000000) (hLb:b.L≤100000000000):aB Tryz.prog 119 [niV a,niV b] (.tup [niV (divN a b),niV (nrm (a.val % b.val))]):=by
 have L1:(dl W a.val.natAbs).length≤100000000000:=hLa;have L2:(dl W b.val.natAbs).length≤100000000000:=hLb;have L3:(dl W (a.val.natAbs / b.val.natAbs)).length≤1000000000000:=als (fK (aon _ _)) (als hLa qqD);have L4:(dl W (a.val.natAbs % b.val.natAbs)).length≤1000000000000:=als (fK (aoE _ _)) (als hLa qqD);have L5:(mdN (decide (a.s<0)) (a.val.natAbs / b.val.natAbs)).L≤100000000000:=by
  rw[oz,NI.L_nrm,Us];exact als (fK (aon _ _)) hLa
 have L7:(mdN (decide (a.s<0)) (a.val.natAbs % b.val.natAbs)).L≤100000000000:=by
  rw[oz,NI.L_nrm,Us];exact als (fK (aoE _ _)) hLa
 have L6:NI.L ⟨1,[]⟩≤100000000000:=als (ow (x:=1) qqO) qqD;have hne:dl W b.val.natAbs≠[]:=λh=>by have:=(fD W2).1 h;omega
 have F1:=λhx=>ai5 ha hp hx;have F2:=λhx=>ai6 ha hp hx;refine yx ha hb λp q hp' hq=>?_;rcases hp' with⟨rfl,hp',hps⟩|⟨x,rfl,hp',hpx⟩<;>rcases hq with⟨rfl,hq,hqs⟩|⟨y,rfl,hq,hqy⟩
 ·have ea:=fZ hp'
  have eb:=fZ hq;have es:=gQ hp';have et:=gQ hq;unfold smI at hps hqs;by_cases hm:a.s= -9223372036854775808
  ·have E1:=F1 (λh=>h.2.2 hm)
   have E2:=F2 (λh=>h.2.2 hm);have na:True:=trivial;have nb:True:=trivial;clear F1 F2 es et;generalize divN a b=r at*
   generalize a.s=s at*
   generalize b.s=t at*
   refine au (md:=1) (rf:=[]) mixed ak sD Tryz.func119 qqR qqR qqR ?_;all_goals exact uF
  ·have hd:divN a b=nrm (a.val / b.val):=by unfold divN;rw[if_pos ⟨hp',hq,hm⟩]
   have hp2:0<b.s:=by rw[<-et];exact hp
   rw[hd,es,et];generalize a.s=s at*
   generalize b.s=t at*
   clear ea eb es et hp' hq hd hp L1 L2 hLa hLb F1 F2 L3 L4 L5 L6 L7 hne;have hE:=X6 (a:=s) (b:=t) qqO;have hA:(s.tdiv t).natAbs≤s.natAbs:=by rw[Int.natAbs_tdiv];exact aon _ _
   have hB: -9223372036854775807≤s / t:=Int.le_ediv_of_mul_le qqO qqO;have hC:s / t≤9223372036854775807:=Int.ediv_le_of_le_mul qqO qqO;have hD:=Int.emod_nonneg s (show t≠0 by omega)
   have hF:=Int.emod_lt_of_pos s (show 0<t by omega)
   refine au (md:=1) (rf:=[]) mixed ak sD Tryz.func119 qqR qqR qqR ?_;refine wk2 (λhq hq=>?_) λhq hq=>?_;all_goals first
    |(exfalso;omega)
    |omega
    |(have h1:=hE.1 hq;omega)
    |(have h1:=hE.1 hq;rw[h1.1,h1.2,iZ qqO,iZ qqO];refine Sup.via ?_;repeat'((conv=>whnf);first|intro _|apply aI|exact aD|apply nM|apply fM);all_goals((try apply vM);(try simp only[vq]at*);try omega))
    |(have h1:=hE.2 hq;rw[h1.1,h1.2,iZ qqO,iZ qqO];refine Sup.via ?_;repeat'((conv=>whnf);first|intro _|apply aI|exact aD|apply nM|apply fM);all_goals((try apply vM);(try simp only[vq]at*);try omega))
 ·have E1:=F1 (λh=>by rw[hq]at h;exact(fH hqy).1 h.2.1)
  have E2:=F2 (λh=>by rw[hq]at h;exact(fH hqy).1 h.2.1)
  have ea:=fZ hp';have eb:=gP hq;have na:True:=trivial;obtain⟨nb,nb'⟩:=fH hqy;clear F1 F2;generalize divN a b=r at*
  generalize a.s=s at*
  generalize b.s=t at*
  refine au (md:=1) (rf:=[]) mixed ak sD Tryz.func119 qqR qqR qqR ?_;all_goals exact uF
 ·have E1:=F1 (λh=>by rw[hp']at h;exact(fH hpx).1 h.1)
  have E2:=F2 (λh=>by rw[hp']at h;exact(fH hpx).1 h.1)
  have ea:=gP hp';have eb:=fZ hq;have nb:True:=trivial;obtain⟨na,na'⟩:=fH hpx;clear F1 F2;generalize divN a b=r at*
  generalize a.s=s at*
  generalize b.s=t at*
  refine au (md:=1) (rf:=[]) mixed ak sD Tryz.func119 qqR qqR qqR ?_;all_goals exact uF
 ·have E1:=F1 (λh=>by rw[hp']at h;exact(fH hpx).1 h.1)
  have E2:=F2 (λh=>by rw[hp']at h;exact(fH hpx).1 h.1)
  have ea:=gP hp';have eb:=gP hq;obtain⟨nb,nb'⟩:=fH hqy;obtain⟨na,na'⟩:=fH hpx;clear F1 F2;generalize divN a b=r at*
  generalize a.s=s at*
  generalize b.s=t at*
  refine au (md:=1) (rf:=[]) mixed ak sD Tryz.func119 qqR qqR qqR ?_;all_goals exact uF
def dmP:PSp:=λxs K=>match xs with| [p,q]=>ni1 p λa=>ni1 q λb=>VC (a.OK/\b.OK/\0<b.val/\a.L≤100000000000/\b.L≤100000000000)/\K (.tup [niV (divN a b),niV (nrm (a.val % b.val))])|_=>False
theorem QB:POK Tryz.prog 119 dmP:=wU (C:=λa b=>a.OK/\b.OK/\0<b.val/\a.L≤100000000000/\b.L≤100000000000) (r:=λa b=>.tup [niV (divN a b),niV (nrm (a.val % b.val))]) λa b h=>adZ a b h.1 h.2.1 h.2.2.1 h.2.2.2.1 h.2.2.2.2
noncomputable def aj2:CPT:=ay 201 (aU zU) noC
theorem ad1:aZ Tryz.prog aj2:=aj (aF rZ) aC
theorem X7 (a:NI) (ha:a.OK) (hLa:a.L≤100000000000):aB Tryz.prog 225 [niV a] (niV (nrm (a.val.natAbs:Nat))):=by
 have hn:=NI.neg_iff ha;have e1:a.s<0->nrm ((a.val.natAbs:Nat):Int)=nrm (-a.val):=λh=>by
  have:=hn.1 h;rw[show((a.val.natAbs:Nat):Int)= -a.val by omega]
 have e2:¬a.s<0->nrm ((a.val.natAbs:Nat):Int)=a:=λh=>by
  have:¬a.val<0:=λh'=>h (hn.2 h');rw[show((a.val.natAbs:Nat):Int)=a.val by omega,<-Jk ha qqO]
 refine au (md:=1) (rf:=[]) mixed ak ad1 Tryz.func225 qqR qqR qqR ?_;refine wk3 (λhq=>?_) (λhq=>?_) λhq=>?_;all_goals first
  |exact⟨ha,als hLa qqD⟩
  |(rw[e1 qqA];exact Sup.of rfl)
  |(rw[e2 qqA];exact Sup.of rfl)
def absP:PSp:=λxs K=>match xs with| [p]=>ni1 p λa=>VC (a.OK/\a.L≤100000000000)/\K (niV (nrm (a.val.natAbs:Nat)))|_=>False
theorem aht:POK Tryz.prog 225 absP:=uO (C:=λa=>a.OK/\a.L≤100000000000) (r:=λa=>niV (nrm (a.val.natAbs:Nat))) λa h=>X7 a h.1 h.2
theorem dvd_neg {a b:Int} (h:b∣a): -a / -b=a / b:=by
 rw[Int.ediv_neg,Int.neg_ediv_of_dvd h,aoj]
noncomputable def aj3:CPT:=ay 201 (aU zU) (ay 194 (aU uP) (ay 119 (aU dmP) noC))
theorem ad3:aZ Tryz.prog aj3:=aj (aF rZ) (aj (aF pG) (aj (aF QB) aC))
theorem X8 (a b:NI) (ha:a.OK) (hb:b.OK) (h0:b.val≠0) (hd:b.val∣a.val) (hLa:a.L≤100000000000) (hLb:b.L≤100000000000):aB Tryz.prog 202 [niV a,niV b] (niV (nrm (a.val / b.val))):=by
 have L1:(nrm (-a.val)).L≤100000000000:=by rw[NI.L_nrm,aoi];exact hLa
 have L2:(nrm (-b.val)).L≤100000000000:=by rw[NI.L_nrm,aoi];exact hLb
 have e1:b.val<0->divN (nrm (-a.val)) (nrm (-b.val))=nrm (a.val / b.val):=λh=>by
  rw[Cz (bQ _) (by rw[bg];omega) (by rw[bg,bg];exact Int.neg_dvd.2 (Int.dvd_neg.2 hd)),bg,bg,dvd_neg hd]
 have e2:0<b.val->divN a b=nrm (a.val / b.val):=λh=>Cz ha h hd;refine au (md:=1) (rf:=[]) mixed ak ad3 Tryz.func202 qqR qqR qqR ?_;refine wk6 (λhq=>?_) (λhq=>?_) (λhq=>?_) (λhq=>?_) (λhq=>?_) λhq=>?_;all_goals(try simp only[dD,bg])
 all_goals(try simp only[dD,bg]at hq)
 all_goals first
  |exact⟨ha,als hLa qqD⟩
  |exact⟨hb,als hLb qqD⟩
  |exact hb
  |(refine⟨bQ _,bQ _,?_,L1,L2⟩;unfold fC at hq;omega)
  |(refine⟨ha,hb,?_,hLa,hLb⟩;unfold fC at hq;omega)
  |(rw[e1 (by unfold fC at hq;omega)];exact Sup.of rfl)
  |(rw[e2 (by unfold fC at hq;omega)];exact Sup.of rfl)
def ahu:PSp:=λxs K=>match xs with| [p,q]=>ni1 p λa=>ni1 q λb=>VC (a.OK/\b.OK/\b.val≠0/\b.val∣a.val/\a.L≤100000000000/\b.L≤100000000000)/\K (niV (nrm (a.val / b.val)))|_=>False
theorem ahv:POK Tryz.prog 202 ahu:=wU (C:=λa b=>a.OK/\b.OK/\b.val≠0/\b.val∣a.val/\a.L≤100000000000/\b.L≤100000000000) λa b h=>X8 a b h.1 h.2.1 h.2.2.1 h.2.2.2.1 h.2.2.2.2.1 h.2.2.2.2.2
noncomputable def aj4:CPT:=ay 225 (aU absP) (ay 194 (aU uP) (ay 119 (aU dmP) noC))
theorem Nb:aZ Tryz.prog aj4:=aj (aF aht) (aj (aF pG) (aj (aF QB) aC))
abbrev nr (x:Nat):NI:=nrm (x:Int)
theorem X9 (a b:NI) (ha:a.OK) (hb:b.OK) (hLa:a.L≤100000000000) (hLb:b.L≤100000000000):aB Tryz.prog 178 [niV a,niV b] (niV (nr (aoF a.val.natAbs b.val.natAbs))):=by
 have L1:Lw a.val.natAbs≤100000000000:=hLa;have L2:Lw b.val.natAbs≤100000000000:=hLb;refine au (md:=1) (rf:=[]) mixed ak Nb Tryz.func178 qqR qqR qqR ?_;refine wk3 ?_ ?_ ?_;all_goals first
  |exact⟨ha,hLa⟩
  |exact⟨hb,hLb⟩
  |skip
 generalize a.val.natAbs=A at*
 generalize b.val.natAbs=B at*
 conv=>whnf
 refine aR (X:=Nat × Nat) (λx=>Lw x.1≤100000000000/\Lw x.2≤100000000000/\aoF x.1 x.2=aoF A B) (λx=>[]) (λx=>[(0,.cells (.pv [.int .i64 (nr x.1).s,.nnl (.ints .u64 (nr x.1).w)]) false),(1,.cells (.pv [.int .i64 (nr x.2).s,.nnl (.ints .u64 (nr x.2).w)]) false)]) (λx=>x.2) (A,B) ⟨aH,mixed,ak,Nb,aN⟩ qqR ⟨L1,L2,rfl⟩ ?_ ?_
 ·exact wk0
  all_goals skip
 intro⟨x,y⟩ ⟨h1,h2,h3⟩;simp only at h1 h2 h3;have M1:(nr x).L≤100000000000:=by rw[NI.L_nrm];exact h1
 have M2:(nr y).L≤100000000000:=by rw[NI.L_nrm];exact h2
 refine wk4 ?_ (λhq=>?_) (λhq=>?_) λhq=>?_;all_goals(try simp only[dD,bg,<-anP])
 all_goals(try simp only[dD,bg]at hq)
 all_goals first
  |exact bQ _
  |(refine⟨bQ _,bQ _,?_,M1,M2⟩;unfold fC at hq;omega)
  |(have hy:0<y:=by unfold fC at hq;omega
    refine⟨(y,x % y),[],⟨⟨h2,als (fK (aoE _ _)) h1,?_⟩,al8 _ hy⟩,?_⟩
    ·simp only
     rw[<-h3,aoG y,<-Nat.gcd_rec,aoG]
    exact wk0;all_goals skip)
  |(have hy:y=0:=by unfold fC at hq;omega
    subst hy;rw[<-h3,Nat.gcd_zero_right];exact Sup.of rfl)
def Ya:PSp:=λxs K=>match xs with| [p,q]=>ni1 p λa=>ni1 q λb=>VC (a.OK/\b.OK/\a.L≤100000000000/\b.L≤100000000000)/\K (niV (nr (aoF a.val.natAbs b.val.natAbs)))|_=>False
theorem Ut:POK Tryz.prog 178 Ya:=wU (C:=λa b=>a.OK/\b.OK/\a.L≤100000000000/\b.L≤100000000000) (r:=λa b=>niV (nr (aoF a.val.natAbs b.val.natAbs))) λa b h=>X9 a b h.1 h.2.1 h.2.2.1 h.2.2.2
noncomputable def aj5:CPT:=ay 108 (aU ofP) (ay 110 (aU uT) noC)
theorem Nc:aZ Tryz.prog aj5:=aj (aF oU) (aj (aF pI) aC)
theorem and_one:∀k:Nat,k≤18->IntKind.i64.wrap ((alK IntKind.i64.bits (k:Int)&&& alK IntKind.i64.bits 1).toNat:Int)=((k % 2:Nat):Int):=qqD
theorem Uu:∀k:Nat,k≤19->10 ^ k<18446744073709551616:=qqD
theorem Yb (n:Nat) (h1:1≤n) (hn:n≤18):aB Tryz.prog 229 [.agg [.int .i64 10,.nils],.int .i64 n] (niV (nr (10 ^ n))):=by
 have ho:∀k,k≤19->(nr (10 ^ k)).L≤100000000000:=λk hk=>by
  rw[NI.L_nrm];exact als (ow (Uu k hk)) qqD
 have e10:nr (10 ^ 1)=⟨10,[]⟩:=iZ qqO;have e1:nr (10 ^ 0)=⟨1,[]⟩:=iZ qqO;refine au (md:=1) (rf:=[]) mixed ak Nc Tryz.func229 qqR qqR qqR ?_;refine wk1 ?_;conv=>whnf
 refine aR (X:=Nat × Nat × Nat) (λx=>x.1+x.2.1*x.2.2=n/\1≤x.2.1/\x.2.1≤18) (λx=>[(1,.int .i64 x.2.2)]) (λx=>[(0,.cells (.pv [.int .i64 (nr (10 ^ x.2.1)).s,.nnl (.ints .u64 (nr (10 ^ x.2.1)).w)]) false),(6,.cells (.pv [.int .i64 (nr (10 ^ x.1)).s,.nnl (.ints .u64 (nr (10 ^ x.1)).w)]) false)]) (λx=>x.2.2) (0,1,n) ⟨aH,mixed,ak,Nc,aN⟩ qqR ⟨qqS,qqS,qqS⟩ ?_ ?_
 ·rw[e10,e1]
  exact wk0;all_goals skip
 intro⟨o,m,k⟩ ⟨h1,h2,h3⟩;simp only at h1 h2 h3;have hmk:k≤m*k:=aow _ h2;have hand:=and_one k qqO;have hsh:(k:Int) / 2 ^ an8 1=((k / 2:Nat):Int):=by rw[show(2:Int) ^ an8 1=2 from rfl];omega
 have hb:an8 1≤IntKind.i64.bits:=qqD;have hmul:∀o m,nrm ((nr (10 ^ o)).val*(nr (10 ^ m)).val)=nr (10 ^ (o+m)):=λo m=>by
  rw[bg,bg,<-an9,<-anI]
 have hok:∀k,(nr (10 ^ k)).OK:=λk=>bQ _;have hM:∀o m,o+m≤19->(nr (10 ^ o)).OK/\(nr (10 ^ m)).OK/\(nr (10 ^ o)).L≤100000000000/\(nr (10 ^ m)).L≤100000000000:=λo m h=>⟨hok _,hok _,ho _ qqO,ho _ qqO⟩;by_cases hk0:k=0
 ·subst hk0
  rw[Nat.mul_zero,alg]at h1;subst h1;clear hand hsh;refine wk1 λhq=>?_;all_goals exact Sup.of rfl
 have hdm:=al7 k 2;have hk2:1<k->m+m≤m*k:=λh=>by
  have:=anS m (show 2≤k by omega)
  omega
 have hsum:∀r,k % 2=r->m*k=(m+m)*(k / 2)+m*r:=λr hr=>by
  have:m*k=m*(2*(k / 2)+r):=by rw[<-hr,hdm]
  rw[this];grind
 by_cases hk1:k=1
 ·subst hk1
  rw[alV]at h1;refine wk2 (λhq hq=>?_) λhq hq hq=>?_;all_goals(try simp only[dD,hmul,hsh])
  all_goals first
   |exact hM _ _ qqO
   |exact⟨hok _,hok _,ho _ qqO⟩
   |exact hb
   |(refine⟨(o+m,m,0),[],⟨⟨by simp only;omega,h2,h3⟩,qqS⟩,?_⟩
     exact wk0;all_goals skip)
 have hk2:=hk2 qqO;by_cases hp:k % 2=1
 ·have hs:=hsum 1 hp
  rw[hp]at hand;refine wk3 (λhq hq=>?_) (λhq hq hq=>?_) λhq hq hq=>?_;all_goals(try simp only[dD,hmul,hsh])
  all_goals first
   |exact hM _ _ qqO
   |exact⟨hok _,hok _,ho _ qqO⟩
   |exact hb
   |(refine⟨(o+m,m+m,k / 2),[],⟨⟨by simp only;omega,by simp only;omega,by simp only;omega⟩,by simp only;omega⟩,?_⟩
     exact wk0;all_goals skip)
 ·have hp:k % 2=0:=qqO
  have hs:=hsum 0 hp;rw[hp]at hand;refine wk2 (λhq hq hq=>?_) λhq hq hq=>?_;all_goals(try simp only[dD,hmul,hsh])
  all_goals first
   |exact hM _ _ qqO
   |exact⟨hok _,hok _,ho _ qqO⟩
   |exact hb
   |(refine⟨(o,m+m,k / 2),[],⟨⟨by simp only;omega,by simp only;omega,by simp only;omega⟩,by simp only;omega⟩,?_⟩
     exact wk0;all_goals skip)
def Ju:PSp:=λxs K=>match xs with
 | [.agg [.int .i64 b,.nils],.int .i64 n]=>VC (b=10/\1≤n/\n≤18)/\K (niV (nr (10 ^ n.toNat)))
 |_=>False
theorem Yc:POK Tryz.prog 229 Ju:=by
 intro xs K hk;unfold Ju at hk;split at hk
 ·obtain⟨h1,h2,h3⟩:=hk.1.get
  rename_i b n;subst h1;obtain⟨m,rfl⟩:=an2 (show 0≤n by omega)
  exact⟨_,hk.2,Yb m qqO qqO⟩
 ·exact hk.elim
theorem QC (n:Int):aB Tryz.prog 120 [.agg [.int .i64 n,.nils]] (.tup [.int .i64 n,.bp true]):=by
 refine au (md:=1) (rf:=[]) mixed ak aC Tryz.func120 qqR qqR qqR ?_;refine wk1 ?_;all_goals(refine Sup.via ?_;repeat'((conv=>whnf);first|intro _|apply aI|exact aD|apply nM|apply fM);all_goals((try apply vM);(try simp only[vq]at*);try omega))
def Uv:PSp:=λxs K=>match xs with| [p]=>ni1 p λa=>VC (a.w=[])/\K (.tup [.int .i64 a.s,.bp true])|_=>False
theorem Yd:POK Tryz.prog 120 Uv:=uO (C:=λa=>a.w=[]) (r:=λa=>.tup [.int .i64 a.s,.bp true]) λa h=>dh (λS w vs hA=>DZ (λv hv=>(qz hv).1 h) hA) (QC a.s)
def qX (x:Nat):Nat:=if x=0 then 0 else 64*(Lw x-1)+Go.Lib.bitLen ((dl W x).getD (Lw x-1) 0).toNat
theorem Ye (x:Nat):x<2 ^ qX x:=by
 unfold qX;split
 ·rename_i h;subst h;simp
 ·rename_i h
  have hl:0<Lw x:=al5 λh'=>h ((fD W2).1 (amT.1 h'));obtain⟨k,hk⟩:∃k,Lw x=k+1:=⟨Lw x-1,qqO⟩;have hlt:=qW x;have hge:=jI W2 x k hk;have hp:=pw W2 k;rw[hk,anw,bG W2,anG];rw[hk,anu]at hlt;have h1:1≤x / W ^ k:=(al9 hp).2 qqO;have h2:x / W ^ k<W:=(al6 hp).2 (by rw[alP];exact hlt)
  rw[alT h2];obtain⟨a,b,c⟩:=Go.Lib.bitLenAux_bounds 64 (x / W ^ k) h2 qqO;have h3:x<(x / W ^ k+1)*W ^ k:=by rw[alP];exact aou x hp
  have h4:(x / W ^ k+1)*W ^ k≤2 ^ Go.Lib.bitLen (x / W ^ k)*W ^ k:=al2 _ c;have h5:2 ^ (64*k+Go.Lib.bitLen (x / W ^ k))=2 ^ Go.Lib.bitLen (x / W ^ k)*W ^ k:=by
   rw[anI,Nat.pow_mul,alP]
  rw[h5];exact alp h3 h4
noncomputable def aj6:CPT:=ay 184 (aU nG) (ay 266 (aJ Qw) noC)
theorem ad4:aZ Tryz.prog aj6:=aj (aF lU) (aj (aA Uj) aC)
theorem Uw (a:NI) (ha:a.OK) (hLa:a.L≤100000000000):aB Tryz.prog 260 [niV a] (.int .i64 (qX a.val.natAbs:Nat)):=by
 have hL:(dl W a.val.natAbs).length≤100000000000:=hLa;have hu:qX a.val.natAbs=if a.val.natAbs=0 then 0 else 64*((dl W a.val.natAbs).length-1)+Go.Lib.bitLen ((dl W a.val.natAbs).getD ((dl W a.val.natAbs).length-1) 0).toNat:=rfl;have h0:(dl W a.val.natAbs).length=0↔a.val.natAbs=0:=by rw[amT];exact fD W2
 have hd:=rG a.val.natAbs ((dl W a.val.natAbs).length-1);have hle:=Ef ((dl W a.val.natAbs).getD ((dl W a.val.natAbs).length-1) 0);have hle2:iH ((dl W a.val.natAbs).getD ((dl W a.val.natAbs).length-1) 0)=((Go.Lib.bitLen ((dl W a.val.natAbs).getD ((dl W a.val.natAbs).length-1) 0).toNat:Nat):Int):=rfl;have et:((((dl W a.val.natAbs).length:Nat):Int)-1).toNat=(dl W a.val.natAbs).length-1:=qqO;refine au (md:=1) (rf:=[]) mixed ak ad4 Tryz.func260 qqR qqR qqR ?_;refine wk8 (λhq=>?_) (λhq=>?_) (λhq=>?_) (λhq=>?_) (λhq=>?_) (λhq=>?_) (λhq=>?_) λhq=>?_;all_goals(try simp only[dD,et])
 all_goals(try simp only[dD]at hq)
 all_goals first
  |exact ha
  |exact hd
  |omega
  |(rw[hu,if_pos (h0.1 qqO)];exact Sup.of rfl)
  |(rw[hu,if_neg (λh=>by have:=h0.2 h;omega),hle2];refine Sup.of (congrArg (PV.int .i64) ?_);omega)
def abv:PSp:=λxs K=>match xs with| [p]=>ni1 p λa=>VC (a.OK/\a.L≤100000000000)/\K (.int .i64 (qX a.val.natAbs:Nat))|_=>False
theorem ad5:POK Tryz.prog 260 abv:=uO (C:=λa=>a.OK/\a.L≤100000000000) (r:=λa=>.int .i64 (qX a.val.natAbs:Nat)) λa h=>Uw a h.1 h.2
end Go.Eng.YtmkagljofpddpaaGreatDoor
