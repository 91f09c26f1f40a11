/- Contracts of functions of the program: what each returns. Their conditions stand in them. -/
import Derived.Test.YtcechbdgokjmgaaGreatDoorHSolutionsa
namespace Go.Eng.YtcechbdgokjmgaaGreatDoor
open Go.Proofs Go.RowKit
set_option linter.unusedSimpArgs false
set_option linter.unusedVariables false
set_option maxHeartbeats 0
set_option maxRecDepth 100000
abbrev kMi:ByteArray:=⟨#[45]⟩
abbrev kZe:ByteArray:=⟨#[48]⟩
def dgI (x:Int):Bool:=decide (48≤x)&&decide (x≤57)
structure FmB (z:ByteArray):Prop where
 n0:0<z.size
 n9:z.size≤9
 z0:z.size=1∨((z.data.getD 0 0).toNat:Int)≠48
def Ap (z:ByteArray):Prop:=FmB z∧(dw z).all dgI=true
noncomputable instance (z:ByteArray):Decidable (Ap z):=Classical.propDecidable _
def Mk (s:ByteArray) (sg:Bool):Prop:=preB s kMi=true∧(sg=false∨jV s kMi=kZe)
noncomputable instance (s:ByteArray) (sg:Bool):Decidable (Mk s sg):=Classical.propDecidable _
noncomputable def fq (s:ByteArray) (sg:Bool):Option Int:=if Ap (jV s kMi)∧¬Mk s sg then Go.Lib.atoi s.data.toList else none
theorem Fu (z:ByteArray):(dw z).length=z.size:=by unfold dw;rw[List.length_map,Array.length_toList];rfl
theorem Fv:∀(l:List UInt8) (acc:Nat),(∀b∈l,48≤b.toNat∧b.toNat≤57)→∃n,Go.Lib.decFrom acc l=some n:=by
 intro l
 induction l with
 |nil=>intro acc _;exact⟨acc,rfl⟩
 |cons b r ih=>
  intro acc h
  have hb:=h b (List.mem_cons_self ..)
  have hd:∃d,Go.Lib.digitVal b=some d:=by
   unfold Go.Lib.digitVal
   rw[if_pos hb]
   exact⟨_,rfl⟩
  obtain⟨d,hd⟩:=hd
  unfold Go.Lib.decFrom
  rw[hd]
  exact ih _ fun x hx=>h x (List.mem_cons_of_mem _ hx)
theorem decNat_some {l:List UInt8} (hl:l≠[]) (h:∀b∈l,48≤b.toNat∧b.toNat≤57):∃n,Go.Lib.decNat l=some n:=by
 unfold Go.Lib.decNat
 rw[if_neg (by simpa using hl)]
 exact Fv l 0 h
theorem Yc {z:ByteArray} (h:Ap z):z.data.toList≠[]∧∀b∈z.data.toList,48≤b.toNat∧b.toNat≤57:=by
 obtain⟨h1,h2⟩:=h
 refine⟨fun e=>?_,fun b hb=>?_⟩
 ·have:=h1.n0
  rw[←Fu]at this
  unfold dw at this
  rw[e]at this
  exact absurd this (by decide)
 ·rw[List.all_eq_true]at h2
  have:=h2 (b.toNat:Int) (List.mem_map.2 ⟨b,hb,rfl⟩)
  unfold dgI at this
  rw[Bool.and_eq_true,decide_eq_true_eq,decide_eq_true_eq]at this
  omega
theorem RI {s:ByteArray} (h:Ap (jV s kMi)):∃n,Go.Lib.atoi s.data.toList=some n:=by
 have hd:=Yc h
 unfold jV Go.Lib.trimPrefix at hd
 cases hl:s.data.toList with
 |nil=>rw[hl]at hd;exact absurd rfl hd.1
 |cons b r=>
  rw[hl]at hd
  unfold Go.Lib.atoi
  by_cases e:b=45
  ·subst e
   rw[if_pos (by simp[Go.Lib.hasPrefix,List.isPrefixOf])]at hd
   obtain⟨n,hn⟩:=decNat_some (l:=r) hd.1 hd.2
   exact⟨-(n:Int),by simp[hn]⟩
  ·have hp:¬Go.Lib.hasPrefix (b::r) kMi.data.toList=true:=by
    simp[Go.Lib.hasPrefix,List.isPrefixOf]
    exact fun e'=>e e'.symm
   rw[if_neg hp]at hd
   have hb:=hd.2 b (List.mem_cons_self ..)
   obtain⟨n,hn⟩:=decNat_some (l:=b::r) hd.1 hd.2
   have e43:b≠43:=fun e'=>by subst e';exact absurd hb.1 (by decide)
   exact⟨(n:Int),by simp[hn,e,e43]⟩
theorem RJ {s p:ByteArray}:s.size≤(jV s p).size+p.size:=by
 have e1:s.size=s.data.toList.length:=by rw[Array.length_toList];rfl
 have e2:p.size=p.data.toList.length:=by rw[Array.length_toList];rfl
 have e3:(jV s p).size=(Go.Lib.trimPrefix s.data.toList p.data.toList).length:=by
  show(List.toArray _).size=_
  rw[List.size_toArray]
 rw[e1,e2,e3]
 unfold Go.Lib.trimPrefix
 split
 ·rw[List.length_drop];omega
 ·omega
def Fx (o:Option Int):PV:=match o with
 |none=>.tup [.int .i64 0,.bp false]
 |some n=>.tup [.int .i64 n,.bp true]
noncomputable def abX:CPT:=aA 229 (aB Rj) (aA 230 (aB Lh) noC)
theorem gF:aY Tryz.prog abX:=aj (au aaD) (aj (au Xq) aD)
theorem kX:Sup (bF [PV.int .i64 0,PV.bool false]) (Fx none):=⟨fun hr=>by
 cases hr with
 |tup _ _ vs hl hh=>
  refine .tup _ _ _ hl fun i hi=>?_
  have:=hh i hi
  obtain rfl|rfl:i=0∨i=1:=by simp at hi;omega
  ·exact this
  ·simp only[aC]at this⊢
   generalize vs.getD 1 undef=v1 at this
   cases this;exact .bp _ _⟩
theorem vR (n:Int):Sup (bF [PV.int .i64 n,PV.bool true]) (Fx (some n)):=⟨fun hr=>by
 cases hr with
 |tup _ _ vs hl hh=>
  refine .tup _ _ _ hl fun i hi=>?_
  have:=hh i hi
  obtain rfl|rfl:i=0∨i=1:=by simp at hi;omega
  ·exact this
  ·simp only[aC]at this⊢
   generalize vs.getD 1 undef=v1 at this
   cases this;exact .bp _ _⟩
theorem RL (s:ByteArray) (sg:Bool) (hs:s.size≤1000000):aG Tryz.prog 202 [.str s,.bp sg] (Fx (fq s sg)):=by
 have hcs:(jV s kMi).size≤1000000:=by
  have e3:(jV s kMi).size=(Go.Lib.trimPrefix s.data.toList kMi.data.toList).length:=by
   show(List.toArray _).size=_
   rw[List.size_toArray]
  have e1:s.size=s.data.toList.length:=by rw[Array.length_toList];rfl
  rw[e3]
  unfold Go.Lib.trimPrefix
  split
  ·rw[List.length_drop];omega
  ·omega
 have hcz:=RJ (s:=s) (p:=kMi)
 have hbl:=Fu (jV s kMi)
 obtain⟨z,hz⟩:∃z,jV s kMi=z:=⟨_,rfl⟩
 by_cases hF:FmB z
 case neg=>
  rw[show fq s sg=none by unfold fq;rw[hz,if_neg (fun e=>hF e.1.1)]]
  rw[hz]at hcs hcz hbl
  by_cases h0:z.size=0
  ·skip
   refine av (md:=1) (rf:=[]) mixed ak gF Tryz.func202 (by rfl) (by rfl) (by rfl) ?_
   repeat'((conv=>whnf);first|(intro hq;(try simp only[vw]at hq);try first|exact absurd hq (by decide)|exfalso;omega)|apply aI|with_reducible exact vM rfl|exact⟨⟩|apply nM|apply fM)
   all_goals((try apply vM);(try simp only[vq]at*);try omega)
   all_goals(try rw[hz]at*)
   all_goals(try omega)
   all_goals(conv=>whnf)
   all_goals(refine aM (X:=Nat) (fun i=>i≤z.size) (fun i=>[(39,.int .i64 i),(8,.bp false)]) (fun i=>[]) (fun i=>z.size-i) 0 ⟨aK,mixed,ak,gF,aQ⟩ (by rfl) (by omega) ?_ ?_)
   ·repeat'((conv=>whnf);first|intro _|apply aI|with_reducible exact vM rfl|exact⟨⟩|apply nM|apply fM)
    all_goals((try apply vM);(try simp only[vq]at*);try omega)
    all_goals(try exact decide_eq_false (fun e=>e hz0.2))
   intro i hi
   by_cases hlt:i<z.size
   ·repeat'((conv=>whnf);first|(intro hq;(try simp only[vw]at hq);try first|exact absurd hq (by decide)|exfalso;omega)|apply aI|with_reducible exact vM rfl|exact⟨⟩|apply nM|apply fM)
    all_goals((try apply vM);(try simp only[vq]at*);try omega)
    all_goals(try omega)
    all_goals refine⟨i+1,[],⟨by omega,by omega⟩,?_⟩
    all_goals repeat'((conv=>whnf);first|intro _|apply aI|with_reducible exact vM rfl|exact⟨⟩|apply nM|apply fM)
    all_goals all_goals((try apply vM);(try simp only[vq]at*);try omega)
   have e:i=z.size:=by omega
   subst e
   repeat'((conv=>whnf);first|(intro hq;(try simp only[vw]at hq);try first|exact absurd hq (by decide)|exfalso;omega)|apply aI|with_reducible exact vM rfl|exact⟨⟩|apply nM|apply fM)
   all_goals((try apply vM);(try simp only[vq]at*);try omega)
   all_goals first|omega|exact kX|skip
  by_cases h9:9<z.size
  ·skip
   refine av (md:=1) (rf:=[]) mixed ak gF Tryz.func202 (by rfl) (by rfl) (by rfl) ?_
   repeat'((conv=>whnf);first|(intro hq;(try simp only[vw]at hq);try first|exact absurd hq (by decide)|exfalso;omega)|apply aI|with_reducible exact vM rfl|exact⟨⟩|apply nM|apply fM)
   all_goals((try apply vM);(try simp only[vq]at*);try omega)
   all_goals(try rw[hz]at*)
   all_goals(try omega)
   all_goals(conv=>whnf)
   all_goals(refine aM (X:=Nat) (fun i=>i≤z.size) (fun i=>[(39,.int .i64 i),(8,.bp false)]) (fun i=>[]) (fun i=>z.size-i) 0 ⟨aK,mixed,ak,gF,aQ⟩ (by rfl) (by omega) ?_ ?_)
   ·repeat'((conv=>whnf);first|intro _|apply aI|with_reducible exact vM rfl|exact⟨⟩|apply nM|apply fM)
    all_goals((try apply vM);(try simp only[vq]at*);try omega)
    all_goals(try exact decide_eq_false (fun e=>e hz0.2))
   intro i hi
   by_cases hlt:i<z.size
   ·repeat'((conv=>whnf);first|(intro hq;(try simp only[vw]at hq);try first|exact absurd hq (by decide)|exfalso;omega)|apply aI|with_reducible exact vM rfl|exact⟨⟩|apply nM|apply fM)
    all_goals((try apply vM);(try simp only[vq]at*);try omega)
    all_goals(try omega)
    all_goals refine⟨i+1,[],⟨by omega,by omega⟩,?_⟩
    all_goals repeat'((conv=>whnf);first|intro _|apply aI|with_reducible exact vM rfl|exact⟨⟩|apply nM|apply fM)
    all_goals all_goals((try apply vM);(try simp only[vq]at*);try omega)
   have e:i=z.size:=by omega
   subst e
   repeat'((conv=>whnf);first|(intro hq;(try simp only[vw]at hq);try first|exact absurd hq (by decide)|exfalso;omega)|apply aI|with_reducible exact vM rfl|exact⟨⟩|apply nM|apply fM)
   all_goals((try apply vM);(try simp only[vq]at*);try omega)
   all_goals first|omega|exact kX|skip
  have hz0:z.size≠1∧((z.data.getD (Int.toNat 0) 0).toNat:Int)=48:=by
   constructor
   ·exact fun e=>hF ⟨by omega,by omega,.inl e⟩
   ·exact Classical.not_not.1 fun e=>hF ⟨by omega,by omega,.inr e⟩
  refine av (md:=1) (rf:=[]) mixed ak gF Tryz.func202 (by rfl) (by rfl) (by rfl) ?_
  repeat'((conv=>whnf);first|(intro hq;(try simp only[vw]at hq);try first|exact absurd hq (by decide)|exfalso;omega)|apply aI|with_reducible exact vM rfl|exact⟨⟩|apply nM|apply fM)
  all_goals((try apply vM);(try simp only[vq]at*);try omega)
  all_goals(try rw[hz]at*)
  all_goals(try omega)
  all_goals(conv=>whnf)
  all_goals(refine aM (X:=Nat) (fun i=>i≤z.size) (fun i=>[(39,.int .i64 i),(8,.bp false)]) (fun i=>[]) (fun i=>z.size-i) 0 ⟨aK,mixed,ak,gF,aQ⟩ (by rfl) (by omega) ?_ ?_)
  ·repeat'((conv=>whnf);first|intro _|apply aI|with_reducible exact vM rfl|exact⟨⟩|apply nM|apply fM)
   all_goals((try apply vM);(try simp only[vq]at*);try omega)
   all_goals(try exact decide_eq_false (fun e=>e hz0.2))
  intro i hi
  by_cases hlt:i<z.size
  ·repeat'((conv=>whnf);first|(intro hq;(try simp only[vw]at hq);try first|exact absurd hq (by decide)|exfalso;omega)|apply aI|with_reducible exact vM rfl|exact⟨⟩|apply nM|apply fM)
   all_goals((try apply vM);(try simp only[vq]at*);try omega)
   all_goals(try omega)
   all_goals refine⟨i+1,[],⟨by omega,by omega⟩,?_⟩
   all_goals repeat'((conv=>whnf);first|intro _|apply aI|with_reducible exact vM rfl|exact⟨⟩|apply nM|apply fM)
   all_goals all_goals((try apply vM);(try simp only[vq]at*);try omega)
  have e:i=z.size:=by omega
  subst e
  repeat'((conv=>whnf);first|(intro hq;(try simp only[vw]at hq);try first|exact absurd hq (by decide)|exfalso;omega)|apply aI|with_reducible exact vM rfl|exact⟨⟩|apply nM|apply fM)
  all_goals((try apply vM);(try simp only[vq]at*);try omega)
  all_goals first|omega|exact kX|skip
 have hN:(dw z).all dgI=false→fq s sg=none:=fun e=>by
  unfold fq;rw[hz,if_neg];exact fun h=>by have:=h.1.2;rw[e]at this;exact absurd this (by decide)
 have hB1:preB s ⟨#[45]⟩=true→sg=false→fq s sg=none:=fun a b=>by
  unfold fq;rw[if_neg];exact fun h=>h.2 ⟨a,.inl b⟩
 have hB2:preB s ⟨#[45]⟩=true→z=⟨#[48]⟩→fq s sg=none:=fun a b=>by
  unfold fq;rw[if_neg];exact fun h=>h.2 ⟨a,.inr (hz.trans b)⟩
 obtain⟨n,hn⟩:∃n,(dw z).all dgI=true→Go.Lib.atoi s.data.toList=some n:=by
  by_cases e:(dw z).all dgI=true
  ·obtain⟨n,hn⟩:=RI (s:=s) (by rw[hz];exact⟨hF,e⟩)
   exact⟨n,fun _=>hn⟩
  ·exact⟨0,fun h=>absurd h e⟩
 have hY1:(dw z).all dgI=true→preB s ⟨#[45]⟩=false→fq s sg=some n:=fun e a=>by
  unfold fq;rw[hz,if_pos ⟨⟨hF,e⟩,fun h=>by have h1:=h.1;rw[a]at h1;exact absurd h1 (by decide)⟩];exact hn e
 have hY2:(dw z).all dgI=true→sg=true→z≠⟨#[48]⟩→fq s sg=some n:=fun e a b=>by
  unfold fq;rw[hz,if_pos ⟨⟨hF,e⟩,fun h=>by
   rcases h.2 with h|h
   ·rw[a]at h;exact absurd h (by decide)
   ·exact b (hz.symm.trans h)⟩];exact hn e
 have hs18:s.size≤18:=by
  have:=hF.n9
  have:kMi.size=1:=rfl
  rw[hz]at hcz
  omega
 rw[hz]at hcs hcz hbl
 have h0:=hF.n0
 have h9:=hF.n9
 have hz0:z.size=1∨((z.data.getD (Int.toNat 0) 0).toNat:Int)≠48:=hF.z0
 have hdg:∀i,i<z.size→((dw z).take (i+1)).all dgI=(((dw z).take i).all dgI&&dgI ((dw z).getD i 0)):=fun i hi=>by
  rw[List.take_add_one,List.all_append,List.getElem?_eq_getElem (by omega),List.getD_eq_getElem?_getD,List.getElem?_eq_getElem (by omega)]
  simp
 by_cases h1:z.size=1
 ·skip
  refine av (md:=1) (rf:=[]) mixed ak gF Tryz.func202 (by rfl) (by rfl) (by rfl) ?_
  repeat'((conv=>whnf);first|(intro hq;(try simp only[vw]at hq);try first|exact absurd hq (by decide)|exfalso;omega)|apply aI|with_reducible exact vM rfl|exact⟨⟩|apply nM|apply fM)
  all_goals((try apply vM);(try simp only[vq]at*);try omega)
  all_goals(try rw[hz]at*)
  all_goals(try omega)
  conv=>whnf
  refine aM (X:=Nat) (fun i=>i≤z.size) (fun i=>[(39,.int .i64 i),(8,.bp (((dw z).take i).all dgI))]) (fun i=>[]) (fun i=>z.size-i) 0 ⟨aK,mixed,ak,gF,aQ⟩ (by rfl) (by omega) ?_ ?_
  ·repeat'((conv=>whnf);first|intro _|apply aI|with_reducible exact vM rfl|exact⟨⟩|apply nM|apply fM)
   all_goals((try apply vM);(try simp only[vq]at*);try omega)
   all_goals first|exact decide_eq_true hz1|skip
  intro i hi
  by_cases hlt:i<z.size
  ·have hd:=hdg i hlt
   repeat'((conv=>whnf);first|(intro hq;(try simp only[vw]at hq);try first|exact absurd hq (by decide)|exfalso;omega)|apply aI|with_reducible exact vM rfl|exact⟨⟩|apply nM|apply fM)
   all_goals((try apply vM);(try simp only[vq]at*);try omega)
   all_goals(try omega)
   all_goals refine⟨i+1,[],⟨by omega,by omega⟩,?_⟩
   all_goals repeat'((conv=>whnf);first|intro _|apply aI|with_reducible exact vM rfl|exact⟨⟩|apply nM|apply fM)
   all_goals all_goals((try apply vM);(try simp only[vq]at*);try omega)
   all_goals(rw[hd])
   all_goals(clear hd)
   ·have hq2:(48:Int)≤(dw z).getD i 0:=hq
    show decide ((dw z).getD i 0≤57)=_
    have ht:(List.take i (dw z)).all dgI=true:=by assumption
    rw[ht]
    generalize(dw z).getD i 0=x at hq2⊢
    show _=(true&&(decide (48≤x)&&decide (x≤57)))
    rw[decide_eq_true hq2]
    simp
   ·have hq2:¬(48:Int)≤(dw z).getD i 0:=hq
    generalize(dw z).getD i 0=x at hq2⊢
    unfold dgI
    rw[decide_eq_false hq2]
    simp
   ·simp[*]
  have e:i=z.size:=by omega
  subst e
  have ha:(dw z).take z.size=dw z:=by rw[←hbl,List.take_length]
  rw[ha]
  repeat'((conv=>whnf);first|(intro hq;(try simp only[vw]at hq);try first|exact absurd hq (by decide)|exfalso;omega)|apply aI|with_reducible exact vM rfl|exact⟨⟩|apply nM|apply fM)
  all_goals((try apply vM);(try simp only[vq]at*);try omega)
  all_goals(try omega)
  all_goals first|(rw[hN (by assumption)];exact kX)|(rw[hB1 (by assumption) (by assumption)];exact kX)|(rw[hB2 (by assumption) (by assumption)];exact kX)|skip
  all_goals(conv=>whnf)
  all_goals repeat'((conv=>whnf);first|apply Exists.intro (n)|(intro hq;(try simp only[vw]at hq);try first|exact absurd hq (by decide)|exfalso;omega)|apply aI|with_reducible exact vM rfl|exact⟨⟩|apply nM|apply fM)
  all_goals all_goals((try apply vM);(try simp only[vq]at*);try omega)
  all_goals first|(refine And.intro hs18 (hn ?_);assumption)|(rw[hY1 (by assumption) (by assumption)];exact vR n)|(rw[hY2 (by assumption) (by assumption) (by assumption)];exact vR n)
 ·have hz1:((z.data.getD (Int.toNat 0) 0).toNat:Int)≠48:=by
   rcases hz0 with e|e
   ·exact absurd e h1
   ·exact e
  refine av (md:=1) (rf:=[]) mixed ak gF Tryz.func202 (by rfl) (by rfl) (by rfl) ?_
  repeat'((conv=>whnf);first|(intro hq;(try simp only[vw]at hq);try first|exact absurd hq (by decide)|exfalso;omega)|apply aI|with_reducible exact vM rfl|exact⟨⟩|apply nM|apply fM)
  all_goals((try apply vM);(try simp only[vq]at*);try omega)
  all_goals(try rw[hz]at*)
  all_goals(try omega)
  conv=>whnf
  refine aM (X:=Nat) (fun i=>i≤z.size) (fun i=>[(39,.int .i64 i),(8,.bp (((dw z).take i).all dgI))]) (fun i=>[]) (fun i=>z.size-i) 0 ⟨aK,mixed,ak,gF,aQ⟩ (by rfl) (by omega) ?_ ?_
  ·repeat'((conv=>whnf);first|intro _|apply aI|with_reducible exact vM rfl|exact⟨⟩|apply nM|apply fM)
   all_goals((try apply vM);(try simp only[vq]at*);try omega)
   all_goals first|exact decide_eq_true hz1|skip
  intro i hi
  by_cases hlt:i<z.size
  ·have hd:=hdg i hlt
   repeat'((conv=>whnf);first|(intro hq;(try simp only[vw]at hq);try first|exact absurd hq (by decide)|exfalso;omega)|apply aI|with_reducible exact vM rfl|exact⟨⟩|apply nM|apply fM)
   all_goals((try apply vM);(try simp only[vq]at*);try omega)
   all_goals(try omega)
   all_goals refine⟨i+1,[],⟨by omega,by omega⟩,?_⟩
   all_goals repeat'((conv=>whnf);first|intro _|apply aI|with_reducible exact vM rfl|exact⟨⟩|apply nM|apply fM)
   all_goals all_goals((try apply vM);(try simp only[vq]at*);try omega)
   all_goals(rw[hd])
   all_goals(clear hd)
   ·have hq2:(48:Int)≤(dw z).getD i 0:=hq
    show decide ((dw z).getD i 0≤57)=_
    have ht:(List.take i (dw z)).all dgI=true:=by assumption
    rw[ht]
    generalize(dw z).getD i 0=x at hq2⊢
    show _=(true&&(decide (48≤x)&&decide (x≤57)))
    rw[decide_eq_true hq2]
    simp
   ·have hq2:¬(48:Int)≤(dw z).getD i 0:=hq
    generalize(dw z).getD i 0=x at hq2⊢
    unfold dgI
    rw[decide_eq_false hq2]
    simp
   ·simp[*]
  have e:i=z.size:=by omega
  subst e
  have ha:(dw z).take z.size=dw z:=by rw[←hbl,List.take_length]
  rw[ha]
  repeat'((conv=>whnf);first|(intro hq;(try simp only[vw]at hq);try first|exact absurd hq (by decide)|exfalso;omega)|apply aI|with_reducible exact vM rfl|exact⟨⟩|apply nM|apply fM)
  all_goals((try apply vM);(try simp only[vq]at*);try omega)
  all_goals(try omega)
  all_goals first|(rw[hN (by assumption)];exact kX)|(rw[hB1 (by assumption) (by assumption)];exact kX)|(rw[hB2 (by assumption) (by assumption)];exact kX)|skip
  all_goals(conv=>whnf)
  all_goals repeat'((conv=>whnf);first|apply Exists.intro (n)|(intro hq;(try simp only[vw]at hq);try first|exact absurd hq (by decide)|exfalso;omega)|apply aI|with_reducible exact vM rfl|exact⟨⟩|apply nM|apply fM)
  all_goals all_goals((try apply vM);(try simp only[vq]at*);try omega)
  all_goals first|(refine And.intro hs18 (hn ?_);assumption)|(rw[hY1 (by assumption) (by assumption)];exact vR n)|(rw[hY2 (by assumption) (by assumption) (by assumption)];exact vR n)
def RN:PSp:=fun xs K=>match xs with
 | [.str s,.bp sg]=>VC (s.size≤1000000)∧((VC (fq s sg=none)→K (Fx none))∧∀n,VC (fq s sg=some n)→K (Fx (some n)))
 |_=>False
theorem aaS:POK Tryz.prog 202 RN:=by
 intro xs K hk
 unfold RN at hk
 split at hk
 ·obtain⟨⟨h⟩,h1,h2⟩:=hk
  refine⟨_,?_,RL _ _ h⟩
  cases e:fq _ _ with
  |none=>exact h1 ⟨e⟩
  |some n=>exact h2 n ⟨e⟩
 ·exact hk.elim
theorem Fy (c:UInt8):∀l:List UInt8,(∀x∈spl c l,x.length≤l.length)∧(spl c l).length≤l.length+1:=by
 intro l
 induction l with
 |nil=>simp[spl]
 |cons x r ih=>
  unfold spl
  split
  ·refine⟨fun y hy=>?_,by simp;exact ih.2⟩
   rcases List.mem_cons.1 hy with rfl|hy
   ·simp
   ·have:=ih.1 y hy;simp;omega
  ·cases h:spl c r with
   |nil=>exact absurd h (Oo c r)
   |cons a t=>
    rw[h]at ih
    refine⟨fun y hy=>?_,by have:=ih.2;simp at this⊢;omega⟩
    rcases List.mem_cons.1 hy with rfl|hy
    ·have:=ih.1 a (List.mem_cons_self ..);simp;omega
    ·have:=ih.1 y (List.mem_cons_of_mem _ hy);simp;omega
theorem uO {l:List ByteArray} {j:Nat} (h:j<l.length):l.getD j .empty∈l:=by
 rw[List.getD_eq_getElem?_getD,List.getElem?_eq_getElem h];exact List.getElem_mem h
theorem Ca {c:UInt8} {s x:ByteArray} (h:x∈dx c s):x.size≤s.size:=by
 obtain⟨l,hl,rfl⟩:=List.mem_map.1 h
 have:=(Fy c s.data.toList).1 l hl
 rw[Array.length_toList]at this
 exact this
theorem xQ (c:UInt8) (s:ByteArray):1≤(dx c s).length∧(dx c s).length≤s.size+1:=by
 unfold dx
 rw[List.length_map]
 have h1:=(Fy c s.data.toList).2
 rw[Array.length_toList]at h1
 exact⟨List.length_pos_iff.2 (Oo c _),h1⟩
abbrev iK:ByteArray:=⟨#[115,117,109]⟩
noncomputable def numsL (sg:Bool) (ws:List ByteArray):List Int:=ws.map fun x=>(fq x sg).getD 0
def okW (sg:Bool) (ws:List ByteArray):Prop:=∀j,j<ws.length→(fq (ws.getD j .empty) sg).isSome=true
noncomputable instance (sg:Bool) (ws:List ByteArray):Decidable (okW sg ws):=Classical.propDecidable _
noncomputable def bW (s w:ByteArray):Option (List Int):=
 if(dx 32 s).getD 0 .empty=w∧okW (decide (w=iK)) ((dx 32 s).drop 1)then some (numsL (decide (w=iK)) ((dx 32 s).drop 1))else none
def Fz (o:Option (List Int)):PV:=match o with
 |none=>.tup [.nils,.bp false]
 |some l=>.tup [.isl (.ints .i64 l) .none,.bp true]
theorem Jq:Sup (bF [PV.nils,PV.bool false]) (Fz none):=⟨fun hr=>by
 cases hr with
 |tup _ _ vs hl hh=>
  refine .tup _ _ _ hl fun i hi=>?_
  have:=hh i hi
  obtain rfl|rfl:i=0∨i=1:=by simp at hi;omega
  ·exact this
  ·simp only[aC]at this⊢
   generalize vs.getD 1 undef=v1 at this
   cases this;exact .bp _ _⟩
theorem RO (l:List Int):Sup (bF [PV.isl (.ints .i64 l) .none,PV.bool true]) (Fz (some l)):=⟨fun hr=>by
 cases hr with
 |tup _ _ vs hl hh=>
  refine .tup _ _ _ hl fun i hi=>?_
  have:=hh i hi
  obtain rfl|rfl:i=0∨i=1:=by simp at hi;omega
  ·exact this
  ·simp only[aC]at this⊢
   generalize vs.getD 1 undef=v1 at this
   cases this;exact .bp _ _⟩
noncomputable def acX:CPT:=aA 113 (aB zk) (aA 202 (aB RN) noC)
theorem Aq:aY Tryz.prog acX:=aj (au EU) (aj (au aaS) aD)
theorem RP (s w:ByteArray) (hs:s.size≤1000000):aG Tryz.prog 162 [.str s,.str w] (Fz (bW s w)):=by
 have hl:=xQ 32 s
 have hz:∀j,j<(dx 32 s).length→((dx 32 s).getD j .empty).size≤1000000:=fun j hj=>Nat.le_trans (Ca (uO hj)) hs
 obtain⟨W,hW⟩:∃W,dx 32 s=W:=⟨_,rfl⟩
 rw[hW]at hl hz
 by_cases hw:W.getD 0 .empty=w
 case neg=>
  rw[show bW s w=none by unfold bW;rw[hW,if_neg (fun e=>hw e.1)]]
  refine av (md:=1) (rf:=[]) mixed ak Aq Tryz.func162 (by rfl) (by rfl) (by rfl) ?_
  repeat'((conv=>whnf);first|apply Exists.intro (32)|(intro hq;(try simp only[vw]at hq);try first|exact absurd hq (by decide)|exfalso;omega)|apply aI|with_reducible exact vM rfl|exact⟨⟩|apply nM|apply fM)
  all_goals((try apply vM);(try simp only[vq]at*);try omega)
  all_goals(try rw[hW])
  all_goals(try omega)
  all_goals(rw[hW]at hq)
  all_goals first|exact Jq|exact absurd hw hq
 refine av (md:=1) (rf:=[]) mixed ak Aq Tryz.func162 (by rfl) (by rfl) (by rfl) ?_
 repeat'((conv=>whnf);first|apply Exists.intro (32)|(intro hq;(try simp only[vw]at hq);try first|exact absurd hq (by decide)|exfalso;omega)|apply aI|with_reducible exact vM rfl|exact⟨⟩|apply nM|apply fM)
 all_goals((try apply vM);(try simp only[vq]at*);try omega)
 all_goals(try rw[hW])
 all_goals(try omega)
 all_goals(rw[hW]at hq)
 all_goals(try exact absurd hw hq)
 conv=>whnf
 have hD1:(CL.strs W).sub (Int.toNat 1) W.length=.strs (W.drop 1):=by
  show CL.strs ((W.drop 1).take (W.length-1))=_
  rw[←List.length_drop,List.take_length]
 have hD2:List.take (W.length-Int.toNat 1) (List.drop (Int.toNat 1) W)=W.drop 1:=by
  show(W.drop 1).take (W.length-1)=_
  rw[←List.length_drop,List.take_length]
 have hz':∀j,j<(W.drop 1).length→((W.drop 1).getD j .empty).size≤1000000:=fun j hj=>by
  rw[List.length_drop]at hj
  have e:(W.drop 1).getD j .empty=W.getD (1+j) .empty:=by simp[List.getD_eq_getElem?_getD,List.getElem?_drop,Nat.add_comm]
  rw[e];exact hz _ (by omega)
 have hl':(W.drop 1).length≤1000000:=by rw[List.length_drop];omega
 have hno:∀j,j<(W.drop 1).length→fq ((W.drop 1).getD j .empty) (decide (w=iK))=none→bW s w=none:=fun j hj e=>by
  unfold bW;rw[hW,if_neg];exact fun h=>by have:=h.2 j hj;rw[e]at this;exact absurd this (by decide)
 have hyes:okW (decide (w=iK)) (W.drop 1)→bW s w=some (numsL (decide (w=iK)) (W.drop 1)):=fun h=>by
  unfold bW;rw[hW,if_pos ⟨hw,h⟩]
 simp only[hD1,hD2]
 generalize W.drop 1=R at hz' hl' hno hyes⊢
 clear hD1 hD2
 have hap:∀i n,i<R.length→fq (R.getD i .empty) (decide (w=iK))=some n→numsL (decide (w=iK)) (R.take (i+1))=numsL (decide (w=iK)) (R.take i)++[n]:=fun i n hi e=>by
  unfold numsL
  rw[List.take_add_one,List.map_append,List.getElem?_eq_getElem hi]
  rw[List.getD_eq_getElem?_getD,List.getElem?_eq_getElem hi,Option.getD_some]at e
  simp[e]
 have hnl:∀i,i≤R.length→(numsL (decide (w=iK)) (R.take i)).length=i:=fun i hi=>by unfold numsL;rw[List.length_map,List.length_take];omega
 refine aM (X:=Nat) (fun i=>i≤R.length∧∀j,j<i→(fq (R.getD j .empty) (decide (w=iK))).isSome=true) (fun i=>[(22,.int .i64 i),(7,.isl (.ints .i64 (numsL (decide (w=iK)) (R.take i))) (.own 5))]) (fun i=>[(5,.tok 1 (numsL (decide (w=iK)) (R.take i)).length)]) (fun i=>R.length-i) 0 ⟨aK,mixed,ak,Aq,aQ⟩ (by rfl) ⟨by omega,fun j hj=>absurd hj (by omega)⟩ ?_ ?_
 ·repeat'((conv=>whnf);first|intro _|apply aI|with_reducible exact vM rfl|exact⟨⟩|apply nM|apply fM)
  all_goals((try apply vM);(try simp only[vq]at*);try omega)
  all_goals rfl
 intro i ⟨hi,hS⟩
 have hli:=hnl i hi
 by_cases hlt:i<R.length
 ·repeat'((conv=>whnf);first|(intro hq;(try simp only[vw]at hq);try first|exact absurd hq (by decide)|exfalso;omega)|apply aI|with_reducible exact vM rfl|exact⟨⟩|apply nM|apply fM)
  all_goals((try apply vM);(try simp only[vq]at*);try omega)
  all_goals(try omega)
  all_goals(try replace hq:=VC.get hq)
  all_goals first|exact hz' _ hlt|(rw[hno i hlt hq];exact Jq)|(rw[List.length_append,List.length_cons,List.length_nil,hli];omega)|skip
  rename_i n _
  refine⟨i+1,[],⟨⟨by omega,fun j hj=>?_⟩,by omega⟩,?_⟩
  ·rcases Nat.lt_succ_iff_lt_or_eq.1 hj with h|rfl
   ·exact hS j h
   ·rw[show fq (R.getD j .empty) (decide (w=iK))=some n from hq];rfl
  rw[hap i n hlt hq,List.length_append]
  repeat'((conv=>whnf);first|intro _|apply aI|with_reducible exact vM rfl|exact⟨⟩|apply nM|apply fM)
  all_goals((try apply vM);(try simp only[vq]at*);try omega)
  all_goals skip
 have e:i=R.length:=by omega
 subst e
 rw[List.take_length]
 repeat'((conv=>whnf);first|(intro hq;(try simp only[vw]at hq);try first|exact absurd hq (by decide)|exfalso;omega)|apply aI|with_reducible exact vM rfl|exact⟨⟩|apply nM|apply fM)
 all_goals((try apply vM);(try simp only[vq]at*);try omega)
 all_goals(try omega)
 rw[hyes (fun j hj=>hS j hj)]
 exact RO _
def RQ:PSp:=fun xs K=>match xs with
 | [.str s,.str w]=>VC (s.size≤1000000)∧((VC (bW s w=none)→K (Fz none))∧∀l,VC (bW s w=some l)→K (Fz (some l)))
 |_=>False
theorem aaT:POK Tryz.prog 162 RQ:=by
 intro xs K hk
 unfold RQ at hk
 split at hk
 ·obtain⟨⟨h⟩,h1,h2⟩:=hk
  refine⟨_,?_,RP _ _ h⟩
  cases e:bW _ _ with
  |none=>exact h1 ⟨e⟩
  |some n=>exact h2 n ⟨e⟩
 ·exact hk.elim
structure Rd where
 c:Int
 L:List (List Int)
 sum:Int
 gv:List Int
 line:Int
 done:Bool
abbrev FB:ByteArray:=⟨#[99,101,108,108,115]⟩
abbrev Dv:ByteArray:=⟨#[108,105,110,101]⟩
abbrev uP:ByteArray:=⟨#[103,105,118,101,110]⟩
noncomputable def nxt (r:Rd) (s:ByteArray):Bool × Rd:=
 if r.line+1≤2 then
  match bW s (if r.line=0 then FB else iK)with
  |none=>(false,{r with line:=r.line+1})
  |some l=>if l.length≠1 then(false,{r with line:=r.line+1})else if r.line=0 then(true,{r with line:=r.line+1,c:=l.getD 0 0})else(true,{r with line:=r.line+1,sum:=l.getD 0 0})
 else if r.done=true then(false,{r with line:=r.line+1})
 else match bW s Dv with
  |some l=>(true,{r with line:=r.line+1,L:=r.L++[l]})
  |none=>match bW s uP with
   |some l=>(true,{r with line:=r.line+1,gv:=l,done:=true})
   |none=>(false,{r with line:=r.line+1,gv:=[],done:=false})
abbrev rdO (r:Rd):List AO:=[.cells (.pv [.int .i64 r.c,.isl (.rows .i64 r.L) (.own 1),.int .i64 r.sum,.isl (.ints .i64 r.gv) .none,.int .i64 r.line,.bp r.done]) false,.tok 1 r.L.length]
noncomputable def acY:CPT:=aA 162 (aB RQ) noC
theorem iV:aY Tryz.prog acY:=aj (au aaT) aD
theorem clash {o:Option (List Int)} {l:List Int} (a:o=some l) (b:o=none):False:=by rw[a]at b;cases b
theorem RS (r:Rd) (s:ByteArray) (hs:s.size≤1000000) (hl:0≤r.line∧r.line≤1000000) (hL:r.L.length≤1000000):
 jM Tryz.prog 115 [.rp 0 0,.str s] (rdO r) [.bp (nxt r s).1] (rdO (nxt r s).2):=by
 obtain⟨c,L,sum,gv,line,done⟩:=r
 have hl:0≤line∧line≤1000000:=hl
 have hL:L.length≤1000000:=hL
 unfold nxt
 simp only
 by_cases h0:line=0
 ·subst h0
  rw[if_pos (by decide),if_pos rfl]
  cases e:bW s FB with
  |none=>
   refine bJ (md:=1) (rf:=[]) mixed ak iV 2 [] Tryz.func115 (by rfl) (by rfl) (by rfl) ?_
   repeat'((conv=>whnf);first|(intro hq;(try simp only[vw]at hq);try first|exact absurd hq (by decide)|exfalso;omega)|apply aI|with_reducible exact vM rfl|exact⟨⟩|apply nM|apply fM)
   all_goals((try apply vM);(try simp only[vq]at*);try omega)
   all_goals(try(exfalso;omega))
   all_goals(try(exfalso;exact clash (VC.get ‹VC (bW s _=some _)›) e))
   all_goals(try(exfalso;exact clash e (VC.get ‹VC (bW s _=none)›)))
   all_goals first|rfl|omega|exact(by decide:(1:Nat)≤2)|exact(by decide:(2:Nat)≤2)|(rw[List.length_append,List.length_cons,List.length_nil];omega)|(rw[List.length_append,List.length_cons,List.length_nil])
  |some l=>
   by_cases h1:l.length=1
   ·simp only[h1,ne_eq,not_true_eq_false,if_false,if_true]
    refine bJ (md:=1) (rf:=[]) mixed ak iV 2 [] Tryz.func115 (by rfl) (by rfl) (by rfl) ?_
    repeat'((conv=>whnf);first|(intro hq;(try simp only[vw]at hq);try first|exact absurd hq (by decide)|exfalso;omega)|apply aI|with_reducible exact vM rfl|exact⟨⟩|apply nM|apply fM)
    all_goals((try apply vM);(try simp only[vq]at*);try omega)
    all_goals(try(exfalso;omega))
    all_goals(try(exfalso;exact clash (VC.get ‹VC (bW s _=some _)›) e))
    all_goals(try(exfalso;exact clash e (VC.get ‹VC (bW s _=none)›)))
    all_goals(try(obtain rfl:=Option.some.inj ((VC.get ‹VC (bW s _=some _)›).symm.trans e)))
    all_goals first|rfl|omega|exact(by decide:(1:Nat)≤2)|exact(by decide:(2:Nat)≤2)|(rw[List.length_append,List.length_cons,List.length_nil];omega)|(rw[List.length_append,List.length_cons,List.length_nil])
   ·simp only[h1,ne_eq,not_false_eq_true,if_false,if_true]
    refine bJ (md:=1) (rf:=[]) mixed ak iV 2 [] Tryz.func115 (by rfl) (by rfl) (by rfl) ?_
    repeat'((conv=>whnf);first|(intro hq;(try simp only[vw]at hq);try first|exact absurd hq (by decide)|exfalso;omega)|apply aI|with_reducible exact vM rfl|exact⟨⟩|apply nM|apply fM)
    all_goals((try apply vM);(try simp only[vq]at*);try omega)
    all_goals(try(exfalso;omega))
    all_goals(try(exfalso;exact clash (VC.get ‹VC (bW s _=some _)›) e))
    all_goals(try(exfalso;exact clash e (VC.get ‹VC (bW s _=none)›)))
    all_goals(try(obtain rfl:=Option.some.inj ((VC.get ‹VC (bW s _=some _)›).symm.trans e)))
    all_goals first|rfl|omega|exact(by decide:(1:Nat)≤2)|exact(by decide:(2:Nat)≤2)|(rw[List.length_append,List.length_cons,List.length_nil];omega)|(rw[List.length_append,List.length_cons,List.length_nil])
 by_cases h1:line=1
 ·subst h1
  rw[if_pos (by decide),if_neg (by decide)]
  cases e:bW s iK with
  |none=>
   refine bJ (md:=1) (rf:=[]) mixed ak iV 2 [] Tryz.func115 (by rfl) (by rfl) (by rfl) ?_
   repeat'((conv=>whnf);first|(intro hq;(try simp only[vw]at hq);try first|exact absurd hq (by decide)|exfalso;omega)|apply aI|with_reducible exact vM rfl|exact⟨⟩|apply nM|apply fM)
   all_goals((try apply vM);(try simp only[vq]at*);try omega)
   all_goals(try(exfalso;omega))
   all_goals(try(exfalso;exact clash (VC.get ‹VC (bW s _=some _)›) e))
   all_goals(try(exfalso;exact clash e (VC.get ‹VC (bW s _=none)›)))
   all_goals first|rfl|omega|exact(by decide:(1:Nat)≤2)|exact(by decide:(2:Nat)≤2)|(rw[List.length_append,List.length_cons,List.length_nil];omega)|(rw[List.length_append,List.length_cons,List.length_nil])
  |some l=>
   by_cases h1:l.length=1
   ·simp only[h1,ne_eq,not_true_eq_false,if_false]
    rw[if_neg (by decide)]
    refine bJ (md:=1) (rf:=[]) mixed ak iV 2 [] Tryz.func115 (by rfl) (by rfl) (by rfl) ?_
    repeat'((conv=>whnf);first|(intro hq;(try simp only[vw]at hq);try first|exact absurd hq (by decide)|exfalso;omega)|apply aI|with_reducible exact vM rfl|exact⟨⟩|apply nM|apply fM)
    all_goals((try apply vM);(try simp only[vq]at*);try omega)
    all_goals(try(exfalso;omega))
    all_goals(try(exfalso;exact clash (VC.get ‹VC (bW s _=some _)›) e))
    all_goals(try(exfalso;exact clash e (VC.get ‹VC (bW s _=none)›)))
    all_goals(try(obtain rfl:=Option.some.inj ((VC.get ‹VC (bW s _=some _)›).symm.trans e)))
    all_goals first|rfl|omega|exact(by decide:(1:Nat)≤2)|exact(by decide:(2:Nat)≤2)|(rw[List.length_append,List.length_cons,List.length_nil];omega)|(rw[List.length_append,List.length_cons,List.length_nil])
   ·simp only[h1,ne_eq,not_false_eq_true,if_true]
    refine bJ (md:=1) (rf:=[]) mixed ak iV 2 [] Tryz.func115 (by rfl) (by rfl) (by rfl) ?_
    repeat'((conv=>whnf);first|(intro hq;(try simp only[vw]at hq);try first|exact absurd hq (by decide)|exfalso;omega)|apply aI|with_reducible exact vM rfl|exact⟨⟩|apply nM|apply fM)
    all_goals((try apply vM);(try simp only[vq]at*);try omega)
    all_goals(try(exfalso;omega))
    all_goals(try(exfalso;exact clash (VC.get ‹VC (bW s _=some _)›) e))
    all_goals(try(exfalso;exact clash e (VC.get ‹VC (bW s _=none)›)))
    all_goals(try(obtain rfl:=Option.some.inj ((VC.get ‹VC (bW s _=some _)›).symm.trans e)))
    all_goals first|rfl|omega|exact(by decide:(1:Nat)≤2)|exact(by decide:(2:Nat)≤2)|(rw[List.length_append,List.length_cons,List.length_nil];omega)|(rw[List.length_append,List.length_cons,List.length_nil])
 rw[if_neg (by omega)]
 cases done with
 |true=>
  rw[if_pos rfl]
  refine bJ (md:=1) (rf:=[]) mixed ak iV 2 [] Tryz.func115 (by rfl) (by rfl) (by rfl) ?_
  repeat'((conv=>whnf);first|(intro hq;(try simp only[vw]at hq);try first|exact absurd hq (by decide)|exfalso;omega)|apply aI|with_reducible exact vM rfl|exact⟨⟩|apply nM|apply fM)
  all_goals((try apply vM);(try simp only[vq]at*);try omega)
  all_goals(try(exfalso;omega))
  all_goals first|rfl|omega|exact(by decide:(1:Nat)≤2)|exact(by decide:(2:Nat)≤2)|(rw[List.length_append,List.length_cons,List.length_nil];omega)|(rw[List.length_append,List.length_cons,List.length_nil])
 |false=>
  rw[if_neg (by decide)]
  cases e:bW s Dv with
  |some l=>
   refine bJ (md:=1) (rf:=[]) mixed ak iV 2 [] Tryz.func115 (by rfl) (by rfl) (by rfl) ?_
   repeat'((conv=>whnf);first|(intro hq;(try simp only[vw]at hq);try first|exact absurd hq (by decide)|exfalso;omega)|apply aI|with_reducible exact vM rfl|exact⟨⟩|apply nM|apply fM)
   all_goals((try apply vM);(try simp only[vq]at*);try omega)
   all_goals(try(exfalso;omega))
   all_goals(try(exfalso;exact clash (VC.get ‹VC (bW s _=some _)›) e))
   all_goals(try(exfalso;exact clash e (VC.get ‹VC (bW s _=none)›)))
   all_goals(try(obtain rfl:=Option.some.inj ((VC.get ‹VC (bW s _=some _)›).symm.trans e)))
   all_goals first|rfl|omega|exact(by decide:(1:Nat)≤2)|exact(by decide:(2:Nat)≤2)|(rw[List.length_append,List.length_cons,List.length_nil];omega)|(rw[List.length_append,List.length_cons,List.length_nil])
  |none=>
   cases e2:bW s uP with
   |none=>
    refine bJ (md:=1) (rf:=[]) mixed ak iV 2 [] Tryz.func115 (by rfl) (by rfl) (by rfl) ?_
    repeat'((conv=>whnf);first|(intro hq;(try simp only[vw]at hq);try first|exact absurd hq (by decide)|exfalso;omega)|apply aI|with_reducible exact vM rfl|exact⟨⟩|apply nM|apply fM)
    all_goals((try apply vM);(try simp only[vq]at*);try omega)
    all_goals(try(exfalso;omega))
    all_goals(try(exfalso;exact clash (VC.get ‹VC (bW s _=some _)›) e))
    all_goals(try(exfalso;exact clash e (VC.get ‹VC (bW s _=none)›)))
    all_goals(try(exfalso;exact clash (VC.get ‹VC (bW s _=some _)›) e2))
    all_goals first|rfl|omega|exact(by decide:(1:Nat)≤2)|exact(by decide:(2:Nat)≤2)|(rw[List.length_append,List.length_cons,List.length_nil];omega)|(rw[List.length_append,List.length_cons,List.length_nil])
   |some l=>
    refine bJ (md:=1) (rf:=[]) mixed ak iV 2 [] Tryz.func115 (by rfl) (by rfl) (by rfl) ?_
    repeat'((conv=>whnf);first|(intro hq;(try simp only[vw]at hq);try first|exact absurd hq (by decide)|exfalso;omega)|apply aI|with_reducible exact vM rfl|exact⟨⟩|apply nM|apply fM)
    all_goals((try apply vM);(try simp only[vq]at*);try omega)
    all_goals(try(exfalso;omega))
    all_goals(try(exfalso;exact clash (VC.get ‹VC (bW s _=some _)›) e))
    all_goals(try(exfalso;exact clash e (VC.get ‹VC (bW s _=none)›)))
    all_goals(try(exfalso;exact clash e2 (VC.get ‹VC (bW s uP=none)›)))
    all_goals(try(obtain rfl:=Option.some.inj ((VC.get ‹VC (bW s _=some _)›).symm.trans e2)))
    all_goals first|rfl|omega|exact(by decide:(1:Nat)≤2)|exact(by decide:(2:Nat)≤2)|(rw[List.length_append,List.length_cons,List.length_nil];omega)|(rw[List.length_append,List.length_cons,List.length_nil])
def RU:LSp:=fun xs objs K=>match xs,objs with
 | [.rp 0 0,.str s],[.cells (.pv [.int .i64 c,.isl (.rows .i64 L) (.own 1),.int .i64 sum,.isl (.ints .i64 gv) .none,.int .i64 line,.bp done]) false,.tok 1 m]=>
  VC (m=L.length∧s.size≤1000000∧(0≤line∧line≤1000000)∧L.length≤1000000)∧K [.bp (nxt ⟨c,L,sum,gv,line,done⟩ s).1] (rdO (nxt ⟨c,L,sum,gv,line,done⟩ s).2)
 |_,_=>False
theorem aaU:LOK Tryz.prog 115 RU:=by
 intro xs objs K hk
 unfold RU at hk
 split at hk
 ·obtain⟨⟨rfl,h1,h2,h3⟩,hk⟩:=hk
  exact⟨_,_,hk,RS ⟨_,_,_,_,_,_⟩ _ h1 h2 h3⟩
 ·exact hk.elim
end Go.Eng.YtcechbdgokjmgaaGreatDoor
namespace Go.Eng.YtcechbdgokjmgaaGreatDoor
open Go.Proofs
set_option linter.unusedSimpArgs false
set_option linter.unusedVariables false
set_option maxHeartbeats 0
set_option maxRecDepth 100000
def nQ:PSp:=fun xs K=>match xs with
 | [.str r]=>∃g:Int,VC (bE r=g)∧K (.int .i64 g)
 |_=>False
theorem pG:POK Tryz.prog 101 nQ:=by
 intro xs K hk
 unfold nQ at hk
 split at hk
 ·obtain⟨g,⟨rfl⟩,hk⟩:=hk
  exact⟨_,hk,Mj _⟩
 ·exact hk.elim
structure Ar (c:Int) (ls:List (List Int)) (r:ByteArray) (y x k:Int):Prop where
 g:1≤bE r
 y:0≤y∧y<c
 x:1≤x∧x≤c
 k:bE r=2∨bE r=3∨(0≤k∧k<ls.length)
abbrev bdO (c:Int) (ls:List (List Int)) (sum:Int) (gv:List Int) (s:St) (n:Nat):List AO:=[.cells (.pv [.int .i64 c,.isl (.rows .i64 ls) .none,.int .i64 sum,.isl (.ints .i64 gv) .none,.rsl 1 0 n,.rsl 2 0 n]) false,.cells (.ints .u32 (ms s.cs)) false,.cells (.bools s.ds) false]
noncomputable def acZ:CPT:=aA 101 (aB nQ) (aA 130 (aB oG) noC)
theorem kN:aY Tryz.prog acZ:=aj (au pG) (aj (au oH) aD)
theorem mP (cs:List (List Int)) (i:Nat) (l:List Int):(ms cs).set i (mk l:Nat)=ms (cs.set i l):=by unfold ms;rw[List.map_set]
def dlt (cs:List (List Int)) (x:Int) (i:Nat):List (List Int):=(List.range cs.length).map fun j=>if j<i then dM (cs.getD j []) x else cs.getD j []
theorem nR (cs:List (List Int)) (x:Int) (i:Nat):(dlt cs x i).length=cs.length:=by simp[dlt]
theorem xR (cs:List (List Int)) (x:Int):dlt cs x 0=cs:=by
 refine List.ext_getElem (nR _ _ _) fun j h1 h2=>?_
 simp[dlt,List.getD_eq_getElem?_getD,h2]
theorem Au (cs:List (List Int)) (x:Int):dlt cs x cs.length=cs.map fun l=>dM l x:=by
 refine List.ext_getElem (by simp[nR]) fun j h1 h2=>?_
 have hj:j<cs.length:=by simpa using h2
 simp[dlt,List.getD_eq_getElem?_getD,hj]
theorem FC {cs:List (List Int)} {x:Int} {i:Nat} (h:i<cs.length):(dlt cs x i).getD i []=cs.getD i []:=by
 simp[dlt,List.getD_eq_getElem?_getD,h]
theorem xS {cs:List (List Int)} {x:Int} {i:Nat} (h:i<cs.length):(dlt cs x i).set i (dM (cs.getD i []) x)=dlt cs x (i+1):=by
 refine List.ext_getElem (by simp[nR]) fun j h1 h2=>?_
 rw[List.getElem_set]
 simp only[dlt,List.getElem_map,List.getElem_range]
 by_cases e:i=j
 ·subst e;rw[if_pos rfl,if_pos (by omega)]
 ·rw[if_neg e]
  by_cases hl:j<i
  ·rw[if_pos hl,if_pos (by omega)]
  ·rw[if_neg hl,if_neg (by omega)]
theorem Ml (c:Int) (ls:List (List Int)) (sum:Int) (gv:List Int) (s:St) (n:Nat) (h:bM c ls sum s) (hn:n=s.cs.length) (r:ByteArray) (y x k:Int) (hd:Ar c ls r y x k):
 jM Tryz.prog 128 [.rp 0 0,ddV r y x k] (bdO c ls sum gv s n) [] (bdO c ls sum gv (apl (bE r).toNat s y x) n):=by
 have hc:=h.c1
 have hy:=hd.y
 have hx:=hd.x
 have hxs:=h.at hy
 have hm:(ms s.cs).getD y.toNat 0=(mk (s.cd y.toNat):Nat):=eY hxs.1
 have hA:=(h.asc _ hxs.1).1
 have hr:=oC hA
 have hlen:=dJ s.cs
 have hcl:=h.cl
 have hdl:=h.dl
 have hte:=ze
 have hsb:=kr x.toNat (by omega)
 have hdel:=qw hA.inM (show 0≤x∧x≤31 by omega)
 have hone:(1:Int)*2 ^ x.toNat=((mk [x]:Nat):Int):=by rw[mk_one,Int.one_mul];norm_cast
 have hm1:y.toNat+1≤(ms s.cs).length∧y.toNat+1≤s.ds.length∧y<n:=by omega
 obtain⟨rfl,hg⟩|⟨rfl,hg⟩|⟨rfl,hg⟩|⟨rfl,hg⟩|⟨rfl,hg⟩|hg:=rX r
 ·rw[hg,show apl (Int.toNat 1) s y x=⟨(s.cs.map fun l=>dM l x).set y.toNat [x],s.ds.set y.toNat true⟩from rfl]
  refine bJ (md:=1) (rf:=[]) mixed ak kN 3 [] Tryz.func128 (by rfl) (by rfl) (by rfl) ?_
  repeat'((conv=>whnf);first|apply Exists.intro (1)|(intro hq;(try simp only[vw]at hq);try first|exact absurd hq (by decide)|exfalso;omega)|apply aI|with_reducible exact vM rfl|exact⟨⟩|apply nM|apply fM)
  all_goals((try apply vM);(try simp only[vq]at*);try omega)
  all_goals(try first|omega|(rw[hte];decide))
  conv=>whnf
  refine aM (X:=Nat) (fun i=>i≤s.cs.length) (fun i=>[(30,.int .i64 i)]) (fun i=>[(1,.cells (.ints .u32 (ms (dlt s.cs x i))) false)]) (fun i=>s.cs.length-i) 0 ⟨aK,mixed,ak,kN,aQ⟩ (by rfl) (by omega) ?_ ?_
  ·repeat'((conv=>whnf);first|intro _|apply aI|with_reducible exact vM rfl|exact⟨⟩|apply nM|apply fM)
   all_goals((try apply vM);(try simp only[vq]at*);try omega)
   all_goals(try rw[xR])
  intro i hi
  have hl1:=dJ (dlt s.cs x i)
  have hl2:=nR s.cs x i
  by_cases hlt:i<s.cs.length
  ·have hAi:=(h.asc _ hlt).1
   have hmi:(ms (dlt s.cs x i)).getD i 0=(mk (s.cd i):Nat):=by rw[eY (by omega),FC hlt];rfl
   have hdi:=qw hAi.inM (show 0≤x∧x≤31 by omega)
   repeat'((conv=>whnf);first|(intro hq;(try simp only[vw]at hq);try first|exact absurd hq (by decide)|exfalso;omega)|apply aI|with_reducible exact vM rfl|exact⟨⟩|apply nM|apply fM)
   all_goals((try apply vM);(try simp only[vq]at*);try omega)
   all_goals(try omega)
   refine⟨i+1,[],⟨by omega,by omega⟩,?_⟩
   repeat'((conv=>whnf);first|intro _|apply aI|with_reducible exact vM rfl|exact⟨⟩|apply nM|apply fM)
   all_goals((try apply vM);(try simp only[vq]at*);try omega)
   all_goals(rw[hmi,hdi,mP];exact congrArg ms (xS hlt))
  ·have:i=s.cs.length:=by omega
   subst this
   rw[Au]at*
   repeat'((conv=>whnf);first|(intro hq;(try simp only[vw]at hq);try first|exact absurd hq (by decide)|exfalso;omega)|apply aI|with_reducible exact vM rfl|exact⟨⟩|apply nM|apply fM)
   all_goals((try apply vM);(try simp only[vq]at*);try omega)
   all_goals(try omega)
   all_goals(rw[hone];exact mP _ _ _)
 ·rw[hg,show apl (Int.toNat 2) s y x=⟨(s.cs.map fun l=>dM l x).set y.toNat [x],s.ds.set y.toNat true⟩from rfl]
  refine bJ (md:=1) (rf:=[]) mixed ak kN 3 [] Tryz.func128 (by rfl) (by rfl) (by rfl) ?_
  repeat'((conv=>whnf);first|apply Exists.intro (2)|(intro hq;(try simp only[vw]at hq);try first|exact absurd hq (by decide)|exfalso;omega)|apply aI|with_reducible exact vM rfl|exact⟨⟩|apply nM|apply fM)
  all_goals((try apply vM);(try simp only[vq]at*);try omega)
  all_goals(try first|omega|(rw[hte];decide))
  conv=>whnf
  refine aM (X:=Nat) (fun i=>i≤s.cs.length) (fun i=>[(30,.int .i64 i)]) (fun i=>[(1,.cells (.ints .u32 (ms (dlt s.cs x i))) false)]) (fun i=>s.cs.length-i) 0 ⟨aK,mixed,ak,kN,aQ⟩ (by rfl) (by omega) ?_ ?_
  ·repeat'((conv=>whnf);first|intro _|apply aI|with_reducible exact vM rfl|exact⟨⟩|apply nM|apply fM)
   all_goals((try apply vM);(try simp only[vq]at*);try omega)
   all_goals(try rw[xR])
  intro i hi
  have hl1:=dJ (dlt s.cs x i)
  have hl2:=nR s.cs x i
  by_cases hlt:i<s.cs.length
  ·have hAi:=(h.asc _ hlt).1
   have hmi:(ms (dlt s.cs x i)).getD i 0=(mk (s.cd i):Nat):=by rw[eY (by omega),FC hlt];rfl
   have hdi:=qw hAi.inM (show 0≤x∧x≤31 by omega)
   repeat'((conv=>whnf);first|(intro hq;(try simp only[vw]at hq);try first|exact absurd hq (by decide)|exfalso;omega)|apply aI|with_reducible exact vM rfl|exact⟨⟩|apply nM|apply fM)
   all_goals((try apply vM);(try simp only[vq]at*);try omega)
   all_goals(try omega)
   refine⟨i+1,[],⟨by omega,by omega⟩,?_⟩
   repeat'((conv=>whnf);first|intro _|apply aI|with_reducible exact vM rfl|exact⟨⟩|apply nM|apply fM)
   all_goals((try apply vM);(try simp only[vq]at*);try omega)
   all_goals(rw[hmi,hdi,mP];exact congrArg ms (xS hlt))
  ·have:i=s.cs.length:=by omega
   subst this
   rw[Au]at*
   repeat'((conv=>whnf);first|(intro hq;(try simp only[vw]at hq);try first|exact absurd hq (by decide)|exfalso;omega)|apply aI|with_reducible exact vM rfl|exact⟨⟩|apply nM|apply fM)
   all_goals((try apply vM);(try simp only[vq]at*);try omega)
   all_goals(try omega)
   all_goals(rw[hone];exact mP _ _ _)
 ·rw[hg,show apl (Int.toNat 3) s y x=⟨(s.cs.map fun l=>dM l x).set y.toNat [x],s.ds.set y.toNat true⟩from rfl]
  refine bJ (md:=1) (rf:=[]) mixed ak kN 3 [] Tryz.func128 (by rfl) (by rfl) (by rfl) ?_
  repeat'((conv=>whnf);first|apply Exists.intro (3)|(intro hq;(try simp only[vw]at hq);try first|exact absurd hq (by decide)|exfalso;omega)|apply aI|with_reducible exact vM rfl|exact⟨⟩|apply nM|apply fM)
  all_goals((try apply vM);(try simp only[vq]at*);try omega)
  all_goals(try first|omega|(rw[hte];decide))
  conv=>whnf
  refine aM (X:=Nat) (fun i=>i≤s.cs.length) (fun i=>[(30,.int .i64 i)]) (fun i=>[(1,.cells (.ints .u32 (ms (dlt s.cs x i))) false)]) (fun i=>s.cs.length-i) 0 ⟨aK,mixed,ak,kN,aQ⟩ (by rfl) (by omega) ?_ ?_
  ·repeat'((conv=>whnf);first|intro _|apply aI|with_reducible exact vM rfl|exact⟨⟩|apply nM|apply fM)
   all_goals((try apply vM);(try simp only[vq]at*);try omega)
   all_goals(try rw[xR])
  intro i hi
  have hl1:=dJ (dlt s.cs x i)
  have hl2:=nR s.cs x i
  by_cases hlt:i<s.cs.length
  ·have hAi:=(h.asc _ hlt).1
   have hmi:(ms (dlt s.cs x i)).getD i 0=(mk (s.cd i):Nat):=by rw[eY (by omega),FC hlt];rfl
   have hdi:=qw hAi.inM (show 0≤x∧x≤31 by omega)
   repeat'((conv=>whnf);first|(intro hq;(try simp only[vw]at hq);try first|exact absurd hq (by decide)|exfalso;omega)|apply aI|with_reducible exact vM rfl|exact⟨⟩|apply nM|apply fM)
   all_goals((try apply vM);(try simp only[vq]at*);try omega)
   all_goals(try omega)
   refine⟨i+1,[],⟨by omega,by omega⟩,?_⟩
   repeat'((conv=>whnf);first|intro _|apply aI|with_reducible exact vM rfl|exact⟨⟩|apply nM|apply fM)
   all_goals((try apply vM);(try simp only[vq]at*);try omega)
   all_goals(rw[hmi,hdi,mP];exact congrArg ms (xS hlt))
  ·have:i=s.cs.length:=by omega
   subst this
   rw[Au]at*
   repeat'((conv=>whnf);first|(intro hq;(try simp only[vw]at hq);try first|exact absurd hq (by decide)|exfalso;omega)|apply aI|with_reducible exact vM rfl|exact⟨⟩|apply nM|apply fM)
   all_goals((try apply vM);(try simp only[vq]at*);try omega)
   all_goals(try omega)
   all_goals(rw[hone];exact mP _ _ _)
 ·rw[hg,show apl (Int.toNat 4) s y x=⟨s.cs.set y.toNat (dM (s.cd y.toNat) x),s.ds⟩from rfl]
  refine bJ (md:=1) (rf:=[]) mixed ak kN 3 [] Tryz.func128 (by rfl) (by rfl) (by rfl) ?_
  repeat'((conv=>whnf);first|apply Exists.intro (4)|(intro hq;(try simp only[vw]at hq);try first|exact absurd hq (by decide)|exfalso;omega)|apply aI|with_reducible exact vM rfl|exact⟨⟩|apply nM|apply fM)
  all_goals((try apply vM);(try simp only[vq]at*);try omega)
  all_goals(try first|omega|(rw[hte];decide))
  all_goals(try rw[hm,hdel,mP])
 ·rw[hg,show apl (Int.toNat 5) s y x=⟨s.cs.set y.toNat (dM (s.cd y.toNat) x),s.ds⟩from rfl]
  refine bJ (md:=1) (rf:=[]) mixed ak kN 3 [] Tryz.func128 (by rfl) (by rfl) (by rfl) ?_
  repeat'((conv=>whnf);first|apply Exists.intro (5)|(intro hq;(try simp only[vw]at hq);try first|exact absurd hq (by decide)|exfalso;omega)|apply aI|with_reducible exact vM rfl|exact⟨⟩|apply nM|apply fM)
  all_goals((try apply vM);(try simp only[vq]at*);try omega)
  all_goals(try first|omega|(rw[hte];decide))
  all_goals(try rw[hm,hdel,mP])
 have:=hd.g
 omega
def fu (c:Int) (ls:List (List Int)) (r:ByteArray) (y x k:Int):Int:=
 if bE r=0 then 13 else if y<0∨c≤y then 10 else if x<1∨c<x then 3 else if bE r=2∨bE r=3 then(if k≠ -1 then 10 else 0)else if k<0∨ls.length≤k∨y∉ls.getD k.toNat []then 10 else 0
noncomputable def ac0:CPT:=aA 88 (aB jP) (aA 89 (aB gq) (aA 94 (aB zu) (aA 101 (aB nQ) (aA 130 (aB oG) noC))))
theorem kP:aY Tryz.prog ac0:=aj (au jD) (aj (au jC) (aj (au Aj) (aj (au pG) (aj (au oH) aD))))
theorem RV (c:Int) (ls:List (List Int)) (sum:Int) (gv:List Int) (h:bT ls) (r:ByteArray) (y x k:Int):
 aG Tryz.prog 126 [pzV c ls sum gv,ddV r y x k] (.int .i64 (fu c ls r y x k)):=by
 have hte:=ze
 have h4:=fun i=>h.at' i
 have h2:=h.len
 by_cases hg:bE r=0
 ·rw[show fu c ls r y x k=13 by unfold fu;rw[if_pos hg]]
  refine av (md:=1) (rf:=[]) mixed ak kP Tryz.func126 (by rfl) (by rfl) (by rfl) ?_
  repeat'((conv=>whnf);first|apply Exists.intro (0)|(intro hq;(try simp only[vw]at hq);try first|exact absurd hq (by decide)|exfalso;omega)|apply aI|with_reducible exact vM rfl|exact⟨⟩|apply nM|apply fM)
  all_goals((try apply vM);(try simp only[vq]at*);try omega)
  all_goals first|exact hg|(exfalso;simp[aJ]at hq;done)|(exact Sup.of (by simp[bF,aJ]))|skip
 by_cases hy:y<0∨c≤y
 ·rw[show fu c ls r y x k=10 by unfold fu;rw[if_neg hg,if_pos hy]]
  refine av (md:=1) (rf:=[]) mixed ak kP Tryz.func126 (by rfl) (by rfl) (by rfl) ?_
  repeat'((conv=>whnf);first|apply Exists.intro (bE r)|(intro hq;(try simp only[vw]at hq);try first|exact absurd hq (by decide)|exfalso;omega)|apply aI|with_reducible exact vM rfl|exact⟨⟩|apply nM|apply fM)
  all_goals((try apply vM);(try simp only[vq]at*);try omega)
  all_goals(try rw[if_neg hg]at hq)
  all_goals(try rw[if_neg hg])
  all_goals first|(exfalso;simp_all[aJ];done)|(exact Sup.of (by simp_all[bF,aJ]))|skip
 by_cases hx:x<1∨c<x
 ·rw[show fu c ls r y x k=3 by unfold fu;rw[if_neg hg,if_neg hy,if_pos hx]]
  have hy1:¬y<0:=fun e=>hy (.inl e)
  have hy2:¬c≤y:=fun e=>hy (.inr e)
  clear hy
  refine av (md:=1) (rf:=[]) mixed ak kP Tryz.func126 (by rfl) (by rfl) (by rfl) ?_
  repeat'((conv=>whnf);first|apply Exists.intro (bE r)|(intro hq;(try simp only[vw]at hq);try first|exact absurd hq (by decide)|exfalso;omega)|apply aI|with_reducible exact vM rfl|exact⟨⟩|apply nM|apply fM)
  all_goals((try apply vM);(try simp only[vq]at*);try omega)
  all_goals(try rw[if_neg hg]at hq)
  all_goals(try rw[if_neg hg])
  all_goals first|(exfalso;simp_all[aJ];done)|(exact Sup.of (by simp_all[bF,aJ]))|skip
 have hy1:¬y<0:=fun e=>hy (.inl e)
 have hy2:¬c≤y:=fun e=>hy (.inr e)
 have hx1:¬x<1:=fun e=>hx (.inl e)
 have hx2:¬c<x:=fun e=>hx (.inr e)
 obtain⟨rfl,hgr⟩|⟨rfl,hgr⟩|⟨rfl,hgr⟩|⟨rfl,hgr⟩|⟨rfl,hgr⟩|hgr:=rX r
 ·rw[show fu c ls bH y x k=if k<0∨ls.length≤k∨y∉ls.getD k.toNat []then 10 else 0 by unfold fu;rw[if_neg (by rw[hgr];decide),if_neg hy,if_neg hx,if_neg (by rw[hgr];decide)]]
  clear hy hx hg
  refine av (md:=1) (rf:=[]) mixed ak kP Tryz.func126 (by rfl) (by rfl) (by rfl) ?_
  repeat'((conv=>whnf);first|apply Exists.intro (1)|(intro hq;(try simp only[vw]at hq);try first|exact absurd hq (by decide)|exfalso;omega)|apply aI|with_reducible exact vM rfl|exact⟨⟩|apply nM|apply fM)
  all_goals((try apply vM);(try simp only[vq]at*);try omega)
  all_goals first|exact hgr|(rw[hte];decide)|(exfalso;simp_all[aJ];done)|(have:=h4 k.toNat;omega)|skip
  all_goals(refine Sup.of (congrArg (PV.int .i64) ?_))
  ·rename_i h9
   by_cases hm:y∈ls.getD k.toNat []
   ·rw[if_neg (show¬(k<0∨ ↑ls.length≤k∨¬y∈ls.getD k.toNat [])from fun e=>by rcases e with e|e|e;exact h9 e;exact hq e;exact e hm),decide_eq_true hm];rfl
   ·rw[if_pos (show k<0∨ ↑ls.length≤k∨¬y∈ls.getD k.toNat []from .inr (.inr hm)),decide_eq_false hm];rfl
  ·rw[if_pos trivial,if_pos (.inr (.inl hq))]
  ·rw[if_pos trivial,if_pos (.inl hq)]
 ·rw[show fu c ls bQ y x k=if k≠ -1 then 10 else 0 by unfold fu;rw[if_neg (by rw[hgr];decide),if_neg hy,if_neg hx,if_pos (by rw[hgr];decide)]]
  clear hy hx hg
  refine av (md:=1) (rf:=[]) mixed ak kP Tryz.func126 (by rfl) (by rfl) (by rfl) ?_
  repeat'((conv=>whnf);first|apply Exists.intro (2)|(intro hq;(try simp only[vw]at hq);try first|exact absurd hq (by decide)|exfalso;omega)|apply aI|with_reducible exact vM rfl|exact⟨⟩|apply nM|apply fM)
  all_goals((try apply vM);(try simp only[vq]at*);try omega)
  all_goals first|exact hgr|(rw[hte];decide)|(exfalso;simp_all[aJ];done)|(exact Sup.of (by simp[bF]))|skip
 ·rw[show fu c ls bR y x k=if k≠ -1 then 10 else 0 by unfold fu;rw[if_neg (by rw[hgr];decide),if_neg hy,if_neg hx,if_pos (by rw[hgr];decide)]]
  clear hy hx hg
  refine av (md:=1) (rf:=[]) mixed ak kP Tryz.func126 (by rfl) (by rfl) (by rfl) ?_
  repeat'((conv=>whnf);first|apply Exists.intro (3)|(intro hq;(try simp only[vw]at hq);try first|exact absurd hq (by decide)|exfalso;omega)|apply aI|with_reducible exact vM rfl|exact⟨⟩|apply nM|apply fM)
  all_goals((try apply vM);(try simp only[vq]at*);try omega)
  all_goals first|exact hgr|(rw[hte];decide)|(exfalso;simp_all[aJ];done)|(exact Sup.of (by simp[bF]))|skip
 ·rw[show fu c ls bN y x k=if k<0∨ls.length≤k∨y∉ls.getD k.toNat []then 10 else 0 by unfold fu;rw[if_neg (by rw[hgr];decide),if_neg hy,if_neg hx,if_neg (by rw[hgr];decide)]]
  clear hy hx hg
  refine av (md:=1) (rf:=[]) mixed ak kP Tryz.func126 (by rfl) (by rfl) (by rfl) ?_
  repeat'((conv=>whnf);first|apply Exists.intro (4)|(intro hq;(try simp only[vw]at hq);try first|exact absurd hq (by decide)|exfalso;omega)|apply aI|with_reducible exact vM rfl|exact⟨⟩|apply nM|apply fM)
  all_goals((try apply vM);(try simp only[vq]at*);try omega)
  all_goals first|exact hgr|(rw[hte];decide)|(exfalso;simp_all[aJ];done)|(have:=h4 k.toNat;omega)|skip
  all_goals(refine Sup.of (congrArg (PV.int .i64) ?_))
  ·rename_i h9
   by_cases hm:y∈ls.getD k.toNat []
   ·rw[if_neg (show¬(k<0∨ ↑ls.length≤k∨¬y∈ls.getD k.toNat [])from fun e=>by rcases e with e|e|e;exact h9 e;exact hq e;exact e hm),decide_eq_true hm];rfl
   ·rw[if_pos (show k<0∨ ↑ls.length≤k∨¬y∈ls.getD k.toNat []from .inr (.inr hm)),decide_eq_false hm];rfl
  ·rw[if_pos trivial,if_pos (.inr (.inl hq))]
  ·rw[if_pos trivial,if_pos (.inl hq)]
 ·rw[show fu c ls bO y x k=if k<0∨ls.length≤k∨y∉ls.getD k.toNat []then 10 else 0 by unfold fu;rw[if_neg (by rw[hgr];decide),if_neg hy,if_neg hx,if_neg (by rw[hgr];decide)]]
  clear hy hx hg
  refine av (md:=1) (rf:=[]) mixed ak kP Tryz.func126 (by rfl) (by rfl) (by rfl) ?_
  repeat'((conv=>whnf);first|apply Exists.intro (5)|(intro hq;(try simp only[vw]at hq);try first|exact absurd hq (by decide)|exfalso;omega)|apply aI|with_reducible exact vM rfl|exact⟨⟩|apply nM|apply fM)
  all_goals((try apply vM);(try simp only[vq]at*);try omega)
  all_goals first|exact hgr|(rw[hte];decide)|(exfalso;simp_all[aJ];done)|(have:=h4 k.toNat;omega)|skip
  all_goals(refine Sup.of (congrArg (PV.int .i64) ?_))
  ·rename_i h9
   by_cases hm:y∈ls.getD k.toNat []
   ·rw[if_neg (show¬(k<0∨ ↑ls.length≤k∨¬y∈ls.getD k.toNat [])from fun e=>by rcases e with e|e|e;exact h9 e;exact hq e;exact e hm),decide_eq_true hm];rfl
   ·rw[if_pos (show k<0∨ ↑ls.length≤k∨¬y∈ls.getD k.toNat []from .inr (.inr hm)),decide_eq_false hm];rfl
  ·rw[if_pos trivial,if_pos (.inr (.inl hq))]
  ·rw[if_pos trivial,if_pos (.inl hq)]
 exact absurd hgr hg
def RX:PSp:=fun xs K=>match xs with
 | [.agg [.int .i64 c,.isl (.rows .i64 ls) .none,.int .i64 sum,.isl (.ints .i64 gv) .none],.agg [.str r,.int .i64 y,.int .i64 x,.int .i64 k]]=>VC (bT ls)∧K (.int .i64 (fu c ls r y x k))
 |_=>False
theorem aaV:POK Tryz.prog 126 RX:=by
 intro xs K h
 unfold RX at h
 split at h
 ·exact⟨_,h.2,RV _ _ _ _ h.1.get _ _ _ _⟩
 ·exact h.elim
theorem Ar.of {c:Int} {ls:List (List Int)} {r:ByteArray} {y x k:Int} (h:fu c ls r y x k=0):Ar c ls r y x k:=by
 unfold fu at h
 by_cases h1:bE r=0
 ·rw[if_pos h1]at h;cases h
 rw[if_neg h1]at h
 by_cases h2:y<0∨c≤y
 ·rw[if_pos h2]at h;cases h
 rw[if_neg h2]at h
 by_cases h3:x<1∨c<x
 ·rw[if_pos h3]at h;cases h
 rw[if_neg h3]at h
 have hg:1≤bE r:=by
  obtain⟨_,hg⟩|⟨_,hg⟩|⟨_,hg⟩|⟨_,hg⟩|⟨_,hg⟩|hg:=rX r
  all_goals omega
 refine⟨hg,by omega,by omega,?_⟩
 by_cases h4:bE r=2∨bE r=3
 ·rcases h4 with h4|h4
  ·exact .inl h4
  ·exact .inr (.inl h4)
 rw[if_neg h4]at h
 by_cases h5:k<0∨ls.length≤k∨y∉ls.getD k.toNat []
 ·rw[if_pos h5]at h;cases h
 ·refine .inr (.inr ?_)
  constructor
  ·exact Int.not_lt.1 fun e=>h5 (.inl e)
  ·exact Int.not_le.1 fun e=>h5 (.inr (.inl e))
theorem qB {go:List PV→Bool} {L A B:List PV} {d:PV} (h:L=A++d::B) (hg:GoTo go L A.length):Nxt go L A d:=⟨A.length,by rw[h];simp,by rw[h];simp,by rw[h];simp,hg⟩
theorem uQ {L A B:List PV} {d:PV} (h:L=A++d::B):L.take (A.length+1)=A++[d]:=by
 rw[h,List.take_append,List.take_of_length_le (by omega)];simp
theorem oI {go:List PV→Bool} {L A B:List PV} {d:PV} (h:L=A++d::B) (hg:GoTo go L A.length) (ht:go (A++[d])=true):GoTo go L (A++[d]).length:=by
 rw[List.length_append]
 exact hg.succ (by rw[uQ h];exact ht)
theorem oJ {go:List PV→Bool} {L A B:List PV} {d:PV} (h:L=A++d::B) (hg:GoTo go L A.length) (ht:go (A++[d])=false):A++[d]=gT go [] L:=by
 rw[←uQ h,uf (by rw[h];simp) hg (by rw[uQ h];exact ht)]
theorem oK {go:List PV→Bool} {L:List PV} (hg:GoTo go L L.length):L=gT go [] L:=by rw[w9 (Nat.le_refl _) hg]
theorem FD {α:Type} (f:Nat→List α) {j:Nat}:∀{m:Nat},j<m→∃B,(List.range m).flatMap f=(List.range j).flatMap f++(f j++B):=by
 intro m
 induction m with
 |zero=>intro h;omega
 |succ m ih=>
  intro h
  rw[List.range_succ,List.flatMap_append]
  by_cases e:j=m
  ·subst e;exact⟨[],by simp⟩
  ·obtain⟨B,hB⟩:=ih (by omega)
   exact⟨B++[m].flatMap f,by rw[hB];simp⟩
theorem iW {α:Type} (f:Nat→List α) (j:Nat):(List.range (j+1)).flatMap f=(List.range j).flatMap f++f j:=by
 rw[List.range_succ,List.flatMap_append];simp
def lnG (g:Nat):Bool:=g==1||g==4||g==5
def bZ (g:Nat) (nm:ByteArray) (s:St) (sum:Int) (l:List Int) (k:Int) (i t:Nat):List PV:=(((s.cd i).take t).filter fun x=>jst g s sum l i x).map fun x=>ddV nm i x k
def dB (g:Nat) (nm:ByteArray) (s:St) (sum:Int) (l:List Int) (k:Int) (i:Nat):List PV:=if s.dc i||(lnG g&&!decide ((i:Int)∈l))then []else bZ g nm s sum l k i (s.cd i).length
def bq (g:Nat) (nm:ByteArray) (s:St) (sum:Int) (ls:List (List Int)) (k:Int) (n:Nat):List PV:=(List.range n).flatMap fun i=>dB g nm s sum (ls.getD k.toNat []) k i
def aX (g:Nat) (nm:ByteArray) (s:St) (sum:Int) (ls:List (List Int)) (fr:Int) (m:Nat):List PV:=(List.range m).flatMap fun j:Nat=>bq g nm s sum ls (fr+j) s.cs.length
theorem fD {g:Nat} {nm:ByteArray} {s:St} {sum:Int} {l:List Int} {k:Int} {i:Nat}:bZ g nm s sum l k i 0=[]:=rfl
theorem fE {g:Nat} {nm:ByteArray} {s:St} {sum:Int} {l:List Int} {k:Int} {i t:Nat} (h:t<(s.cd i).length):
 bZ g nm s sum l k i (t+1)=bZ g nm s sum l k i t++if jst g s sum l i ((s.cd i).getD t 0)then [ddV nm i ((s.cd i).getD t 0) k]else []:=by
 unfold bZ
 rw[cZ h,List.filter_append,List.map_append,List.filter_cons,List.filter_nil]
 split<;>simp
theorem Mq {g:Nat} {nm:ByteArray} {s:St} {sum:Int} {l:List Int} {k:Int} {i t:Nat} (h:t<(s.cd i).length) (hj:jst g s sum l i ((s.cd i).getD t 0)=true):
 ∃B,bZ g nm s sum l k i (s.cd i).length=bZ g nm s sum l k i t++ddV nm i ((s.cd i).getD t 0) k::B:=by
 have e:(s.cd i).take (s.cd i).length=(s.cd i).take t++((s.cd i).getD t 0::(s.cd i).drop (t+1)):=by rw[List.take_length,←drop_cons h,List.take_append_drop]
 unfold bZ
 rw[e,List.filter_append,List.map_append,List.filter_cons,if_pos hj,List.map_cons]
 exact⟨_,rfl⟩
theorem mQ {g:Nat} {nm:ByteArray} {s:St} {sum:Int} {ls:List (List Int)} {fr:Int} {m j i t:Nat} (hj:j<m) (hi:i<s.cs.length) (ht:t<(s.cd i).length)
 (hc:(s.dc i||(lnG g&&!decide ((i:Int)∈ls.getD (fr+j).toNat [])))=false) (hh:jst g s sum (ls.getD (fr+j).toNat []) i ((s.cd i).getD t 0)=true):
 ∃B,aX g nm s sum ls fr m=(aX g nm s sum ls fr j++bq g nm s sum ls (fr+j) i++bZ g nm s sum (ls.getD (fr+j).toNat []) (fr+j) i t)++ddV nm i ((s.cd i).getD t 0) (fr+j)::B:=by
 obtain⟨B1,h1⟩:=FD (fun j:Nat=>bq g nm s sum ls (fr+j) s.cs.length) hj
 obtain⟨B2,h2⟩:=FD (fun i=>dB g nm s sum (ls.getD (fr+j).toNat []) (fr+j) i) hi
 obtain⟨B3,h3⟩:=Mq (nm:=nm) (k:=fr+j) ht hh
 have h4:dB g nm s sum (ls.getD (fr+j).toNat []) (fr+j) i=bZ g nm s sum (ls.getD (fr+j).toNat []) (fr+j) i (s.cd i).length:=by
  unfold dB;rw[hc];rfl
 refine⟨B3++B2++B1,?_⟩
 unfold aX
 rw[h1]
 simp only[bq,h2,h4,h3,List.append_assoc,List.cons_append]
noncomputable def Av:CPT:=aA 94 (aB zu) (aA 149 (aB zm) (aA 172 (aB (mO z8)) (aA 173 (aB (qA fun s y x=>Aa s y)) (aA 174 (aB (qA rO)) (aA 175 (aB (mO Ab)) (aA 176 (aB (mO Ac)) noC))))))
theorem eG:aY Tryz.prog Av:=aj (au Aj) (aj (au Ai) (aj (au X5) (aj (au X6) (aj (au RF) (aj (au Me) (aj (au CO) aD))))))
abbrev rlV (nm:ByteArray) (d l:Bool) (k:Nat):PV:=.ip (.pv [.str nm,.bool d,.bool l,kF k]) 0
theorem O8 (c:Int) (ls:List (List Int)) (sum:Int) (gv:List Int) (s:St) (h:bM c ls sum s):
 l8 Tryz.prog 180 [] [.ip (.pv [.int .i64 0]) 0,.ip (.pv [.int .i64 ls.length]) 0,.ip (.pv [bdV c ls sum gv s]) 0,rlV bH true true 172] 1 (aX 1 bH s sum ls 0 ls.length):=by
 refine kH (md:=1) (rf:=[]) mixed ak Tryz.func180 (by rfl) (by rfl) (by rfl) fun G go b hY=>⟨_,eG,?_⟩
 obtain⟨L,hL⟩:∃L,L=aX 1 bH s sum ls 0 ls.length:=⟨_,rfl⟩
 rw[←hL]at hY⊢
 have W:Walk Tryz.prog none jS tab.get Av (rE b 1 G go L):=⟨aK,mixed,ak,eG,hY _ _⟩
 have hcl:=h.cl
 have hdl:=h.dl
 have hc1:=h.c1
 have hms:=dJ s.cs
 have hll:=h.ll
 repeat'((conv=>whnf);first|intro _|apply aI|with_reducible exact vM rfl|exact⟨⟩|apply nM|apply fM)
 all_goals((try apply vM);(try simp only[vq]at*);try omega)
 conv=>whnf
 refine aM (X:=Nat) (fun j=>j≤ls.length∧GoTo go L (aX 1 bH s sum ls 0 j).length) (fun j=>[(6,.rp 2 0)]) (fun j=>[(0,.ext G (aX 1 bH s sum ls 0 j)),(2,.cells (.pv [.int .i64 (0+(j:Int))]) false)]) (fun j=>ls.length-j) 0 W (by rfl) ⟨by omega,.zero⟩ ?_ ?_
 ·repeat'((conv=>whnf);first|intro _|apply aI|with_reducible exact vM rfl|exact⟨⟩|apply nM|apply fM)
  all_goals((try apply vM);(try simp only[vq]at*);try omega)
  all_goals rfl
 intro j ⟨hj,hgo⟩
 by_cases hlt:j<ls.length
 ·have e2:aX 1 bH s sum ls 0 (j+1)=aX 1 bH s sum ls 0 j++bq 1 bH s sum ls (0+(j:Int)) s.cs.length:=by unfold aX;rw[iW]
  have hln:=h.ln j hlt
  have hlen:=hln.len
  have ejt:(0+(j:Int)).toNat=j:=by omega
  repeat'((conv=>whnf);first|(intro hq;(try simp only[vw]at hq);try first|exact absurd hq (by decide)|exfalso;omega)|apply aI|with_reducible exact vM rfl|exact⟨⟩|apply nM|apply fM)
  all_goals((try apply vM);(try simp only[vq]at*);try omega)
  conv=>whnf
  refine aM (X:=Nat) (fun i=>i≤s.cs.length∧GoTo go L (aX 1 bH s sum ls 0 j++bq 1 bH s sum ls (0+(j:Int)) i).length) (fun i=>[(22,.int .i64 i)]) (fun i=>[(0,.ext G (aX 1 bH s sum ls 0 j++bq 1 bH s sum ls (0+(j:Int)) i))]) (fun i=>s.cs.length-i) 0 W (by rfl) ⟨by omega,by simpa [bq]using hgo⟩ ?_ ?_
  ·repeat'((conv=>whnf);first|intro _|apply aI|with_reducible exact vM rfl|exact⟨⟩|apply nM|apply fM)
   all_goals((try apply vM);(try simp only[vq]at*);try omega)
   all_goals(simp[bq])
  intro i ⟨hi,hgo2⟩
  by_cases hlt2:i<s.cs.length
  ·have hm:(ms s.cs).getD i 0=(mk (s.cd i):Nat):=eY hlt2
   have hA:=(h.asc _ hlt2).1
   have hAc:=(h.asc _ hlt2).2
   have e1:bq 1 bH s sum ls (0+(j:Int)) (i+1)=bq 1 bH s sum ls (0+(j:Int)) i++dB 1 bH s sum (ls.getD (0+(j:Int)).toNat []) (0+(j:Int)) i:=by unfold bq;rw[iW]
   repeat'((conv=>whnf);first|(intro hq;(try simp only[vw]at hq);try first|exact absurd hq (by decide)|exfalso;omega)|apply aI|with_reducible exact vM rfl|exact⟨⟩|apply nM|apply fM)
   all_goals((try apply vM);(try simp only[vq]at*);try omega)
   all_goals(try first|omega|(rw[ejt];omega))
   ·have hce:dB 1 bH s sum (ls.getD (0+(j:Int)).toNat []) (0+(j:Int)) i=[]:=by unfold dB;rw[show decide ((i:Int)∈(ls.getD (0+(j:Int)).toNat []))=false by apply decide_eq_false;assumption];cases s.dc i<;>rfl
    rw[hce,List.append_nil]at e1
    refine⟨i+1,[],⟨⟨by omega,by rw[e1];exact hgo2⟩,by omega⟩,?_⟩
    rw[e1]
    repeat'((conv=>whnf);first|intro _|apply aI|with_reducible exact vM rfl|exact⟨⟩|apply nM|apply fM)
    all_goals((try apply vM);(try simp only[vq]at*);try omega)
   ·have hcc:(s.dc i||(lnG 1&&!decide ((i:Int)∈(ls.getD (0+(j:Int)).toNat []))))=false:=by rw[show s.dc i=false by assumption,show decide ((i:Int)∈(ls.getD (0+(j:Int)).toNat []))=true by apply decide_eq_true;assumption];rfl
    have hce:dB 1 bH s sum (ls.getD (0+(j:Int)).toNat []) (0+(j:Int)) i=bZ 1 bH s sum (ls.getD (0+(j:Int)).toNat []) (0+(j:Int)) i (s.cd i).length:=by unfold dB;rw[hcc];rfl
    rw[hce]at e1
    have hsp:∀t,t<(s.cd i).length→jst 1 s sum (ls.getD (0+(j:Int)).toNat []) i ((s.cd i).getD t 0)=true→∃B,L=(aX 1 bH s sum ls 0 j++bq 1 bH s sum ls (0+(j:Int)) i++bZ 1 bH s sum (ls.getD (0+(j:Int)).toNat []) (0+(j:Int)) i t)++ddV bH i ((s.cd i).getD t 0) (0+(j:Int))::B:=fun t ht hh=>by
     rw[hL];exact mQ (g:=1) (nm:=bH) (s:=s) (sum:=sum) (ls:=ls) (fr:=0) (m:=ls.length) (j:=j) (i:=i) (t:=t) hlt hlt2 ht hcc hh
    have hpos:∀t,t≤(s.cd i).length→(∀t',t'<t→(!jst 1 s sum (ls.getD (0+(j:Int)).toNat []) i ((s.cd i).getD t' 0)||go ((aX 1 bH s sum ls 0 j++bq 1 bH s sum ls (0+(j:Int)) i++bZ 1 bH s sum (ls.getD (0+(j:Int)).toNat []) (0+(j:Int)) i t')++[ddV bH i ((s.cd i).getD t' 0) (0+(j:Int))]))=true)→GoTo go L (aX 1 bH s sum ls 0 j++bq 1 bH s sum ls (0+(j:Int)) i++bZ 1 bH s sum (ls.getD (0+(j:Int)).toNat []) (0+(j:Int)) i t).length:=by
     intro t
     induction t with
     |zero=>intro _ _;rw[fD,List.append_nil];exact hgo2
     |succ t ih=>
      intro ht hall
      have g0:=ih (by omega) fun t' h'=>hall t' (by omega)
      have g1:=hall t (by omega)
      rw[fE (by omega)]
      split
      ·rename_i hh
       rw[hh]at g1
       obtain⟨B,hB⟩:=hsp t (by omega) hh
       rw[←List.append_assoc]
       exact oI hB g0 (by simpa using g1)
      ·rw[List.append_nil];exact g0
    rw[hm]
    conv=>whnf
    refine iG aK mixed ak eG (fun r=>hY r _) (fs:=[]) (cs:=[.ip (.pv [.int .u32 (mk (s.cd i):Nat)]) 0]) ((s.cd i).map (PV.int .i64)) (fun t=>(!jst 1 s sum (ls.getD (0+(j:Int)).toNat []) i ((s.cd i).getD t 0)||go ((aX 1 bH s sum ls 0 j++bq 1 bH s sum ls (0+(j:Int)) i++bZ 1 bH s sum (ls.getD (0+(j:Int)).toNat []) (0+(j:Int)) i t)++[ddV bH i ((s.cd i).getD t 0) (0+(j:Int))]))) (fun t=>[(0,.ext G (aX 1 bH s sum ls 0 j++bq 1 bH s sum ls (0+(j:Int)) i++bZ 1 bH s sum (ls.getD (0+(j:Int)).toNat []) (0+(j:Int)) i t))]) (by rfl) (by rfl) (by rfl) (jB (s.cd i) hA) (by rfl) (by rfl) (by rfl) (by rfl) ?_ ?_ ?_
    ·repeat'((conv=>whnf);first|intro _|apply aI|with_reducible exact vM rfl|exact⟨⟩|apply nM|apply fM)
     all_goals((try apply vM);(try simp only[vq]at*);try omega)
     all_goals(rw[fD,List.append_nil])
    ·intro hall
     rw[List.length_map]at hall⊢
     have g9:=hpos _ (Nat.le_refl _) hall
     repeat'((conv=>whnf);first|intro _|apply aI|with_reducible exact vM rfl|exact⟨⟩|apply nM|apply fM)
     all_goals((try apply vM);(try simp only[vq]at*);try omega)
     refine⟨i+1,[],⟨⟨by omega,by rw[e1,←List.append_assoc];exact g9⟩,by omega⟩,?_⟩
     rw[e1,←List.append_assoc]
     repeat'((conv=>whnf);first|intro _|apply aI|with_reducible exact vM rfl|exact⟨⟩|apply nM|apply fM)
     all_goals((try apply vM);(try simp only[vq]at*);try omega)
    ·intro t x hx hall lp
     obtain⟨ht,rfl⟩:=nN hx
     have hxC:=bV ht
     have hxr:=hA.rng _ hxC
     have hxc:=hAc _ hxC
     have g0:=hpos t (by omega) hall
     have hs1:=hsp t ht
     have cs1:=fE (g:=1) (nm:=bH) (s:=s) (sum:=sum) (l:=(ls.getD (0+(j:Int)).toNat [])) (k:=(0+(j:Int))) ht
     repeat'((conv=>whnf);first|apply Exists.intro (s)|(intro hq;(try simp only[vw]at hq);try first|exact absurd hq (by decide)|exfalso;omega)|apply aI|with_reducible exact vM rfl|exact⟨⟩|apply nM|apply fM)
     all_goals((try apply vM);(try simp only[vq]at*);try omega)
     all_goals(try omega)
     ·exact⟨h,by omega,by omega,by omega⟩
     ·obtain⟨B,hB⟩:=hs1 (by assumption)
      exact qB hB g0
     ·rw[show jst 1 s sum (ls.getD (0+(j:Int)).toNat []) i ((s.cd i).getD t 0)=true by assumption]
      assumption
     ·obtain⟨B,hB⟩:=hs1 (by assumption)
      exact oJ hB g0 (by assumption)
     ·have q1:jst 1 s sum (ls.getD (0+(j:Int)).toNat []) i ((s.cd i).getD t 0)=true:=by assumption
      have q2:go ((aX 1 bH s sum ls 0 j++bq 1 bH s sum ls (0+(j:Int)) i++bZ 1 bH s sum (ls.getD (0+(j:Int)).toNat []) (0+(j:Int)) i t)++[ddV bH i ((s.cd i).getD t 0) (0+(j:Int))])=true:=by assumption
      refine⟨[],?_⟩
      rw[cs1,if_pos q1,←List.append_assoc]
      repeat'((conv=>whnf);first|intro _|apply aI|with_reducible exact vM rfl|exact⟨⟩|apply nM|apply fM)
      all_goals((try apply vM);(try simp only[vq]at*);try omega)
      all_goals(try first|(rw[q1,q2];rfl)|rfl)
     ·have q1:jst 1 s sum (ls.getD (0+(j:Int)).toNat []) i ((s.cd i).getD t 0)=false:=by assumption
      refine⟨[],?_⟩
      rw[cs1,if_neg (by rw[q1];decide),List.append_nil]
      repeat'((conv=>whnf);first|intro _|apply aI|with_reducible exact vM rfl|exact⟨⟩|apply nM|apply fM)
      all_goals((try apply vM);(try simp only[vq]at*);try omega)
      all_goals(try(rw[q1];rfl))
   ·have hce:dB 1 bH s sum (ls.getD (0+(j:Int)).toNat []) (0+(j:Int)) i=[]:=by unfold dB;rw[show s.dc i=true from hq];rfl
    rw[hce,List.append_nil]at e1
    refine⟨i+1,[],⟨⟨by omega,by rw[e1];exact hgo2⟩,by omega⟩,?_⟩
    rw[e1]
    repeat'((conv=>whnf);first|intro _|apply aI|with_reducible exact vM rfl|exact⟨⟩|apply nM|apply fM)
    all_goals((try apply vM);(try simp only[vq]at*);try omega)
  ·have:i=s.cs.length:=by omega
   subst this
   rw[←e2]at hgo2⊢
   repeat'((conv=>whnf);first|(intro hq;(try simp only[vw]at hq);try first|exact absurd hq (by decide)|exfalso;omega)|apply aI|with_reducible exact vM rfl|exact⟨⟩|apply nM|apply fM)
   all_goals((try apply vM);(try simp only[vq]at*);try omega)
   refine⟨j+1,[(21,2)],⟨⟨by omega,hgo2⟩,by omega⟩,?_⟩
   repeat'((conv=>whnf);first|intro _|apply aI|with_reducible exact vM rfl|exact⟨⟩|apply nM|apply fM)
   all_goals((try apply vM);(try simp only[vq]at*);try omega)
 ·have:j=ls.length:=by omega
  subst this
  repeat'((conv=>whnf);first|(intro hq;(try simp only[vw]at hq);try first|exact absurd hq (by decide)|exfalso;omega)|apply aI|with_reducible exact vM rfl|exact⟨⟩|apply nM|apply fM)
  all_goals((try apply vM);(try simp only[vq]at*);try omega)
  rw[hL]
  rw[hL]at hgo
  exact oK hgo
theorem Pb (c:Int) (ls:List (List Int)) (sum:Int) (gv:List Int) (s:St) (h:bM c ls sum s):
 l8 Tryz.prog 180 [] [.ip (.pv [.int .i64 (-1)]) 0,.ip (.pv [.int .i64 0]) 0,.ip (.pv [bdV c ls sum gv s]) 0,rlV bQ true false 173] 1 (aX 2 bQ s sum ls (-1) 1):=by
 refine kH (md:=1) (rf:=[]) mixed ak Tryz.func180 (by rfl) (by rfl) (by rfl) fun G go b hY=>⟨_,eG,?_⟩
 obtain⟨L,hL⟩:∃L,L=aX 2 bQ s sum ls (-1) 1:=⟨_,rfl⟩
 rw[←hL]at hY⊢
 have W:Walk Tryz.prog none jS tab.get Av (rE b 1 G go L):=⟨aK,mixed,ak,eG,hY _ _⟩
 have hcl:=h.cl
 have hdl:=h.dl
 have hc1:=h.c1
 have hms:=dJ s.cs
 have hll:=h.ll
 repeat'((conv=>whnf);first|intro _|apply aI|with_reducible exact vM rfl|exact⟨⟩|apply nM|apply fM)
 all_goals((try apply vM);(try simp only[vq]at*);try omega)
 conv=>whnf
 refine aM (X:=Nat) (fun j=>j≤1∧GoTo go L (aX 2 bQ s sum ls (-1) j).length) (fun j=>[(6,.rp 2 0)]) (fun j=>[(0,.ext G (aX 2 bQ s sum ls (-1) j)),(2,.cells (.pv [.int .i64 ((-1)+(j:Int))]) false)]) (fun j=>1-j) 0 W (by rfl) ⟨by omega,.zero⟩ ?_ ?_
 ·repeat'((conv=>whnf);first|intro _|apply aI|with_reducible exact vM rfl|exact⟨⟩|apply nM|apply fM)
  all_goals((try apply vM);(try simp only[vq]at*);try omega)
  all_goals rfl
 intro j ⟨hj,hgo⟩
 by_cases hlt:j<1
 ·have e2:aX 2 bQ s sum ls (-1) (j+1)=aX 2 bQ s sum ls (-1) j++bq 2 bQ s sum ls ((-1)+(j:Int)) s.cs.length:=by unfold aX;rw[iW]
  repeat'((conv=>whnf);first|(intro hq;(try simp only[vw]at hq);try first|exact absurd hq (by decide)|exfalso;omega)|apply aI|with_reducible exact vM rfl|exact⟨⟩|apply nM|apply fM)
  all_goals((try apply vM);(try simp only[vq]at*);try omega)
  conv=>whnf
  refine aM (X:=Nat) (fun i=>i≤s.cs.length∧GoTo go L (aX 2 bQ s sum ls (-1) j++bq 2 bQ s sum ls ((-1)+(j:Int)) i).length) (fun i=>[(22,.int .i64 i)]) (fun i=>[(0,.ext G (aX 2 bQ s sum ls (-1) j++bq 2 bQ s sum ls ((-1)+(j:Int)) i))]) (fun i=>s.cs.length-i) 0 W (by rfl) ⟨by omega,by simpa [bq]using hgo⟩ ?_ ?_
  ·repeat'((conv=>whnf);first|intro _|apply aI|with_reducible exact vM rfl|exact⟨⟩|apply nM|apply fM)
   all_goals((try apply vM);(try simp only[vq]at*);try omega)
   all_goals(simp[bq])
  intro i ⟨hi,hgo2⟩
  by_cases hlt2:i<s.cs.length
  ·have hm:(ms s.cs).getD i 0=(mk (s.cd i):Nat):=eY hlt2
   have hA:=(h.asc _ hlt2).1
   have hAc:=(h.asc _ hlt2).2
   have e1:bq 2 bQ s sum ls ((-1)+(j:Int)) (i+1)=bq 2 bQ s sum ls ((-1)+(j:Int)) i++dB 2 bQ s sum (ls.getD ((-1)+(j:Int)).toNat []) ((-1)+(j:Int)) i:=by unfold bq;rw[iW]
   repeat'((conv=>whnf);first|(intro hq;(try simp only[vw]at hq);try first|exact absurd hq (by decide)|exfalso;omega)|apply aI|with_reducible exact vM rfl|exact⟨⟩|apply nM|apply fM)
   all_goals((try apply vM);(try simp only[vq]at*);try omega)
   all_goals(try first|omega|(rw[ejt];omega))
   ·have hcc:(s.dc i||(lnG 2&&!decide ((i:Int)∈(ls.getD ((-1)+(j:Int)).toNat []))))=false:=by rw[show s.dc i=false from hq];rfl
    have hce:dB 2 bQ s sum (ls.getD ((-1)+(j:Int)).toNat []) ((-1)+(j:Int)) i=bZ 2 bQ s sum (ls.getD ((-1)+(j:Int)).toNat []) ((-1)+(j:Int)) i (s.cd i).length:=by unfold dB;rw[hcc];rfl
    rw[hce]at e1
    have hsp:∀t,t<(s.cd i).length→jst 2 s sum (ls.getD ((-1)+(j:Int)).toNat []) i ((s.cd i).getD t 0)=true→∃B,L=(aX 2 bQ s sum ls (-1) j++bq 2 bQ s sum ls ((-1)+(j:Int)) i++bZ 2 bQ s sum (ls.getD ((-1)+(j:Int)).toNat []) ((-1)+(j:Int)) i t)++ddV bQ i ((s.cd i).getD t 0) ((-1)+(j:Int))::B:=fun t ht hh=>by
     rw[hL];exact mQ (g:=2) (nm:=bQ) (s:=s) (sum:=sum) (ls:=ls) (fr:=(-1)) (m:=1) (j:=j) (i:=i) (t:=t) hlt hlt2 ht hcc hh
    have hpos:∀t,t≤(s.cd i).length→(∀t',t'<t→(!jst 2 s sum (ls.getD ((-1)+(j:Int)).toNat []) i ((s.cd i).getD t' 0)||go ((aX 2 bQ s sum ls (-1) j++bq 2 bQ s sum ls ((-1)+(j:Int)) i++bZ 2 bQ s sum (ls.getD ((-1)+(j:Int)).toNat []) ((-1)+(j:Int)) i t')++[ddV bQ i ((s.cd i).getD t' 0) ((-1)+(j:Int))]))=true)→GoTo go L (aX 2 bQ s sum ls (-1) j++bq 2 bQ s sum ls ((-1)+(j:Int)) i++bZ 2 bQ s sum (ls.getD ((-1)+(j:Int)).toNat []) ((-1)+(j:Int)) i t).length:=by
     intro t
     induction t with
     |zero=>intro _ _;rw[fD,List.append_nil];exact hgo2
     |succ t ih=>
      intro ht hall
      have g0:=ih (by omega) fun t' h'=>hall t' (by omega)
      have g1:=hall t (by omega)
      rw[fE (by omega)]
      split
      ·rename_i hh
       rw[hh]at g1
       obtain⟨B,hB⟩:=hsp t (by omega) hh
       rw[←List.append_assoc]
       exact oI hB g0 (by simpa using g1)
      ·rw[List.append_nil];exact g0
    rw[hm]
    conv=>whnf
    refine iG aK mixed ak eG (fun r=>hY r _) (fs:=[]) (cs:=[.ip (.pv [.int .u32 (mk (s.cd i):Nat)]) 0]) ((s.cd i).map (PV.int .i64)) (fun t=>(!jst 2 s sum (ls.getD ((-1)+(j:Int)).toNat []) i ((s.cd i).getD t 0)||go ((aX 2 bQ s sum ls (-1) j++bq 2 bQ s sum ls ((-1)+(j:Int)) i++bZ 2 bQ s sum (ls.getD ((-1)+(j:Int)).toNat []) ((-1)+(j:Int)) i t)++[ddV bQ i ((s.cd i).getD t 0) ((-1)+(j:Int))]))) (fun t=>[(0,.ext G (aX 2 bQ s sum ls (-1) j++bq 2 bQ s sum ls ((-1)+(j:Int)) i++bZ 2 bQ s sum (ls.getD ((-1)+(j:Int)).toNat []) ((-1)+(j:Int)) i t))]) (by rfl) (by rfl) (by rfl) (jB (s.cd i) hA) (by rfl) (by rfl) (by rfl) (by rfl) ?_ ?_ ?_
    ·repeat'((conv=>whnf);first|intro _|apply aI|with_reducible exact vM rfl|exact⟨⟩|apply nM|apply fM)
     all_goals((try apply vM);(try simp only[vq]at*);try omega)
     all_goals(rw[fD,List.append_nil])
    ·intro hall
     rw[List.length_map]at hall⊢
     have g9:=hpos _ (Nat.le_refl _) hall
     repeat'((conv=>whnf);first|intro _|apply aI|with_reducible exact vM rfl|exact⟨⟩|apply nM|apply fM)
     all_goals((try apply vM);(try simp only[vq]at*);try omega)
     refine⟨i+1,[],⟨⟨by omega,by rw[e1,←List.append_assoc];exact g9⟩,by omega⟩,?_⟩
     rw[e1,←List.append_assoc]
     repeat'((conv=>whnf);first|intro _|apply aI|with_reducible exact vM rfl|exact⟨⟩|apply nM|apply fM)
     all_goals((try apply vM);(try simp only[vq]at*);try omega)
    ·intro t x hx hall lp
     obtain⟨ht,rfl⟩:=nN hx
     have hxC:=bV ht
     have hxr:=hA.rng _ hxC
     have hxc:=hAc _ hxC
     have g0:=hpos t (by omega) hall
     have hs1:=hsp t ht
     have cs1:=fE (g:=2) (nm:=bQ) (s:=s) (sum:=sum) (l:=(ls.getD ((-1)+(j:Int)).toNat [])) (k:=((-1)+(j:Int))) ht
     repeat'((conv=>whnf);first|apply Exists.intro (s)|(intro hq;(try simp only[vw]at hq);try first|exact absurd hq (by decide)|exfalso;omega)|apply aI|with_reducible exact vM rfl|exact⟨⟩|apply nM|apply fM)
     all_goals((try apply vM);(try simp only[vq]at*);try omega)
     all_goals(try omega)
     ·exact⟨h,by omega,by omega⟩
     ·obtain⟨B,hB⟩:=hs1 (by assumption)
      exact qB hB g0
     ·rw[show jst 2 s sum (ls.getD ((-1)+(j:Int)).toNat []) i ((s.cd i).getD t 0)=true by assumption]
      assumption
     ·obtain⟨B,hB⟩:=hs1 (by assumption)
      exact oJ hB g0 (by assumption)
     ·have q1:jst 2 s sum (ls.getD ((-1)+(j:Int)).toNat []) i ((s.cd i).getD t 0)=true:=by assumption
      have q2:go ((aX 2 bQ s sum ls (-1) j++bq 2 bQ s sum ls ((-1)+(j:Int)) i++bZ 2 bQ s sum (ls.getD ((-1)+(j:Int)).toNat []) ((-1)+(j:Int)) i t)++[ddV bQ i ((s.cd i).getD t 0) ((-1)+(j:Int))])=true:=by assumption
      refine⟨[],?_⟩
      rw[cs1,if_pos q1,←List.append_assoc]
      repeat'((conv=>whnf);first|intro _|apply aI|with_reducible exact vM rfl|exact⟨⟩|apply nM|apply fM)
      all_goals((try apply vM);(try simp only[vq]at*);try omega)
      all_goals(try first|(rw[q1,q2];rfl)|rfl)
     ·have q1:jst 2 s sum (ls.getD ((-1)+(j:Int)).toNat []) i ((s.cd i).getD t 0)=false:=by assumption
      refine⟨[],?_⟩
      rw[cs1,if_neg (by rw[q1];decide),List.append_nil]
      repeat'((conv=>whnf);first|intro _|apply aI|with_reducible exact vM rfl|exact⟨⟩|apply nM|apply fM)
      all_goals((try apply vM);(try simp only[vq]at*);try omega)
      all_goals(try(rw[q1];rfl))
   ·have hce:dB 2 bQ s sum (ls.getD ((-1)+(j:Int)).toNat []) ((-1)+(j:Int)) i=[]:=by unfold dB;rw[show s.dc i=true from hq];rfl
    rw[hce,List.append_nil]at e1
    refine⟨i+1,[],⟨⟨by omega,by rw[e1];exact hgo2⟩,by omega⟩,?_⟩
    rw[e1]
    repeat'((conv=>whnf);first|intro _|apply aI|with_reducible exact vM rfl|exact⟨⟩|apply nM|apply fM)
    all_goals((try apply vM);(try simp only[vq]at*);try omega)
  ·have:i=s.cs.length:=by omega
   subst this
   rw[←e2]at hgo2⊢
   repeat'((conv=>whnf);first|(intro hq;(try simp only[vw]at hq);try first|exact absurd hq (by decide)|exfalso;omega)|apply aI|with_reducible exact vM rfl|exact⟨⟩|apply nM|apply fM)
   all_goals((try apply vM);(try simp only[vq]at*);try omega)
   refine⟨j+1,[(21,2)],⟨⟨by omega,hgo2⟩,by omega⟩,?_⟩
   repeat'((conv=>whnf);first|intro _|apply aI|with_reducible exact vM rfl|exact⟨⟩|apply nM|apply fM)
   all_goals((try apply vM);(try simp only[vq]at*);try omega)
 ·have:j=1:=by omega
  subst this
  repeat'((conv=>whnf);first|(intro hq;(try simp only[vw]at hq);try first|exact absurd hq (by decide)|exfalso;omega)|apply aI|with_reducible exact vM rfl|exact⟨⟩|apply nM|apply fM)
  all_goals((try apply vM);(try simp only[vq]at*);try omega)
  rw[hL]
  rw[hL]at hgo
  exact oK hgo
theorem Pd (c:Int) (ls:List (List Int)) (sum:Int) (gv:List Int) (s:St) (h:bM c ls sum s):
 l8 Tryz.prog 180 [] [.ip (.pv [.int .i64 (-1)]) 0,.ip (.pv [.int .i64 0]) 0,.ip (.pv [bdV c ls sum gv s]) 0,rlV bR true false 174] 1 (aX 3 bR s sum ls (-1) 1):=by
 refine kH (md:=1) (rf:=[]) mixed ak Tryz.func180 (by rfl) (by rfl) (by rfl) fun G go b hY=>⟨_,eG,?_⟩
 obtain⟨L,hL⟩:∃L,L=aX 3 bR s sum ls (-1) 1:=⟨_,rfl⟩
 rw[←hL]at hY⊢
 have W:Walk Tryz.prog none jS tab.get Av (rE b 1 G go L):=⟨aK,mixed,ak,eG,hY _ _⟩
 have hcl:=h.cl
 have hdl:=h.dl
 have hc1:=h.c1
 have hms:=dJ s.cs
 have hll:=h.ll
 repeat'((conv=>whnf);first|intro _|apply aI|with_reducible exact vM rfl|exact⟨⟩|apply nM|apply fM)
 all_goals((try apply vM);(try simp only[vq]at*);try omega)
 conv=>whnf
 refine aM (X:=Nat) (fun j=>j≤1∧GoTo go L (aX 3 bR s sum ls (-1) j).length) (fun j=>[(6,.rp 2 0)]) (fun j=>[(0,.ext G (aX 3 bR s sum ls (-1) j)),(2,.cells (.pv [.int .i64 ((-1)+(j:Int))]) false)]) (fun j=>1-j) 0 W (by rfl) ⟨by omega,.zero⟩ ?_ ?_
 ·repeat'((conv=>whnf);first|intro _|apply aI|with_reducible exact vM rfl|exact⟨⟩|apply nM|apply fM)
  all_goals((try apply vM);(try simp only[vq]at*);try omega)
  all_goals rfl
 intro j ⟨hj,hgo⟩
 by_cases hlt:j<1
 ·have e2:aX 3 bR s sum ls (-1) (j+1)=aX 3 bR s sum ls (-1) j++bq 3 bR s sum ls ((-1)+(j:Int)) s.cs.length:=by unfold aX;rw[iW]
  repeat'((conv=>whnf);first|(intro hq;(try simp only[vw]at hq);try first|exact absurd hq (by decide)|exfalso;omega)|apply aI|with_reducible exact vM rfl|exact⟨⟩|apply nM|apply fM)
  all_goals((try apply vM);(try simp only[vq]at*);try omega)
  conv=>whnf
  refine aM (X:=Nat) (fun i=>i≤s.cs.length∧GoTo go L (aX 3 bR s sum ls (-1) j++bq 3 bR s sum ls ((-1)+(j:Int)) i).length) (fun i=>[(22,.int .i64 i)]) (fun i=>[(0,.ext G (aX 3 bR s sum ls (-1) j++bq 3 bR s sum ls ((-1)+(j:Int)) i))]) (fun i=>s.cs.length-i) 0 W (by rfl) ⟨by omega,by simpa [bq]using hgo⟩ ?_ ?_
  ·repeat'((conv=>whnf);first|intro _|apply aI|with_reducible exact vM rfl|exact⟨⟩|apply nM|apply fM)
   all_goals((try apply vM);(try simp only[vq]at*);try omega)
   all_goals(simp[bq])
  intro i ⟨hi,hgo2⟩
  by_cases hlt2:i<s.cs.length
  ·have hm:(ms s.cs).getD i 0=(mk (s.cd i):Nat):=eY hlt2
   have hA:=(h.asc _ hlt2).1
   have hAc:=(h.asc _ hlt2).2
   have e1:bq 3 bR s sum ls ((-1)+(j:Int)) (i+1)=bq 3 bR s sum ls ((-1)+(j:Int)) i++dB 3 bR s sum (ls.getD ((-1)+(j:Int)).toNat []) ((-1)+(j:Int)) i:=by unfold bq;rw[iW]
   repeat'((conv=>whnf);first|(intro hq;(try simp only[vw]at hq);try first|exact absurd hq (by decide)|exfalso;omega)|apply aI|with_reducible exact vM rfl|exact⟨⟩|apply nM|apply fM)
   all_goals((try apply vM);(try simp only[vq]at*);try omega)
   all_goals(try first|omega|(rw[ejt];omega))
   ·have hcc:(s.dc i||(lnG 3&&!decide ((i:Int)∈(ls.getD ((-1)+(j:Int)).toNat []))))=false:=by rw[show s.dc i=false from hq];rfl
    have hce:dB 3 bR s sum (ls.getD ((-1)+(j:Int)).toNat []) ((-1)+(j:Int)) i=bZ 3 bR s sum (ls.getD ((-1)+(j:Int)).toNat []) ((-1)+(j:Int)) i (s.cd i).length:=by unfold dB;rw[hcc];rfl
    rw[hce]at e1
    have hsp:∀t,t<(s.cd i).length→jst 3 s sum (ls.getD ((-1)+(j:Int)).toNat []) i ((s.cd i).getD t 0)=true→∃B,L=(aX 3 bR s sum ls (-1) j++bq 3 bR s sum ls ((-1)+(j:Int)) i++bZ 3 bR s sum (ls.getD ((-1)+(j:Int)).toNat []) ((-1)+(j:Int)) i t)++ddV bR i ((s.cd i).getD t 0) ((-1)+(j:Int))::B:=fun t ht hh=>by
     rw[hL];exact mQ (g:=3) (nm:=bR) (s:=s) (sum:=sum) (ls:=ls) (fr:=(-1)) (m:=1) (j:=j) (i:=i) (t:=t) hlt hlt2 ht hcc hh
    have hpos:∀t,t≤(s.cd i).length→(∀t',t'<t→(!jst 3 s sum (ls.getD ((-1)+(j:Int)).toNat []) i ((s.cd i).getD t' 0)||go ((aX 3 bR s sum ls (-1) j++bq 3 bR s sum ls ((-1)+(j:Int)) i++bZ 3 bR s sum (ls.getD ((-1)+(j:Int)).toNat []) ((-1)+(j:Int)) i t')++[ddV bR i ((s.cd i).getD t' 0) ((-1)+(j:Int))]))=true)→GoTo go L (aX 3 bR s sum ls (-1) j++bq 3 bR s sum ls ((-1)+(j:Int)) i++bZ 3 bR s sum (ls.getD ((-1)+(j:Int)).toNat []) ((-1)+(j:Int)) i t).length:=by
     intro t
     induction t with
     |zero=>intro _ _;rw[fD,List.append_nil];exact hgo2
     |succ t ih=>
      intro ht hall
      have g0:=ih (by omega) fun t' h'=>hall t' (by omega)
      have g1:=hall t (by omega)
      rw[fE (by omega)]
      split
      ·rename_i hh
       rw[hh]at g1
       obtain⟨B,hB⟩:=hsp t (by omega) hh
       rw[←List.append_assoc]
       exact oI hB g0 (by simpa using g1)
      ·rw[List.append_nil];exact g0
    rw[hm]
    conv=>whnf
    refine iG aK mixed ak eG (fun r=>hY r _) (fs:=[]) (cs:=[.ip (.pv [.int .u32 (mk (s.cd i):Nat)]) 0]) ((s.cd i).map (PV.int .i64)) (fun t=>(!jst 3 s sum (ls.getD ((-1)+(j:Int)).toNat []) i ((s.cd i).getD t 0)||go ((aX 3 bR s sum ls (-1) j++bq 3 bR s sum ls ((-1)+(j:Int)) i++bZ 3 bR s sum (ls.getD ((-1)+(j:Int)).toNat []) ((-1)+(j:Int)) i t)++[ddV bR i ((s.cd i).getD t 0) ((-1)+(j:Int))]))) (fun t=>[(0,.ext G (aX 3 bR s sum ls (-1) j++bq 3 bR s sum ls ((-1)+(j:Int)) i++bZ 3 bR s sum (ls.getD ((-1)+(j:Int)).toNat []) ((-1)+(j:Int)) i t))]) (by rfl) (by rfl) (by rfl) (jB (s.cd i) hA) (by rfl) (by rfl) (by rfl) (by rfl) ?_ ?_ ?_
    ·repeat'((conv=>whnf);first|intro _|apply aI|with_reducible exact vM rfl|exact⟨⟩|apply nM|apply fM)
     all_goals((try apply vM);(try simp only[vq]at*);try omega)
     all_goals(rw[fD,List.append_nil])
    ·intro hall
     rw[List.length_map]at hall⊢
     have g9:=hpos _ (Nat.le_refl _) hall
     repeat'((conv=>whnf);first|intro _|apply aI|with_reducible exact vM rfl|exact⟨⟩|apply nM|apply fM)
     all_goals((try apply vM);(try simp only[vq]at*);try omega)
     refine⟨i+1,[],⟨⟨by omega,by rw[e1,←List.append_assoc];exact g9⟩,by omega⟩,?_⟩
     rw[e1,←List.append_assoc]
     repeat'((conv=>whnf);first|intro _|apply aI|with_reducible exact vM rfl|exact⟨⟩|apply nM|apply fM)
     all_goals((try apply vM);(try simp only[vq]at*);try omega)
    ·intro t x hx hall lp
     obtain⟨ht,rfl⟩:=nN hx
     have hxC:=bV ht
     have hxr:=hA.rng _ hxC
     have hxc:=hAc _ hxC
     have g0:=hpos t (by omega) hall
     have hs1:=hsp t ht
     have cs1:=fE (g:=3) (nm:=bR) (s:=s) (sum:=sum) (l:=(ls.getD ((-1)+(j:Int)).toNat [])) (k:=((-1)+(j:Int))) ht
     repeat'((conv=>whnf);first|apply Exists.intro (s)|(intro hq;(try simp only[vw]at hq);try first|exact absurd hq (by decide)|exfalso;omega)|apply aI|with_reducible exact vM rfl|exact⟨⟩|apply nM|apply fM)
     all_goals((try apply vM);(try simp only[vq]at*);try omega)
     all_goals(try omega)
     ·exact⟨h,by omega,by omega⟩
     ·obtain⟨B,hB⟩:=hs1 (by assumption)
      exact qB hB g0
     ·rw[show jst 3 s sum (ls.getD ((-1)+(j:Int)).toNat []) i ((s.cd i).getD t 0)=true by assumption]
      assumption
     ·obtain⟨B,hB⟩:=hs1 (by assumption)
      exact oJ hB g0 (by assumption)
     ·have q1:jst 3 s sum (ls.getD ((-1)+(j:Int)).toNat []) i ((s.cd i).getD t 0)=true:=by assumption
      have q2:go ((aX 3 bR s sum ls (-1) j++bq 3 bR s sum ls ((-1)+(j:Int)) i++bZ 3 bR s sum (ls.getD ((-1)+(j:Int)).toNat []) ((-1)+(j:Int)) i t)++[ddV bR i ((s.cd i).getD t 0) ((-1)+(j:Int))])=true:=by assumption
      refine⟨[],?_⟩
      rw[cs1,if_pos q1,←List.append_assoc]
      repeat'((conv=>whnf);first|intro _|apply aI|with_reducible exact vM rfl|exact⟨⟩|apply nM|apply fM)
      all_goals((try apply vM);(try simp only[vq]at*);try omega)
      all_goals(try first|(rw[q1,q2];rfl)|rfl)
     ·have q1:jst 3 s sum (ls.getD ((-1)+(j:Int)).toNat []) i ((s.cd i).getD t 0)=false:=by assumption
      refine⟨[],?_⟩
      rw[cs1,if_neg (by rw[q1];decide),List.append_nil]
      repeat'((conv=>whnf);first|intro _|apply aI|with_reducible exact vM rfl|exact⟨⟩|apply nM|apply fM)
      all_goals((try apply vM);(try simp only[vq]at*);try omega)
      all_goals(try(rw[q1];rfl))
   ·have hce:dB 3 bR s sum (ls.getD ((-1)+(j:Int)).toNat []) ((-1)+(j:Int)) i=[]:=by unfold dB;rw[show s.dc i=true from hq];rfl
    rw[hce,List.append_nil]at e1
    refine⟨i+1,[],⟨⟨by omega,by rw[e1];exact hgo2⟩,by omega⟩,?_⟩
    rw[e1]
    repeat'((conv=>whnf);first|intro _|apply aI|with_reducible exact vM rfl|exact⟨⟩|apply nM|apply fM)
    all_goals((try apply vM);(try simp only[vq]at*);try omega)
  ·have:i=s.cs.length:=by omega
   subst this
   rw[←e2]at hgo2⊢
   repeat'((conv=>whnf);first|(intro hq;(try simp only[vw]at hq);try first|exact absurd hq (by decide)|exfalso;omega)|apply aI|with_reducible exact vM rfl|exact⟨⟩|apply nM|apply fM)
   all_goals((try apply vM);(try simp only[vq]at*);try omega)
   refine⟨j+1,[(21,2)],⟨⟨by omega,hgo2⟩,by omega⟩,?_⟩
   repeat'((conv=>whnf);first|intro _|apply aI|with_reducible exact vM rfl|exact⟨⟩|apply nM|apply fM)
   all_goals((try apply vM);(try simp only[vq]at*);try omega)
 ·have:j=1:=by omega
  subst this
  repeat'((conv=>whnf);first|(intro hq;(try simp only[vw]at hq);try first|exact absurd hq (by decide)|exfalso;omega)|apply aI|with_reducible exact vM rfl|exact⟨⟩|apply nM|apply fM)
  all_goals((try apply vM);(try simp only[vq]at*);try omega)
  rw[hL]
  rw[hL]at hgo
  exact oK hgo
theorem Pe (c:Int) (ls:List (List Int)) (sum:Int) (gv:List Int) (s:St) (h:bM c ls sum s):
 l8 Tryz.prog 180 [] [.ip (.pv [.int .i64 0]) 0,.ip (.pv [.int .i64 ls.length]) 0,.ip (.pv [bdV c ls sum gv s]) 0,rlV bN false true 175] 1 (aX 4 bN s sum ls 0 ls.length):=by
 refine kH (md:=1) (rf:=[]) mixed ak Tryz.func180 (by rfl) (by rfl) (by rfl) fun G go b hY=>⟨_,eG,?_⟩
 obtain⟨L,hL⟩:∃L,L=aX 4 bN s sum ls 0 ls.length:=⟨_,rfl⟩
 rw[←hL]at hY⊢
 have W:Walk Tryz.prog none jS tab.get Av (rE b 1 G go L):=⟨aK,mixed,ak,eG,hY _ _⟩
 have hcl:=h.cl
 have hdl:=h.dl
 have hc1:=h.c1
 have hms:=dJ s.cs
 have hll:=h.ll
 repeat'((conv=>whnf);first|intro _|apply aI|with_reducible exact vM rfl|exact⟨⟩|apply nM|apply fM)
 all_goals((try apply vM);(try simp only[vq]at*);try omega)
 conv=>whnf
 refine aM (X:=Nat) (fun j=>j≤ls.length∧GoTo go L (aX 4 bN s sum ls 0 j).length) (fun j=>[(6,.rp 2 0)]) (fun j=>[(0,.ext G (aX 4 bN s sum ls 0 j)),(2,.cells (.pv [.int .i64 (0+(j:Int))]) false)]) (fun j=>ls.length-j) 0 W (by rfl) ⟨by omega,.zero⟩ ?_ ?_
 ·repeat'((conv=>whnf);first|intro _|apply aI|with_reducible exact vM rfl|exact⟨⟩|apply nM|apply fM)
  all_goals((try apply vM);(try simp only[vq]at*);try omega)
  all_goals rfl
 intro j ⟨hj,hgo⟩
 by_cases hlt:j<ls.length
 ·have e2:aX 4 bN s sum ls 0 (j+1)=aX 4 bN s sum ls 0 j++bq 4 bN s sum ls (0+(j:Int)) s.cs.length:=by unfold aX;rw[iW]
  have hln:=h.ln j hlt
  have hlen:=hln.len
  have ejt:(0+(j:Int)).toNat=j:=by omega
  repeat'((conv=>whnf);first|(intro hq;(try simp only[vw]at hq);try first|exact absurd hq (by decide)|exfalso;omega)|apply aI|with_reducible exact vM rfl|exact⟨⟩|apply nM|apply fM)
  all_goals((try apply vM);(try simp only[vq]at*);try omega)
  conv=>whnf
  refine aM (X:=Nat) (fun i=>i≤s.cs.length∧GoTo go L (aX 4 bN s sum ls 0 j++bq 4 bN s sum ls (0+(j:Int)) i).length) (fun i=>[(22,.int .i64 i)]) (fun i=>[(0,.ext G (aX 4 bN s sum ls 0 j++bq 4 bN s sum ls (0+(j:Int)) i))]) (fun i=>s.cs.length-i) 0 W (by rfl) ⟨by omega,by simpa [bq]using hgo⟩ ?_ ?_
  ·repeat'((conv=>whnf);first|intro _|apply aI|with_reducible exact vM rfl|exact⟨⟩|apply nM|apply fM)
   all_goals((try apply vM);(try simp only[vq]at*);try omega)
   all_goals(simp[bq])
  intro i ⟨hi,hgo2⟩
  by_cases hlt2:i<s.cs.length
  ·have hm:(ms s.cs).getD i 0=(mk (s.cd i):Nat):=eY hlt2
   have hA:=(h.asc _ hlt2).1
   have hAc:=(h.asc _ hlt2).2
   have e1:bq 4 bN s sum ls (0+(j:Int)) (i+1)=bq 4 bN s sum ls (0+(j:Int)) i++dB 4 bN s sum (ls.getD (0+(j:Int)).toNat []) (0+(j:Int)) i:=by unfold bq;rw[iW]
   repeat'((conv=>whnf);first|(intro hq;(try simp only[vw]at hq);try first|exact absurd hq (by decide)|exfalso;omega)|apply aI|with_reducible exact vM rfl|exact⟨⟩|apply nM|apply fM)
   all_goals((try apply vM);(try simp only[vq]at*);try omega)
   all_goals(try first|omega|(rw[ejt];omega))
   ·have hce:dB 4 bN s sum (ls.getD (0+(j:Int)).toNat []) (0+(j:Int)) i=[]:=by unfold dB;rw[show decide ((i:Int)∈(ls.getD (0+(j:Int)).toNat []))=false by apply decide_eq_false;assumption];cases s.dc i<;>rfl
    rw[hce,List.append_nil]at e1
    refine⟨i+1,[],⟨⟨by omega,by rw[e1];exact hgo2⟩,by omega⟩,?_⟩
    rw[e1]
    repeat'((conv=>whnf);first|intro _|apply aI|with_reducible exact vM rfl|exact⟨⟩|apply nM|apply fM)
    all_goals((try apply vM);(try simp only[vq]at*);try omega)
   ·have hcc:(s.dc i||(lnG 4&&!decide ((i:Int)∈(ls.getD (0+(j:Int)).toNat []))))=false:=by rw[show s.dc i=false by assumption,show decide ((i:Int)∈(ls.getD (0+(j:Int)).toNat []))=true by apply decide_eq_true;assumption];rfl
    have hce:dB 4 bN s sum (ls.getD (0+(j:Int)).toNat []) (0+(j:Int)) i=bZ 4 bN s sum (ls.getD (0+(j:Int)).toNat []) (0+(j:Int)) i (s.cd i).length:=by unfold dB;rw[hcc];rfl
    rw[hce]at e1
    have hsp:∀t,t<(s.cd i).length→jst 4 s sum (ls.getD (0+(j:Int)).toNat []) i ((s.cd i).getD t 0)=true→∃B,L=(aX 4 bN s sum ls 0 j++bq 4 bN s sum ls (0+(j:Int)) i++bZ 4 bN s sum (ls.getD (0+(j:Int)).toNat []) (0+(j:Int)) i t)++ddV bN i ((s.cd i).getD t 0) (0+(j:Int))::B:=fun t ht hh=>by
     rw[hL];exact mQ (g:=4) (nm:=bN) (s:=s) (sum:=sum) (ls:=ls) (fr:=0) (m:=ls.length) (j:=j) (i:=i) (t:=t) hlt hlt2 ht hcc hh
    have hpos:∀t,t≤(s.cd i).length→(∀t',t'<t→(!jst 4 s sum (ls.getD (0+(j:Int)).toNat []) i ((s.cd i).getD t' 0)||go ((aX 4 bN s sum ls 0 j++bq 4 bN s sum ls (0+(j:Int)) i++bZ 4 bN s sum (ls.getD (0+(j:Int)).toNat []) (0+(j:Int)) i t')++[ddV bN i ((s.cd i).getD t' 0) (0+(j:Int))]))=true)→GoTo go L (aX 4 bN s sum ls 0 j++bq 4 bN s sum ls (0+(j:Int)) i++bZ 4 bN s sum (ls.getD (0+(j:Int)).toNat []) (0+(j:Int)) i t).length:=by
     intro t
     induction t with
     |zero=>intro _ _;rw[fD,List.append_nil];exact hgo2
     |succ t ih=>
      intro ht hall
      have g0:=ih (by omega) fun t' h'=>hall t' (by omega)
      have g1:=hall t (by omega)
      rw[fE (by omega)]
      split
      ·rename_i hh
       rw[hh]at g1
       obtain⟨B,hB⟩:=hsp t (by omega) hh
       rw[←List.append_assoc]
       exact oI hB g0 (by simpa using g1)
      ·rw[List.append_nil];exact g0
    rw[hm]
    conv=>whnf
    refine iG aK mixed ak eG (fun r=>hY r _) (fs:=[]) (cs:=[.ip (.pv [.int .u32 (mk (s.cd i):Nat)]) 0]) ((s.cd i).map (PV.int .i64)) (fun t=>(!jst 4 s sum (ls.getD (0+(j:Int)).toNat []) i ((s.cd i).getD t 0)||go ((aX 4 bN s sum ls 0 j++bq 4 bN s sum ls (0+(j:Int)) i++bZ 4 bN s sum (ls.getD (0+(j:Int)).toNat []) (0+(j:Int)) i t)++[ddV bN i ((s.cd i).getD t 0) (0+(j:Int))]))) (fun t=>[(0,.ext G (aX 4 bN s sum ls 0 j++bq 4 bN s sum ls (0+(j:Int)) i++bZ 4 bN s sum (ls.getD (0+(j:Int)).toNat []) (0+(j:Int)) i t))]) (by rfl) (by rfl) (by rfl) (jB (s.cd i) hA) (by rfl) (by rfl) (by rfl) (by rfl) ?_ ?_ ?_
    ·repeat'((conv=>whnf);first|intro _|apply aI|with_reducible exact vM rfl|exact⟨⟩|apply nM|apply fM)
     all_goals((try apply vM);(try simp only[vq]at*);try omega)
     all_goals(rw[fD,List.append_nil])
    ·intro hall
     rw[List.length_map]at hall⊢
     have g9:=hpos _ (Nat.le_refl _) hall
     repeat'((conv=>whnf);first|intro _|apply aI|with_reducible exact vM rfl|exact⟨⟩|apply nM|apply fM)
     all_goals((try apply vM);(try simp only[vq]at*);try omega)
     refine⟨i+1,[],⟨⟨by omega,by rw[e1,←List.append_assoc];exact g9⟩,by omega⟩,?_⟩
     rw[e1,←List.append_assoc]
     repeat'((conv=>whnf);first|intro _|apply aI|with_reducible exact vM rfl|exact⟨⟩|apply nM|apply fM)
     all_goals((try apply vM);(try simp only[vq]at*);try omega)
    ·intro t x hx hall lp
     obtain⟨ht,rfl⟩:=nN hx
     have hxC:=bV ht
     have hxr:=hA.rng _ hxC
     have hxc:=hAc _ hxC
     have g0:=hpos t (by omega) hall
     have hs1:=hsp t ht
     have cs1:=fE (g:=4) (nm:=bN) (s:=s) (sum:=sum) (l:=(ls.getD (0+(j:Int)).toNat [])) (k:=(0+(j:Int))) ht
     repeat'((conv=>whnf);first|apply Exists.intro (s)|(intro hq;(try simp only[vw]at hq);try first|exact absurd hq (by decide)|exfalso;omega)|apply aI|with_reducible exact vM rfl|exact⟨⟩|apply nM|apply fM)
     all_goals((try apply vM);(try simp only[vq]at*);try omega)
     all_goals(try omega)
     ·exact⟨h,by omega,by omega,by omega⟩
     ·obtain⟨B,hB⟩:=hs1 (by assumption)
      exact qB hB g0
     ·rw[show jst 4 s sum (ls.getD (0+(j:Int)).toNat []) i ((s.cd i).getD t 0)=true by assumption]
      assumption
     ·obtain⟨B,hB⟩:=hs1 (by assumption)
      exact oJ hB g0 (by assumption)
     ·have q1:jst 4 s sum (ls.getD (0+(j:Int)).toNat []) i ((s.cd i).getD t 0)=true:=by assumption
      have q2:go ((aX 4 bN s sum ls 0 j++bq 4 bN s sum ls (0+(j:Int)) i++bZ 4 bN s sum (ls.getD (0+(j:Int)).toNat []) (0+(j:Int)) i t)++[ddV bN i ((s.cd i).getD t 0) (0+(j:Int))])=true:=by assumption
      refine⟨[],?_⟩
      rw[cs1,if_pos q1,←List.append_assoc]
      repeat'((conv=>whnf);first|intro _|apply aI|with_reducible exact vM rfl|exact⟨⟩|apply nM|apply fM)
      all_goals((try apply vM);(try simp only[vq]at*);try omega)
      all_goals(try first|(rw[q1,q2];rfl)|rfl)
     ·have q1:jst 4 s sum (ls.getD (0+(j:Int)).toNat []) i ((s.cd i).getD t 0)=false:=by assumption
      refine⟨[],?_⟩
      rw[cs1,if_neg (by rw[q1];decide),List.append_nil]
      repeat'((conv=>whnf);first|intro _|apply aI|with_reducible exact vM rfl|exact⟨⟩|apply nM|apply fM)
      all_goals((try apply vM);(try simp only[vq]at*);try omega)
      all_goals(try(rw[q1];rfl))
   ·have hce:dB 4 bN s sum (ls.getD (0+(j:Int)).toNat []) (0+(j:Int)) i=[]:=by unfold dB;rw[show s.dc i=true from hq];rfl
    rw[hce,List.append_nil]at e1
    refine⟨i+1,[],⟨⟨by omega,by rw[e1];exact hgo2⟩,by omega⟩,?_⟩
    rw[e1]
    repeat'((conv=>whnf);first|intro _|apply aI|with_reducible exact vM rfl|exact⟨⟩|apply nM|apply fM)
    all_goals((try apply vM);(try simp only[vq]at*);try omega)
  ·have:i=s.cs.length:=by omega
   subst this
   rw[←e2]at hgo2⊢
   repeat'((conv=>whnf);first|(intro hq;(try simp only[vw]at hq);try first|exact absurd hq (by decide)|exfalso;omega)|apply aI|with_reducible exact vM rfl|exact⟨⟩|apply nM|apply fM)
   all_goals((try apply vM);(try simp only[vq]at*);try omega)
   refine⟨j+1,[(21,2)],⟨⟨by omega,hgo2⟩,by omega⟩,?_⟩
   repeat'((conv=>whnf);first|intro _|apply aI|with_reducible exact vM rfl|exact⟨⟩|apply nM|apply fM)
   all_goals((try apply vM);(try simp only[vq]at*);try omega)
 ·have:j=ls.length:=by omega
  subst this
  repeat'((conv=>whnf);first|(intro hq;(try simp only[vw]at hq);try first|exact absurd hq (by decide)|exfalso;omega)|apply aI|with_reducible exact vM rfl|exact⟨⟩|apply nM|apply fM)
  all_goals((try apply vM);(try simp only[vq]at*);try omega)
  rw[hL]
  rw[hL]at hgo
  exact oK hgo
theorem Pf (c:Int) (ls:List (List Int)) (sum:Int) (gv:List Int) (s:St) (h:bM c ls sum s):
 l8 Tryz.prog 180 [] [.ip (.pv [.int .i64 0]) 0,.ip (.pv [.int .i64 ls.length]) 0,.ip (.pv [bdV c ls sum gv s]) 0,rlV bO false true 176] 1 (aX 5 bO s sum ls 0 ls.length):=by
 refine kH (md:=1) (rf:=[]) mixed ak Tryz.func180 (by rfl) (by rfl) (by rfl) fun G go b hY=>⟨_,eG,?_⟩
 obtain⟨L,hL⟩:∃L,L=aX 5 bO s sum ls 0 ls.length:=⟨_,rfl⟩
 rw[←hL]at hY⊢
 have W:Walk Tryz.prog none jS tab.get Av (rE b 1 G go L):=⟨aK,mixed,ak,eG,hY _ _⟩
 have hcl:=h.cl
 have hdl:=h.dl
 have hc1:=h.c1
 have hms:=dJ s.cs
 have hll:=h.ll
 repeat'((conv=>whnf);first|intro _|apply aI|with_reducible exact vM rfl|exact⟨⟩|apply nM|apply fM)
 all_goals((try apply vM);(try simp only[vq]at*);try omega)
 conv=>whnf
 refine aM (X:=Nat) (fun j=>j≤ls.length∧GoTo go L (aX 5 bO s sum ls 0 j).length) (fun j=>[(6,.rp 2 0)]) (fun j=>[(0,.ext G (aX 5 bO s sum ls 0 j)),(2,.cells (.pv [.int .i64 (0+(j:Int))]) false)]) (fun j=>ls.length-j) 0 W (by rfl) ⟨by omega,.zero⟩ ?_ ?_
 ·repeat'((conv=>whnf);first|intro _|apply aI|with_reducible exact vM rfl|exact⟨⟩|apply nM|apply fM)
  all_goals((try apply vM);(try simp only[vq]at*);try omega)
  all_goals rfl
 intro j ⟨hj,hgo⟩
 by_cases hlt:j<ls.length
 ·have e2:aX 5 bO s sum ls 0 (j+1)=aX 5 bO s sum ls 0 j++bq 5 bO s sum ls (0+(j:Int)) s.cs.length:=by unfold aX;rw[iW]
  have hln:=h.ln j hlt
  have hlen:=hln.len
  have ejt:(0+(j:Int)).toNat=j:=by omega
  repeat'((conv=>whnf);first|(intro hq;(try simp only[vw]at hq);try first|exact absurd hq (by decide)|exfalso;omega)|apply aI|with_reducible exact vM rfl|exact⟨⟩|apply nM|apply fM)
  all_goals((try apply vM);(try simp only[vq]at*);try omega)
  conv=>whnf
  refine aM (X:=Nat) (fun i=>i≤s.cs.length∧GoTo go L (aX 5 bO s sum ls 0 j++bq 5 bO s sum ls (0+(j:Int)) i).length) (fun i=>[(22,.int .i64 i)]) (fun i=>[(0,.ext G (aX 5 bO s sum ls 0 j++bq 5 bO s sum ls (0+(j:Int)) i))]) (fun i=>s.cs.length-i) 0 W (by rfl) ⟨by omega,by simpa [bq]using hgo⟩ ?_ ?_
  ·repeat'((conv=>whnf);first|intro _|apply aI|with_reducible exact vM rfl|exact⟨⟩|apply nM|apply fM)
   all_goals((try apply vM);(try simp only[vq]at*);try omega)
   all_goals(simp[bq])
  intro i ⟨hi,hgo2⟩
  by_cases hlt2:i<s.cs.length
  ·have hm:(ms s.cs).getD i 0=(mk (s.cd i):Nat):=eY hlt2
   have hA:=(h.asc _ hlt2).1
   have hAc:=(h.asc _ hlt2).2
   have e1:bq 5 bO s sum ls (0+(j:Int)) (i+1)=bq 5 bO s sum ls (0+(j:Int)) i++dB 5 bO s sum (ls.getD (0+(j:Int)).toNat []) (0+(j:Int)) i:=by unfold bq;rw[iW]
   repeat'((conv=>whnf);first|(intro hq;(try simp only[vw]at hq);try first|exact absurd hq (by decide)|exfalso;omega)|apply aI|with_reducible exact vM rfl|exact⟨⟩|apply nM|apply fM)
   all_goals((try apply vM);(try simp only[vq]at*);try omega)
   all_goals(try first|omega|(rw[ejt];omega))
   ·have hce:dB 5 bO s sum (ls.getD (0+(j:Int)).toNat []) (0+(j:Int)) i=[]:=by unfold dB;rw[show decide ((i:Int)∈(ls.getD (0+(j:Int)).toNat []))=false by apply decide_eq_false;assumption];cases s.dc i<;>rfl
    rw[hce,List.append_nil]at e1
    refine⟨i+1,[],⟨⟨by omega,by rw[e1];exact hgo2⟩,by omega⟩,?_⟩
    rw[e1]
    repeat'((conv=>whnf);first|intro _|apply aI|with_reducible exact vM rfl|exact⟨⟩|apply nM|apply fM)
    all_goals((try apply vM);(try simp only[vq]at*);try omega)
   ·have hcc:(s.dc i||(lnG 5&&!decide ((i:Int)∈(ls.getD (0+(j:Int)).toNat []))))=false:=by rw[show s.dc i=false by assumption,show decide ((i:Int)∈(ls.getD (0+(j:Int)).toNat []))=true by apply decide_eq_true;assumption];rfl
    have hce:dB 5 bO s sum (ls.getD (0+(j:Int)).toNat []) (0+(j:Int)) i=bZ 5 bO s sum (ls.getD (0+(j:Int)).toNat []) (0+(j:Int)) i (s.cd i).length:=by unfold dB;rw[hcc];rfl
    rw[hce]at e1
    have hsp:∀t,t<(s.cd i).length→jst 5 s sum (ls.getD (0+(j:Int)).toNat []) i ((s.cd i).getD t 0)=true→∃B,L=(aX 5 bO s sum ls 0 j++bq 5 bO s sum ls (0+(j:Int)) i++bZ 5 bO s sum (ls.getD (0+(j:Int)).toNat []) (0+(j:Int)) i t)++ddV bO i ((s.cd i).getD t 0) (0+(j:Int))::B:=fun t ht hh=>by
     rw[hL];exact mQ (g:=5) (nm:=bO) (s:=s) (sum:=sum) (ls:=ls) (fr:=0) (m:=ls.length) (j:=j) (i:=i) (t:=t) hlt hlt2 ht hcc hh
    have hpos:∀t,t≤(s.cd i).length→(∀t',t'<t→(!jst 5 s sum (ls.getD (0+(j:Int)).toNat []) i ((s.cd i).getD t' 0)||go ((aX 5 bO s sum ls 0 j++bq 5 bO s sum ls (0+(j:Int)) i++bZ 5 bO s sum (ls.getD (0+(j:Int)).toNat []) (0+(j:Int)) i t')++[ddV bO i ((s.cd i).getD t' 0) (0+(j:Int))]))=true)→GoTo go L (aX 5 bO s sum ls 0 j++bq 5 bO s sum ls (0+(j:Int)) i++bZ 5 bO s sum (ls.getD (0+(j:Int)).toNat []) (0+(j:Int)) i t).length:=by
     intro t
     induction t with
     |zero=>intro _ _;rw[fD,List.append_nil];exact hgo2
     |succ t ih=>
      intro ht hall
      have g0:=ih (by omega) fun t' h'=>hall t' (by omega)
      have g1:=hall t (by omega)
      rw[fE (by omega)]
      split
      ·rename_i hh
       rw[hh]at g1
       obtain⟨B,hB⟩:=hsp t (by omega) hh
       rw[←List.append_assoc]
       exact oI hB g0 (by simpa using g1)
      ·rw[List.append_nil];exact g0
    rw[hm]
    conv=>whnf
    refine iG aK mixed ak eG (fun r=>hY r _) (fs:=[]) (cs:=[.ip (.pv [.int .u32 (mk (s.cd i):Nat)]) 0]) ((s.cd i).map (PV.int .i64)) (fun t=>(!jst 5 s sum (ls.getD (0+(j:Int)).toNat []) i ((s.cd i).getD t 0)||go ((aX 5 bO s sum ls 0 j++bq 5 bO s sum ls (0+(j:Int)) i++bZ 5 bO s sum (ls.getD (0+(j:Int)).toNat []) (0+(j:Int)) i t)++[ddV bO i ((s.cd i).getD t 0) (0+(j:Int))]))) (fun t=>[(0,.ext G (aX 5 bO s sum ls 0 j++bq 5 bO s sum ls (0+(j:Int)) i++bZ 5 bO s sum (ls.getD (0+(j:Int)).toNat []) (0+(j:Int)) i t))]) (by rfl) (by rfl) (by rfl) (jB (s.cd i) hA) (by rfl) (by rfl) (by rfl) (by rfl) ?_ ?_ ?_
    ·repeat'((conv=>whnf);first|intro _|apply aI|with_reducible exact vM rfl|exact⟨⟩|apply nM|apply fM)
     all_goals((try apply vM);(try simp only[vq]at*);try omega)
     all_goals(rw[fD,List.append_nil])
    ·intro hall
     rw[List.length_map]at hall⊢
     have g9:=hpos _ (Nat.le_refl _) hall
     repeat'((conv=>whnf);first|intro _|apply aI|with_reducible exact vM rfl|exact⟨⟩|apply nM|apply fM)
     all_goals((try apply vM);(try simp only[vq]at*);try omega)
     refine⟨i+1,[],⟨⟨by omega,by rw[e1,←List.append_assoc];exact g9⟩,by omega⟩,?_⟩
     rw[e1,←List.append_assoc]
     repeat'((conv=>whnf);first|intro _|apply aI|with_reducible exact vM rfl|exact⟨⟩|apply nM|apply fM)
     all_goals((try apply vM);(try simp only[vq]at*);try omega)
    ·intro t x hx hall lp
     obtain⟨ht,rfl⟩:=nN hx
     have hxC:=bV ht
     have hxr:=hA.rng _ hxC
     have hxc:=hAc _ hxC
     have g0:=hpos t (by omega) hall
     have hs1:=hsp t ht
     have cs1:=fE (g:=5) (nm:=bO) (s:=s) (sum:=sum) (l:=(ls.getD (0+(j:Int)).toNat [])) (k:=(0+(j:Int))) ht
     repeat'((conv=>whnf);first|apply Exists.intro (s)|(intro hq;(try simp only[vw]at hq);try first|exact absurd hq (by decide)|exfalso;omega)|apply aI|with_reducible exact vM rfl|exact⟨⟩|apply nM|apply fM)
     all_goals((try apply vM);(try simp only[vq]at*);try omega)
     all_goals(try omega)
     ·exact⟨h,by omega,by omega,by omega⟩
     ·obtain⟨B,hB⟩:=hs1 (by assumption)
      exact qB hB g0
     ·rw[show jst 5 s sum (ls.getD (0+(j:Int)).toNat []) i ((s.cd i).getD t 0)=true by assumption]
      assumption
     ·obtain⟨B,hB⟩:=hs1 (by assumption)
      exact oJ hB g0 (by assumption)
     ·have q1:jst 5 s sum (ls.getD (0+(j:Int)).toNat []) i ((s.cd i).getD t 0)=true:=by assumption
      have q2:go ((aX 5 bO s sum ls 0 j++bq 5 bO s sum ls (0+(j:Int)) i++bZ 5 bO s sum (ls.getD (0+(j:Int)).toNat []) (0+(j:Int)) i t)++[ddV bO i ((s.cd i).getD t 0) (0+(j:Int))])=true:=by assumption
      refine⟨[],?_⟩
      rw[cs1,if_pos q1,←List.append_assoc]
      repeat'((conv=>whnf);first|intro _|apply aI|with_reducible exact vM rfl|exact⟨⟩|apply nM|apply fM)
      all_goals((try apply vM);(try simp only[vq]at*);try omega)
      all_goals(try first|(rw[q1,q2];rfl)|rfl)
     ·have q1:jst 5 s sum (ls.getD (0+(j:Int)).toNat []) i ((s.cd i).getD t 0)=false:=by assumption
      refine⟨[],?_⟩
      rw[cs1,if_neg (by rw[q1];decide),List.append_nil]
      repeat'((conv=>whnf);first|intro _|apply aI|with_reducible exact vM rfl|exact⟨⟩|apply nM|apply fM)
      all_goals((try apply vM);(try simp only[vq]at*);try omega)
      all_goals(try(rw[q1];rfl))
   ·have hce:dB 5 bO s sum (ls.getD (0+(j:Int)).toNat []) (0+(j:Int)) i=[]:=by unfold dB;rw[show s.dc i=true from hq];rfl
    rw[hce,List.append_nil]at e1
    refine⟨i+1,[],⟨⟨by omega,by rw[e1];exact hgo2⟩,by omega⟩,?_⟩
    rw[e1]
    repeat'((conv=>whnf);first|intro _|apply aI|with_reducible exact vM rfl|exact⟨⟩|apply nM|apply fM)
    all_goals((try apply vM);(try simp only[vq]at*);try omega)
  ·have:i=s.cs.length:=by omega
   subst this
   rw[←e2]at hgo2⊢
   repeat'((conv=>whnf);first|(intro hq;(try simp only[vw]at hq);try first|exact absurd hq (by decide)|exfalso;omega)|apply aI|with_reducible exact vM rfl|exact⟨⟩|apply nM|apply fM)
   all_goals((try apply vM);(try simp only[vq]at*);try omega)
   refine⟨j+1,[(21,2)],⟨⟨by omega,hgo2⟩,by omega⟩,?_⟩
   repeat'((conv=>whnf);first|intro _|apply aI|with_reducible exact vM rfl|exact⟨⟩|apply nM|apply fM)
   all_goals((try apply vM);(try simp only[vq]at*);try omega)
 ·have:j=ls.length:=by omega
  subst this
  repeat'((conv=>whnf);first|(intro hq;(try simp only[vw]at hq);try first|exact absurd hq (by decide)|exfalso;omega)|apply aI|with_reducible exact vM rfl|exact⟨⟩|apply nM|apply fM)
  all_goals((try apply vM);(try simp only[vq]at*);try omega)
  rw[hL]
  rw[hL]at hgo
  exact oK hgo
structure Dd where
 g:Nat
 y:Int
 x:Int
 k:Int
abbrev Aw (d:Dd):PV:=ddV (nmG d.g) d.y d.x d.k
def frG (g:Nat):Int:=if lnG g then 0 else-1
def mG (g:Nat) (ls:List (List Int)):Nat:=if lnG g then ls.length else 1
def Ay (g:Nat) (s:St) (sum:Int) (l:List Int) (k:Int) (i:Nat):List Dd:=
 if s.dc i||(lnG g&&!decide ((i:Int)∈l))then []else((s.cd i).filter fun x=>jst g s sum l i x).map fun x=>⟨g,i,x,k⟩
def mX (g:Nat) (s:St) (sum:Int) (ls:List (List Int)):List Dd:=
 (List.range (mG g ls)).flatMap fun j:Nat=>(List.range s.cs.length).flatMap fun i=>Ay g s sum (ls.getD (frG g+(j:Int)).toNat []) (frG g+(j:Int)) i
theorem Yd (g:Nat) (s:St) (sum:Int) (l:List Int) (k:Int) (i:Nat):dB g (nmG g) s sum l k i=(Ay g s sum l k i).map Aw:=by
 unfold dB Ay
 split
 ·rfl
 ·unfold bZ;rw[List.take_length,List.map_map];rfl
theorem Ye (g:Nat) (s:St) (sum:Int) (ls:List (List Int)):aX g (nmG g) s sum ls (frG g) (mG g ls)=(mX g s sum ls).map Aw:=by
 unfold aX mX bq
 rw[List.map_flatMap]
 congr 1;funext j
 rw[List.map_flatMap]
 congr 1;funext i
 exact Yd _ _ _ _ _ _
theorem FE {g:Nat} {s:St} {sum:Int} {ls:List (List Int)} {d:Dd}:d∈mX g s sum ls↔
 d.g=g∧(0≤d.y∧d.y<s.cs.length)∧(if lnG g then(0≤d.k∧d.k<ls.length)∧d.y∈ls.getD d.k.toNat []else d.k= -1)∧okJ g s sum (ls.getD d.k.toNat []) d.y d.x=true:=by
 unfold mX
 rw[List.mem_flatMap]
 constructor
 ·rintro⟨j,hj,hd⟩
  rw[List.mem_flatMap]at hd
  obtain⟨i,hi,hd⟩:=hd
  have hj:=List.mem_range.1 hj
  have hi:=List.mem_range.1 hi
  unfold Ay at hd
  split at hd
  ·simp at hd
  ·rename_i hc
   obtain⟨x,hx,rfl⟩:=List.mem_map.1 hd
   obtain⟨hx,hJ⟩:=List.mem_filter.1 hx
   have hc:(s.dc i||(lnG g&&!decide ((i:Int)∈ls.getD (frG g+(j:Int)).toNat [])))=false:=by
    cases h:(s.dc i||(lnG g&&!decide ((i:Int)∈ls.getD (frG g+(j:Int)).toNat [])))with
    |false=>rfl
    |true=>exact absurd h hc
   rw[Bool.or_eq_false_iff]at hc
   refine⟨rfl,⟨by simp,by simp;omega⟩,?_,?_⟩
   ·cases hl:lnG g with
    |true=>
     rw[hl]at hc
     simp only[mG,frG,hl,if_true]at hj⊢
     refine⟨⟨by omega,by omega⟩,?_⟩
     have:=hc.2
     simp only[frG,hl,if_true,Bool.true_and,Bool.not_eq_false',decide_eq_true_eq]at this
     exact this
    |false=>
     simp only[mG,frG,hl]at hj⊢
     simp at hj⊢
     omega
   ·unfold okJ
    simp only[Int.toNat_natCast]
    rw[hc.1,decide_eq_true hx,hJ];rfl
 ·rintro⟨h1,⟨h2,h3⟩,h4,h5⟩
  unfold okJ at h5
  simp only[Bool.and_eq_true,Bool.not_eq_true',decide_eq_true_eq]at h5
  obtain⟨a1,a2,a3⟩:=h5
  have e:((d.y.toNat:Nat):Int)=d.y:=by omega
  cases hl:lnG g with
  |true=>
   rw[hl]at h4
   simp only[if_true]at h4
   refine⟨d.k.toNat,List.mem_range.2 (by simp only[mG,hl,if_true];omega),?_⟩
   rw[List.mem_flatMap]
   refine⟨d.y.toNat,List.mem_range.2 (by omega),?_⟩
   have ek:(frG g+((d.k.toNat:Nat):Int))=d.k:=by simp only[frG,hl,if_true];omega
   rw[ek]
   unfold Ay
   rw[a1,hl,e,decide_eq_true h4.2]
   simp only[Bool.not_true,Bool.and_false,Bool.or_false]
   exact List.mem_map.2 ⟨d.x,List.mem_filter.2 ⟨a2,a3⟩,by subst h1;rfl⟩
  |false=>
   rw[hl]at h4
   simp only[Bool.false_eq_true,if_false]at h4
   refine⟨0,List.mem_range.2 (by simp[mG,hl]),?_⟩
   rw[List.mem_flatMap]
   refine⟨d.y.toNat,List.mem_range.2 (by omega),?_⟩
   have ek:(frG g+((0:Nat):Int))=d.k:=by simp only[frG,hl];rw[h4];rfl
   rw[ek]
   unfold Ay
   rw[a1,hl,e]
   simp only[Bool.false_and,Bool.or_false]
   exact List.mem_map.2 ⟨d.x,List.mem_filter.2 ⟨a2,a3⟩,by subst h1;rfl⟩
def jW (s:St) (sum:Int) (ls:List (List Int)):Nat→Option Dd
 |0=>none
 |n+1=>match jW s sum ls n with
  |some d=>some d
  |none=>(mX (n+1) s sum ls).head?
theorem FH {s:St} {sum:Int} {ls:List (List Int)} {d:Dd}:∀{n:Nat},jW s sum ls n=some d→∃g,1≤g∧g≤n∧d∈mX g s sum ls:=by
 intro n
 induction n with
 |zero=>intro h;cases h
 |succ n ih=>
  intro h
  unfold jW at h
  split at h
  ·rename_i d' h1
   cases h
   obtain⟨g,g1,g2,g3⟩:=ih h1
   exact⟨g,g1,by omega,g3⟩
  ·exact⟨n+1,by omega,by omega,List.mem_of_head? h⟩
def RY (g:Nat):Bool:=g≤3
def fnG:Nat→Nat
 |1=>172
 |2=>173
 |3=>174
 |4=>175
 |_=>176
def toG (g:Nat) (ls:List (List Int)):Int:=if lnG g then ls.length else 0
noncomputable def ac1:CPT:=aA 130 (aB oG) noC
theorem Yf:aY Tryz.prog ac1:=aj (au oH) aD
abbrev itV (g:Nat) (c:Int) (ls:List (List Int)) (sum:Int) (gv:List Int) (s:St):PV:=.fn (.func 180) [] [.ip (.pv [.int .i64 (frG g)]) 0,.ip (.pv [.int .i64 (toG g ls)]) 0,.ip (.pv [bdV c ls sum gv s]) 0,rlV (nmG g) (RY g) (lnG g) (fnG g)]
theorem RZ (g:Nat) (hg:1≤g∧g≤5) (c:Int) (ls:List (List Int)) (sum:Int) (gv:List Int) (s:St) (h:bM c ls sum s):
 l8 Tryz.prog 180 [] [.ip (.pv [.int .i64 (frG g)]) 0,.ip (.pv [.int .i64 (toG g ls)]) 0,.ip (.pv [bdV c ls sum gv s]) 0,rlV (nmG g) (RY g) (lnG g) (fnG g)] 1 ((mX g s sum ls).map Aw):=by
 rw[←Ye]
 obtain rfl|rfl|rfl|rfl|rfl:g=1∨g=2∨g=3∨g=4∨g=5:=by omega
 ·exact O8 c ls sum gv s h
 ·exact Pb c ls sum gv s h
 ·exact Pd c ls sum gv s h
 ·exact Pe c ls sum gv s h
 ·exact Pf c ls sum gv s h
theorem R6 (c:Int) (ls:List (List Int)) (sum:Int) (gv:List Int) (s:St) (g:Nat) (hg:1≤g∧g≤5):aG Tryz.prog 134 [bdV c ls sum gv s,.int .i64 (g:Int)] (itV g c ls sum gv s):=by
 have hte:=ze
 obtain rfl|rfl|rfl|rfl|rfl:g=1∨g=2∨g=3∨g=4∨g=5:=by omega
 all_goals
  refine av (md:=1) (rf:=[]) mixed ak Yf Tryz.func134 (by rfl) (by rfl) (by rfl) ?_
  repeat'((conv=>whnf);first|(intro hq;(try simp only[vw]at hq);try first|exact absurd hq (by decide)|exfalso;omega)|apply aI|with_reducible exact vM rfl|exact⟨⟩|apply nM|apply fM)
  all_goals((try apply vM);(try simp only[vq]at*);try omega)
  all_goals first|exact Sup.of rfl|(rw[hte];decide)|decide|skip
def Mr:PSp:=fun xs K=>match xs with
 | [.ip (.pv [.int .i64 c,.isl (.rows .i64 ls) .none,.int .i64 sum,.isl (.ints .i64 gv) .none,.isl (.ints .u32 M) .none,.isl (.bools D) .none]) 0,.int .i64 g]=>∃(s:St) (n:Nat),VC (M=ms s.cs∧D=s.ds∧g=n∧1≤n∧n≤5)∧K (itV n c ls sum gv s)
 |_=>False
theorem Yg:POK Tryz.prog 134 Mr:=by
 intro xs K hk
 unfold Mr at hk
 split at hk
 ·obtain⟨s,n,⟨rfl,rfl,rfl,h⟩,hk⟩:=hk
  exact⟨_,hk,R6 _ _ _ _ s n h⟩
 ·exact hk.elim
noncomputable def ac2:CPT:=aA 134 (aB Mr) noC
theorem Az:aY Tryz.prog ac2:=aj (au Yg) aD
def aaW (o:Option Dd):PV:=match o with
 |some d=>.tup [Aw d,.bp true]
 |none=>.tup [ddV rV 0 0 0,.bp false]
theorem Yh {s:St} {sum:Int} {ls:List (List Int)} {d:Dd} {i:Nat} (h0:jW s sum ls i=none) (h1:(mX (i+1) s sum ls).head? =some d):∀n,i+1≤n→jW s sum ls n=some d:=by
 intro n hn
 induction n with
 |zero=>omega
 |succ n ih=>
  unfold jW
  by_cases e:i=n
  ·subst e;rw[h0];exact h1
  ·rw[ih (by omega)]
theorem Pg (p:PV) (b:Bool):Sup (bF [p,PV.bool b]) (PV.tup [p,.bp b]):=⟨fun hr=>by
 cases hr with
 |tup _ _ vs hl hh=>
  refine .tup _ _ _ hl fun i hi=>?_
  have:=hh i hi
  obtain rfl|rfl:i=0∨i=1:=by simp at hi;omega
  ·exact this
  ·simp only[aC]at this⊢
   generalize vs.getD 1 undef=v1 at this
   cases this;exact .bp _ _⟩
theorem Ms (c:Int) (ls:List (List Int)) (sum:Int) (gv:List Int) (s:St) (h:bM c ls sum s) (n:Nat) (hn:n≤5):aG Tryz.prog 92 [bdV c ls sum gv s,.int .i64 (n:Int)] (aaW (jW s sum ls n)):=by
 refine av (md:=1) (rf:=[]) mixed ak Az Tryz.func92 (by rfl) (by rfl) (by rfl) ?_
 repeat'((conv=>whnf);first|(intro hq;(try simp only[vw]at hq);try first|exact absurd hq (by decide)|exfalso;omega)|apply aI|with_reducible exact vM rfl|exact⟨⟩|apply nM|apply fM)
 all_goals((try apply vM);(try simp only[vq]at*);try omega)
 conv=>whnf
 refine aM (X:=Nat) (fun i=>i≤n∧jW s sum ls i=none) (fun i=>[(6,.int .i64 ((i:Int)+1))]) (fun i=>[]) (fun i=>n-i) 0 ⟨aK,mixed,ak,Az,aQ⟩ (by rfl) ⟨by omega,rfl⟩ ?_ ?_
 ·repeat'((conv=>whnf);first|intro _|apply aI|with_reducible exact vM rfl|exact⟨⟩|apply nM|apply fM)
  all_goals((try apply vM);(try simp only[vq]at*);try omega)
 intro i ⟨hi,hok⟩
 by_cases hlt:i<n
 ·repeat'((conv=>whnf);first|apply Exists.intro (s)|apply Exists.intro (i+1)|(intro hq;(try simp only[vw]at hq);try first|exact absurd hq (by decide)|exfalso;omega)|apply aI|with_reducible exact vM rfl|exact⟨⟩|apply nM|apply fM)
  all_goals((try apply vM);(try simp only[vq]at*);try omega)
  conv=>whnf
  refine iG aK mixed ak Az (fun r=>aQ) (fs:=[]) (cs:=[.ip (.pv [.int .i64 (frG (i+1))]) 0,.ip (.pv [.int .i64 (toG (i+1) ls)]) 0,.ip (.pv [bdV c ls sum gv s]) 0,rlV (nmG (i+1)) (RY (i+1)) (lnG (i+1)) (fnG (i+1))]) ((mX (i+1) s sum ls).map Aw) (fun _=>false) (fun _=>[]) (by rfl) (by rfl) (by rfl) (RZ (i+1) (by omega) c ls sum gv s h) (by rfl) (by rfl) (by rfl) (by rfl) ?_ ?_ ?_
  ·repeat'((conv=>whnf);first|intro _|apply aI|with_reducible exact vM rfl|exact⟨⟩|apply nM|apply fM)
   all_goals((try apply vM);(try simp only[vq]at*);try omega)
  ·intro hall
   have hE:mX (i+1) s sum ls=[]:=by
    cases hL:mX (i+1) s sum ls with
    |nil=>rfl
    |cons d l=>rw[hL]at hall;exact absurd (hall 0 (by simp)) (by decide)
   repeat'((conv=>whnf);first|(intro hq;(try simp only[vw]at hq);try first|exact absurd hq (by decide)|exfalso;omega)|apply aI|with_reducible exact vM rfl|exact⟨⟩|apply nM|apply fM)
   all_goals((try apply vM);(try simp only[vq]at*);try omega)
   refine⟨i+1,[],⟨⟨by omega,?_⟩,by omega⟩,?_⟩
   ·unfold jW;rw[hok,hE];rfl
   repeat'((conv=>whnf);first|intro _|apply aI|with_reducible exact vM rfl|exact⟨⟩|apply nM|apply fM)
   all_goals((try apply vM);(try simp only[vq]at*);try omega)
  ·intro t x hx hall lp
   have ht:t=0:=by
    rcases Nat.eq_zero_or_pos t with h0|h0
    ·exact h0
    ·exact absurd (hall 0 h0) (by decide)
   subst ht
   rw[List.getElem?_map]at hx
   cases hL:mX (i+1) s sum ls with
   |nil=>rw[hL]at hx;cases hx
   |cons d l=>
    rw[hL]at hx
    cases hx
    rw[Yh hok (by rw[hL];rfl) n (by omega)]
    repeat'((conv=>whnf);first|(intro hq;(try simp only[vw]at hq);try first|exact absurd hq (by decide)|exfalso;omega)|apply aI|with_reducible exact vM rfl|exact⟨⟩|apply nM|apply fM)
    all_goals((try apply vM);(try simp only[vq]at*);try omega)
    exact Pg _ _
 ·have:i=n:=by omega
  subst this
  rw[hok]
  repeat'((conv=>whnf);first|(intro hq;(try simp only[vw]at hq);try first|exact absurd hq (by decide)|exfalso;omega)|apply aI|with_reducible exact vM rfl|exact⟨⟩|apply nM|apply fM)
  all_goals((try apply vM);(try simp only[vq]at*);try omega)
  exact Pg _ _
def vS:PSp:=fun xs K=>match xs with
 | [.ip (.pv [.int .i64 c,.isl (.rows .i64 ls) .none,.int .i64 sum,.isl (.ints .i64 gv) .none,.isl (.ints .u32 M) .none,.isl (.bools D) .none]) 0,.int .i64 g]=>∃(s:St) (o:Option Dd),VC (M=ms s.cs∧D=s.ds∧(0≤g∧g≤5)∧bM c ls sum s∧jW s sum ls g.toNat=o)∧K (aaW o)
 |_=>False
theorem Cb:POK Tryz.prog 92 vS:=by
 intro xs K hk
 unfold vS at hk
 split at hk
 ·obtain⟨s,o,⟨rfl,rfl,hg,h,rfl⟩,hk⟩:=hk
  rename_i g
  obtain⟨n,rfl⟩:∃n:Nat,g=n:=⟨g.toNat,by omega⟩
  rw[Int.toNat_natCast]at hk
  exact⟨_,hk,Ms _ _ _ _ s h n (by omega)⟩
 ·exact hk.elim
structure dz (c:Int) (ls:List (List Int)) (sum:Int) (gv:List Int):Prop where
 c1:1≤c∧c≤16
 ll:1≤ls.length∧ls.length≤128
 ln:∀i,i<ls.length→aaJ c (ls.getD i [])
 sm: -999999999≤sum∧sum≤999999999
 gl:(gv.length:Int)=c
 gr:∀x∈gv,0≤x∧x≤c
 gd:∀i j,i<j→j<gv.length→0<gv.getD j 0→gv.getD i 0≠gv.getD j 0
def frL (c:Int) (l:List Int):List Int:=((List.range c.toNat).map fun i:Nat=>(i:Int)+1).filter fun y=>!decide (y∈l)
theorem AA {c:Int} {l:List Int} {x:Int} (hc:0≤c):x∈frL c l↔(1≤x∧x≤c)∧x∉l:=by
 unfold frL
 rw[List.mem_filter,List.mem_map]
 constructor
 ·rintro⟨⟨i,hi,rfl⟩,h⟩
  have:=List.mem_range.1 hi
  exact⟨by omega,by simpa using h⟩
 ·rintro⟨h,h2⟩
  exact⟨⟨(x-1).toNat,List.mem_range.2 (by omega),by omega⟩,by simpa using h2⟩
theorem Jr {c:Int} {l:List Int} (hc:1≤c∧c≤16):Asc (frL c l):=by
 refine⟨?_,fun x hx=>?_⟩
 ·unfold frL
  refine List.Pairwise.filter _ ?_
  rw[List.pairwise_map]
  exact List.Pairwise.imp (fun h=>by omega) List.pairwise_lt_range
 ·have:=(AA (by omega)).1 hx;omega
theorem Yi (c:Int) (l:List Int) (x:Int):dM (frL c l) x=frL c (l++[x]):=by
 unfold dM frL
 rw[List.filter_filter]
 congr 1
 funext y
 simp[List.mem_append,Bool.and_comm]
theorem R7 {c:Int} {l:List Int} {x:Int} (h:x≤0):frL c (l++[x])=frL c l:=by
 unfold frL
 refine List.filter_congr fun y hy=>?_
 obtain⟨i,_,rfl⟩:=List.mem_map.1 hy
 have:¬((i:Int)+1=x):=by omega
 simp[this]
def mY (c:Int) (gv:List Int) (l:List Int):List (List Int):=l.map fun x=>if 0<x then [x]else frL c gv
def mZ (l:List Int):List Bool:=l.map fun x=>decide (0<x)
def bgn (c:Int) (gv:List Int):St:=⟨mY c gv gv,mZ gv⟩
theorem zA {c:Int} {ls:List (List Int)} {sum:Int} {gv:List Int} (h:dz c ls sum gv):bM c ls sum (bgn c gv):=by
 have hc:=h.c1
 have hg:=h.gl
 have hat:∀i,i<gv.length→(bgn c gv).cd i=if 0<gv.getD i 0 then [gv.getD i 0]else frL c gv:=fun i hi=>by
  simp[bgn,mY,St.cd,List.getD_eq_getElem?_getD,hi]
 have hdt:∀i,i<gv.length→(bgn c gv).dc i=decide (0<gv.getD i 0):=fun i hi=>by
  simp[bgn,mZ,St.dc,List.getD_eq_getElem?_getD,hi]
 have hl:(bgn c gv).cs.length=gv.length:=by simp[bgn,mY]
 refine⟨hc,h.ll,h.ln,h.sm,by rw[hl];exact hg,by simp[bgn,mZ];exact hg,fun i hi=>?_,fun i hi hd=>?_⟩
 ·rw[hl]at hi
  rw[hat i hi]
  have hm:=h.gr _ (bV hi)
  split
  ·exact⟨.one (by omega),fun x hx=>by rw[List.mem_singleton.1 hx];omega⟩
  ·exact⟨Jr hc,fun x hx=>((AA (by omega)).1 hx).1.2⟩
 ·rw[hl]at hi
  rw[hdt i hi,decide_eq_true_eq]at hd
  rw[hat i hi,if_pos hd];rfl
theorem dA {α:Type} {l:List α} {i:Nat} (h:l.length=i):List.take (i-0) (List.drop 0 l)=l:=by rw[List.drop_zero,Nat.sub_zero,←h,List.take_length]
theorem Mt (c:Int) (ls:List (List Int)) (sum:Int) (gv:List Int) (h:dz c ls sum gv):
 jM Tryz.prog 86 [pzV c ls sum gv] [] [.rp 0 0] (bdO c ls sum gv (bgn c gv) gv.length):=by
 have hc:=h.c1
 have hg:=h.gl
 have hsb:=kr (c+1).toNat (by omega)
 have ham:=xP hc
 have hfr0:((List.range c.toNat).map fun i:Nat=>(i:Int)+1)=frL c []:=by unfold frL;simp;rw[List.filter_eq_self.2 (fun _ _=>rfl)]
 rw[hfr0]at ham
 refine bJ (md:=1) (rf:=[53,61]) mixed ak aD 0 [(1,0),(20,1),(21,2)] Tryz.func86 (by rfl) (by rfl) (by rfl) ?_
 repeat'((conv=>whnf);first|(intro hq;(try simp only[vw]at hq);try first|exact absurd hq (by decide)|exfalso;omega)|apply aI|with_reducible exact vM rfl|exact⟨⟩|apply nM|apply fM)
 all_goals((try apply vM);(try simp only[vq]at*);try omega)
 all_goals(try omega)
 conv=>whnf
 refine aM (X:=Nat) (fun i=>i≤gv.length) (fun i=>[(22,.int .i64 i),(4,.int .u32 (mk (frL c (gv.take i)):Nat))]) (fun i=>[]) (fun i=>gv.length-i) 0 ⟨aK,mixed,ak,aD,aQ⟩ (by rfl) (by omega) ?_ ?_
 ·repeat'((conv=>whnf);first|intro _|apply aI|with_reducible exact vM rfl|exact⟨⟩|apply nM|apply fM)
  all_goals((try apply vM);(try simp only[vq]at*);try omega)
  all_goals exact ham
 intro i hi
 by_cases hlt:i<gv.length
 ·have hx:=h.gr _ (bV hlt)
  have hsx:=kr (gv.getD i 0).toNat (by omega)
  have hdel:=qw (Jr (l:=gv.take i) hc).inM (show 0≤gv.getD i 0∧gv.getD i 0≤31 by omega)
  rw[Yi,←cZ hlt]at hdel
  repeat'((conv=>whnf);first|(intro hq;(try simp only[vw]at hq);try first|exact absurd hq (by decide)|exfalso;omega)|apply aI|with_reducible exact vM rfl|exact⟨⟩|apply nM|apply fM)
  all_goals((try apply vM);(try simp only[vq]at*);try omega)
  all_goals(try omega)
  ·refine⟨i+1,[],⟨by omega,by omega⟩,?_⟩
   repeat'((conv=>whnf);first|intro _|apply aI|with_reducible exact vM rfl|exact⟨⟩|apply nM|apply fM)
   all_goals((try apply vM);(try simp only[vq]at*);try omega)
   all_goals exact hdel
  ·refine⟨i+1,[],⟨by omega,by omega⟩,?_⟩
   rw[cZ hlt,R7 (by omega)]
   repeat'((conv=>whnf);first|intro _|apply aI|with_reducible exact vM rfl|exact⟨⟩|apply nM|apply fM)
   all_goals((try apply vM);(try simp only[vq]at*);try omega)
 ·have:i=gv.length:=by omega
  subst this
  rw[List.take_length]
  repeat'((conv=>whnf);first|(intro hq;(try simp only[vw]at hq);try first|exact absurd hq (by decide)|exfalso;omega)|apply aI|with_reducible exact vM rfl|exact⟨⟩|apply nM|apply fM)
  all_goals((try apply vM);(try simp only[vq]at*);try omega)
  conv=>whnf
  refine QL (X:=Nat) (fun i=>1≤i∧i≤gv.length) (fun i=>[(36,.int .i64 i)]) (fun i=>[(1,.cells (.pv [.int .i64 c,.isl (.rows .i64 ls) .none,.int .i64 sum,.isl (.ints .i64 gv) .none,.rsl 20 0 i,.rsl 21 0 i]) false),(20,.cells (.ints .u32 (ms (mY c gv (gv.take i)))) false),(21,.cells (.bools (mZ (gv.take i))) false)]) (fun i=>gv.length-i) gv.length ⟨aK,mixed,ak,aD,aQ⟩ (by rfl) ?_ ?_
  ·have hx:0≤gv.getD (Int.toNat 0) 0∧gv.getD (Int.toNat 0) 0≤c:=h.gr _ (bV (show 0<gv.length by omega))
   have hsx:=kr (gv.getD (Int.toNat 0) 0).toNat (by omega)
   have e0:gv.take 1=[gv.getD (Int.toNat 0) 0]:=cZ (l:=gv) (i:=0) (by omega)
   have ec:∀q:List Int,(if 0<gv.getD (Int.toNat 0) 0 then [gv.getD (Int.toNat 0) 0]else frL c gv)=q→ms (mY c gv (gv.take 1))=[((mk q:Nat):Int)]:=fun q hq=>by rw[e0,←hq];rfl
   have ed:mZ (gv.take 1)=[decide (0<gv.getD (Int.toNat 0) 0)]:=by rw[e0];rfl
   have hone:(1:Int)*2 ^ (gv.getD (Int.toNat 0) 0).toNat=((mk [gv.getD (Int.toNat 0) 0]:Nat):Int):=by rw[mk_one,Int.one_mul];norm_cast
   repeat'((conv=>whnf);first|(intro hq;(try simp only[vw]at hq);try first|exact absurd hq (by decide)|exfalso;omega)|apply aI|with_reducible exact vM rfl|exact⟨⟩|apply nM|apply fM)
   all_goals((try apply vM);(try simp only[vq]at*);try omega)
   all_goals(try omega)
   ·refine⟨1,[(3,20),(5,21)],⟨⟨by omega,by omega⟩,by omega⟩,?_⟩
    rw[ec _ (if_pos hq),ed]
    repeat'((conv=>whnf);first|intro _|apply aI|with_reducible exact vM rfl|exact⟨⟩|apply nM|apply fM)
    all_goals((try apply vM);(try simp only[vq]at*);try omega)
    all_goals first|(rw[hone];done)|(rw[hone])|skip
   ·refine⟨1,[(3,20),(5,21)],⟨⟨by omega,by omega⟩,by omega⟩,?_⟩
    rw[ec _ (if_neg hq),ed]
    repeat'((conv=>whnf);first|intro _|apply aI|with_reducible exact vM rfl|exact⟨⟩|apply nM|apply fM)
    all_goals((try apply vM);(try simp only[vq]at*);try omega)
  ·intro i ⟨hi1,hi2⟩
   have hbl:(ms (mY c gv (gv.take i))).length=i∧(mZ (gv.take i)).length=i:=by
    constructor
    ·rw[dJ];unfold mY;rw[List.length_map,List.length_take];omega
    ·unfold mZ;rw[List.length_map,List.length_take];omega
   by_cases hlt:i<gv.length
   ·have hx:=h.gr _ (bV hlt)
    have hsx:=kr (gv.getD i 0).toNat (by omega)
    have e0:=cZ hlt
    have ec:∀q:List Int,(if 0<gv.getD i 0 then [gv.getD i 0]else frL c gv)=q→ms (mY c gv (gv.take (i+1)))=ms (mY c gv (gv.take i))++[((mk q:Nat):Int)]:=fun q hq=>by
     rw[e0,←hq];unfold mY ms;rw[List.map_append,List.map_append];rfl
    have ed:mZ (gv.take (i+1))=mZ (gv.take i)++[decide (0<gv.getD i 0)]:=by rw[e0];unfold mZ;rw[List.map_append];rfl
    have hone:(1:Int)*2 ^ (gv.getD i 0).toNat=((mk [gv.getD i 0]:Nat):Int):=by rw[mk_one,Int.one_mul];norm_cast
    repeat'((conv=>whnf);first|(intro hq;(try simp only[vw]at hq);try first|exact absurd hq (by decide)|exfalso;omega)|apply aI|with_reducible exact vM rfl|exact⟨⟩|apply nM|apply fM)
    all_goals((try apply vM);(try simp only[vq]at*);try omega)
    all_goals(try omega)
    ·refine⟨i+1,[(3,20),(5,21)],⟨⟨by omega,by omega⟩,by omega⟩,?_⟩
     rw[ec _ (if_pos hq),ed]
     repeat'((conv=>whnf);first|intro _|apply aI|with_reducible exact vM rfl|exact⟨⟩|apply nM|apply fM)
     all_goals((try apply vM);(try simp only[vq]at*);try omega)
     all_goals first|rw[dA hbl.1,hone]|rw[dA hbl.2]
    ·refine⟨i+1,[(3,20),(5,21)],⟨⟨by omega,by omega⟩,by omega⟩,?_⟩
     rw[ec _ (if_neg hq),ed]
     repeat'((conv=>whnf);first|intro _|apply aI|with_reducible exact vM rfl|exact⟨⟩|apply nM|apply fM)
     all_goals((try apply vM);(try simp only[vq]at*);try omega)
     all_goals first|rw[dA hbl.1]|rw[dA hbl.2]
   ·have:i=gv.length:=by omega
    subst this
    rw[List.take_length]at*
    repeat'((conv=>whnf);first|(intro hq;(try simp only[vw]at hq);try first|exact absurd hq (by decide)|exfalso;omega)|apply aI|with_reducible exact vM rfl|exact⟨⟩|apply nM|apply fM)
    all_goals((try apply vM);(try simp only[vq]at*);try omega)
    all_goals skip
def zB:LSp:=fun xs objs K=>match xs,objs with
 | [.agg [.int .i64 c,.isl (.rows .i64 ls) .none,.int .i64 sum,.isl (.ints .i64 gv) .none]],[]=>VC (dz c ls sum gv)∧K [.rp 0 0] (bdO c ls sum gv (bgn c gv) gv.length)
 |_,_=>False
theorem FI:LOK Tryz.prog 86 zB:=by
 intro xs objs K hk
 unfold zB at hk
 split at hk
 ·exact⟨_,_,hk.2,Mt _ _ _ _ hk.1.get⟩
 ·exact hk.elim
theorem pW {l:List Int} {k i:Nat} (hk:k<i) (hi:i≤l.length):l.getD k 0∈l.take i:=by
 rw[dP]
 exact⟨k,by rw[List.length_take];omega,by simp[List.getD_eq_getElem?_getD,List.getElem?_take,hk]⟩
theorem Js {c:Int} {ls:List (List Int)} {sum:Int} {gv:List Int}:rU c ls sum gv=if fT c ls≠0 then fT c ls else if sum< -999999999∨999999999<sum then 3 else if(gv.length:Int)≠c then 2 else 0:=by
 unfold rU
 simp only[aJ]
 (repeat' split)<;>simp_all
noncomputable def ac3:CPT:=aA 51 (aB Ak) noC
theorem AB:aY Tryz.prog ac3:=aj (au OX) aD
theorem R8 (c:Int) (ls:List (List Int)) (sum:Int) (gv:List Int) (h:bT ls) (hg:gv.length≤5000):aG Tryz.prog 18 [pzV c ls sum gv] (.int .i64 (pzE c ls sum gv)):=by
 obtain⟨E,hE⟩:∃E,rU c ls sum gv=E:=⟨_,rfl⟩
 have hE0:=Js (c:=c) (ls:=ls) (sum:=sum) (gv:=gv)
 unfold pzE
 rw[hE]at hE0⊢
 refine av (md:=1) (rf:=[]) mixed ak AB Tryz.func18 (by rfl) (by rfl) (by rfl) ?_
 repeat'((conv=>whnf);first|(intro hq;(try simp only[vw]at hq);try first|exact absurd hq (by decide)|exfalso;omega)|apply aI|with_reducible exact vM rfl|exact⟨⟩|apply nM|apply fM)
 all_goals((try apply vM);(try simp only[vq]at*);try omega)
 all_goals first|exact h|skip
 ·rw[if_pos hq]at hE0
  rw[hE0,if_pos hq];exact Sup.of rfl
 ·rename_i h1 h2
  rw[if_neg h1,if_pos (.inr hq)]at hE0
  rw[hE0];exact Sup.of rfl
 ·rename_i h1 h2 h3
  rw[if_neg h1,if_neg (by omega),if_pos hq]at hE0
  rw[hE0];exact Sup.of rfl
 rotate_left
 ·rename_i h1
  rw[if_neg h1,if_pos (.inl hq)]at hE0
  rw[hE0];exact Sup.of rfl
 rename_i h1 h2 h3
 rw[if_neg h1,if_neg (by omega),if_neg hq]at hE0
 rw[hE0,if_neg (by simp)]
 conv=>whnf
 refine aM (X:=Nat) (fun i=>i≤gv.length∧∀j,j<i→gvE c gv j=0) (fun i=>[(4,.int .i64 i)]) (fun i=>[]) (fun i=>gv.length-i) 0 ⟨aK,mixed,ak,AB,aQ⟩ (by rfl) ⟨by omega,fun j hj=>by omega⟩ ?_ ?_
 ·repeat'((conv=>whnf);first|intro _|apply aI|with_reducible exact vM rfl|exact⟨⟩|apply nM|apply fM)
  all_goals((try apply vM);(try simp only[vq]at*);try omega)
 intro i ⟨hi,hok⟩
 by_cases hlt:i<gv.length
 ·have eS:gvE c gv i=if gv.getD i 0<0∨c<gv.getD i 0 then 3 else if 0<gv.getD i 0∧gv.getD i 0∈gv.take i then 9 else 0:=rfl
  have fin:∀e,gvE c gv i=e→e≠0→cu (gvE c gv) gv.length=e:=fun e a1 a2=>(eH hlt (by rw[a1];exact a2) hok).trans a1
  have nxt:gvE c gv i=0→∀j,j<i+1→gvE c gv j=0:=fun a j hj=>by
   by_cases e:j=i
   ·subst e;exact a
   ·exact hok j (by omega)
  repeat'((conv=>whnf);first|(intro hq;(try simp only[vw]at hq);try first|exact absurd hq (by decide)|exfalso;omega)|apply aI|with_reducible exact vM rfl|exact⟨⟩|apply nM|apply fM)
  all_goals((try apply vM);(try simp only[vq]at*);try omega)
  ·refine Sup.of (congrArg (PV.int .i64) (fin _ ?_ ?_).symm)
   ·rw[eS,if_pos (.inr hq)]
   ·omega
  ·conv=>whnf
   refine aM (X:=Nat) (fun k=>k≤i∧(0<gv.getD i 0→gv.getD i 0∉gv.take k)) (fun k=>[(5,.int .i64 k)]) (fun k=>[]) (fun k=>i-k) 0 ⟨aK,mixed,ak,AB,aQ⟩ (by rfl) ⟨by omega,fun _=>by simp⟩ ?_ ?_
   ·repeat'((conv=>whnf);first|intro _|apply aI|with_reducible exact vM rfl|exact⟨⟩|apply nM|apply fM)
    all_goals((try apply vM);(try simp only[vq]at*);try omega)
   intro k ⟨hk,hok2⟩
   by_cases hlk:k<i
   ·repeat'((conv=>whnf);first|(intro hq;(try simp only[vw]at hq);try first|exact absurd hq (by decide)|exfalso;omega)|apply aI|with_reducible exact vM rfl|exact⟨⟩|apply nM|apply fM)
    all_goals((try apply vM);(try simp only[vq]at*);try omega)
    ·refine Sup.of (congrArg (PV.int .i64) (fin _ ?_ ?_).symm)
     ·rw[eS,if_neg (by omega),if_pos ⟨by assumption,by rw[←hq];exact pW hlk hi⟩]
     ·omega
    ·refine⟨k+1,[],⟨⟨by omega,fun h hm=>?_⟩,by omega⟩,?_⟩
     ·rcases(mW gv _ k (by omega)).1 hm with h1|h1
      ·exact hok2 h h1
      ·exact hq h1.symm
     repeat'((conv=>whnf);first|intro _|apply aI|with_reducible exact vM rfl|exact⟨⟩|apply nM|apply fM)
     all_goals((try apply vM);(try simp only[vq]at*);try omega)
    ·refine⟨k+1,[],⟨⟨by omega,fun h hm=>absurd h hq⟩,by omega⟩,?_⟩
     repeat'((conv=>whnf);first|intro _|apply aI|with_reducible exact vM rfl|exact⟨⟩|apply nM|apply fM)
     all_goals((try apply vM);(try simp only[vq]at*);try omega)
   ·have:k=i:=by omega
    subst this
    repeat'((conv=>whnf);first|(intro hq;(try simp only[vw]at hq);try first|exact absurd hq (by decide)|exfalso;omega)|apply aI|with_reducible exact vM rfl|exact⟨⟩|apply nM|apply fM)
    all_goals((try apply vM);(try simp only[vq]at*);try omega)
    refine⟨k+1,[],⟨⟨by omega,nxt ?_⟩,by omega⟩,?_⟩
    ·rw[eS,if_neg (by omega),if_neg (fun h=>hok2 h.1 h.2)]
    repeat'((conv=>whnf);first|intro _|apply aI|with_reducible exact vM rfl|exact⟨⟩|apply nM|apply fM)
    all_goals((try apply vM);(try simp only[vq]at*);try omega)
  ·refine Sup.of (congrArg (PV.int .i64) (fin _ ?_ ?_).symm)
   ·rw[eS,if_pos (.inl hq)]
   ·omega
 ·have:gv.length=i:=by omega
  rw[gD (n:=gv.length) (by rw[this];exact hok)]
  repeat'((conv=>whnf);first|intro _|apply aI|with_reducible exact vM rfl|exact⟨⟩|apply nM|apply fM)
  all_goals((try apply vM);(try simp only[vq]at*);try omega)
  exact Sup.of rfl
def FJ:PSp:=fun xs K=>match xs with
 | [.agg [.int .i64 c,.isl (.rows .i64 ls) .none,.int .i64 sum,.isl (.ints .i64 gv) .none]]=>VC (bT ls∧gv.length≤5000)∧K (.int .i64 (pzE c ls sum gv))
 |_=>False
theorem FK:POK Tryz.prog 18 FJ:=by
 intro xs K h
 unfold FJ at h
 split at h
 ·exact⟨_,h.2,R8 _ _ _ _ h.1.get.1 h.1.get.2⟩
 ·exact h.elim
def AJ (p:List Int) (i:Nat):Int:=if p.getD i 0<0∨p.length≤p.getD i 0∨p.getD i 0∈p.take i then 14 else 0
def rY (e1:Int) (p:List Int):Int:=if 256<p.length then e1 else cu (AJ p) p.length
def jQ (p:List Int) (i:Nat):List Bool:=(List.range p.length).map fun x:Nat=>decide ((x:Int)∈p.take i)
theorem Ph (p:List Int) (i:Nat):(jQ p i).length=p.length:=by simp[jQ]
theorem R9 (p:List Int) (i:Nat) (x:Int) (h:0≤x∧x<p.length):(jQ p i).getD x.toNat false=decide (x∈p.take i):=by
 have:x.toNat<p.length:=by omega
 simp[jQ,List.getD_eq_getElem?_getD,this,show max x 0=x by omega]
theorem Mv (p:List Int):List.replicate p.length false=jQ p 0:=by
 refine List.ext_getElem (by simp[jQ]) fun j h1 h2=>by simp[jQ]
theorem Mx (p:List Int) (i:Nat) (hi:i<p.length) (h:0≤p.getD i 0∧p.getD i 0<p.length):(jQ p i).set (p.getD i 0).toNat true=jQ p (i+1):=by
 refine List.ext_getElem (by simp[jQ]) fun j h1 h2=>?_
 rw[List.getElem_set]
 have hj:j<p.length:=by simpa [jQ]using h1
 simp only[jQ,List.getElem_map,List.getElem_range,mW p _ i hi]
 by_cases e:(p.getD i 0).toNat=j
 ·rw[if_pos e];exact(decide_eq_true (.inr (by omega))).symm
 ·rw[if_neg e]
  have:¬((j:Int)=p.getD i 0):=by omega
  simp only[this,or_false]
theorem Pj (p:List Int) (hp:p.length≤5000):aG Tryz.prog 123 [.isl (.ints .i64 p) .none] (.int .i64 (rY 5 p)):=by
 unfold rY
 refine av (md:=1) (rf:=[]) mixed ak aD Tryz.func123 (by rfl) (by rfl) (by rfl) ?_
 repeat'((conv=>whnf);first|(intro hq;(try simp only[vw]at hq);try first|exact absurd hq (by decide)|exfalso;omega)|apply aI|with_reducible exact vM rfl|exact⟨⟩|apply nM|apply fM)
 all_goals((try apply vM);(try simp only[vq]at*);try omega)
 ·rw[if_pos (by omega)];exact Sup.of rfl
 rw[if_neg (by omega)]
 conv=>whnf
 refine aM (X:=Nat) (fun i=>i≤p.length∧∀j,j<i→AJ p j=0) (fun i=>[(14,.int .i64 i)]) (fun i=>[(0,.cells (.bools (jQ p i)) false)]) (fun i=>p.length-i) 0 ⟨aK,mixed,ak,aD,aQ⟩ (by rfl) ⟨by omega,fun j hj=>by omega⟩ ?_ ?_
 ·repeat'((conv=>whnf);first|intro _|apply aI|with_reducible exact vM rfl|exact⟨⟩|apply nM|apply fM)
  all_goals((try apply vM);(try simp only[vq]at*);try omega)
  all_goals exact Mv p
 intro i ⟨hi,hok⟩
 have hsl:=Ph p i
 by_cases hlt:i<p.length
 ·have eS:AJ p i=if p.getD i 0<0∨p.length≤p.getD i 0∨p.getD i 0∈p.take i then 14 else 0:=rfl
  have eA:=R9 p i (p.getD i 0)
  have fin:∀e,AJ p i=e→e≠0→cu (AJ p) p.length=e:=fun e a1 a2=>(eH hlt (by rw[a1];exact a2) hok).trans a1
  repeat'((conv=>whnf);first|(intro hq;(try simp only[vw]at hq);try first|exact absurd hq (by decide)|exfalso;omega)|apply aI|with_reducible exact vM rfl|exact⟨⟩|apply nM|apply fM)
  all_goals((try apply vM);(try simp only[vq]at*);try omega)
  all_goals(try(rw[hsl];omega))
  ·rw[eA (by omega),decide_eq_true_eq]at hq
   refine Sup.of (congrArg (PV.int .i64) (fin _ ?_ (by omega)).symm)
   rw[eS,if_pos (.inr (.inr hq))]
  ·rw[eA (by omega),decide_eq_false_iff_not]at hq
   refine⟨i+1,[],⟨⟨by omega,fun j hj=>?_⟩,by omega⟩,?_⟩
   ·by_cases e:j=i
    ·subst e;rw[eS,if_neg (by rintro(h|h|h);omega;omega;exact hq h)]
    ·exact hok j (by omega)
   repeat'((conv=>whnf);first|intro _|apply aI|with_reducible exact vM rfl|exact⟨⟩|apply nM|apply fM)
   all_goals((try apply vM);(try simp only[vq]at*);try omega)
   all_goals exact Mx p i hlt (by omega)
  ·refine Sup.of (congrArg (PV.int .i64) (fin _ ?_ (by omega)).symm)
   rw[eS,if_pos (.inr (.inl hq))]
  ·refine Sup.of (congrArg (PV.int .i64) (fin _ ?_ (by omega)).symm)
   rw[eS,if_pos (.inl hq)]
 ·have:p.length=i:=by omega
  rw[gD (n:=p.length) (by rw[this];exact hok)]
  repeat'((conv=>whnf);first|(intro hq;(try simp only[vw]at hq);try first|exact absurd hq (by decide)|exfalso;omega)|apply aI|with_reducible exact vM rfl|exact⟨⟩|apply nM|apply fM)
  all_goals((try apply vM);(try simp only[vq]at*);try omega)
  exact Sup.of rfl
def MB:PSp:=fun xs K=>match xs with
 | [.isl (.ints .i64 p) .none]=>VC (p.length≤5000)∧K (.int .i64 (rY 5 p))
 |_=>False
theorem Yj:POK Tryz.prog 123 MB:=by
 intro xs K h
 unfold MB at h
 split at h
 ·exact⟨_,h.2,Pj _ h.1.get⟩
 ·exact h.elim
theorem iX {l:List Int} {i:Nat} (h:i<l.length):l.getD i 0=l[i]:=by rw[List.getD_eq_getElem?_getD,List.getElem?_eq_getElem h];rfl
theorem wM {l:List Int} (h:∀k,0<k→k<l.length→l.getD (k-1) 0<l.getD k 0):l.Pairwise (·< ·):=by
 have key:∀d i,i+d+1<l.length→l.getD i 0<l.getD (i+d+1) 0:=by
  intro d
  induction d with
  |zero=>intro i hi;have:=h (i+1) (by omega) hi;simpa using this
  |succ d ih=>
   intro i hi
   have h1:=ih i (by omega)
   have h2:=h (i+(d+1)+1) (by omega) hi
   rw[show i+(d+1)+1-1=i+d+1 by omega]at h2
   omega
 rw[List.pairwise_iff_getElem]
 intro i j hi hj hij
 have:=key (j-i-1) i (by omega)
 rw[show i+(j-i-1)+1=j by omega,iX hi,iX hj]at this
 exact this
theorem FL {l:List Int} {c:Int} (hp:l.Pairwise (·< ·)) (hr:∀x∈l,0≤x∧x<c) (hc:0≤c):(l.length:Int)≤c:=by
 have:=EY l (-1) (c-1) hp (fun x hx=>by have:=hr x hx;omega) (by omega)
 omega
theorem dz.of {c:Int} {ls:List (List Int)} {sum:Int} {gv:List Int} (h:pzE c ls sum gv=0):dz c ls sum gv:=by
 unfold pzE at h
 have h0:rU c ls sum gv=0:=by
  by_cases e:rU c ls sum gv=0
  ·exact e
  ·rw[if_pos e]at h;exact h
 rw[if_neg (by rw[h0];simp)]at h
 have hg:=iU h
 rw[Js]at h0
 have hb:fT c ls=0:=by
  by_cases e:fT c ls=0
  ·exact e
  ·rw[if_pos e]at h0;exact h0
 rw[if_neg (by rw[hb];simp)]at h0
 have hs:¬(sum< -999999999∨999999999<sum):=fun e=>by rw[if_pos e]at h0;cases h0
 rw[if_neg hs]at h0
 have hl:(gv.length:Int)=c:=by
  by_cases e:(gv.length:Int)=c
  ·exact e
  ·rw[if_pos e]at h0;cases h0
 unfold fT at hb
 simp only[aJ]at hb
 have hsy:iJ c ls=0:=by
  by_cases e:iJ c ls=0
  ·exact e
  ·rw[if_neg e]at hb;exact absurd hb e
 rw[if_pos hsy]at hb
 have hc16:¬16<c:=fun e=>by rw[if_pos e]at hb;simp at hb
 rw[if_neg hc16,if_pos rfl]at hb
 have hls:ls.length≠0:=fun e=>by rw[if_pos e]at hb;simp at hb
 unfold iJ at hsy
 have hcr:¬(c<1∨256<c):=fun e=>by rw[if_pos e]at hsy;cases hsy
 rw[if_neg hcr]at hsy
 have hln:¬128<ls.length:=fun e=>by rw[if_pos e]at hsy;cases hsy
 rw[if_neg hln]at hsy
 have hlE:=iU hsy
 refine⟨by omega,by omega,fun i hi=>?_,by omega,hl,fun x hx=>?_,fun i j hij hj hpos e=>?_⟩
 ·have hL:=hlE i hi
  unfold iI at hL
  have hne:¬(ls.getD i []).length=0:=fun e=>by rw[if_pos e]at hL;cases hL
  rw[if_neg hne]at hL
  have hst:cu (bP c (ls.getD i [])) (ls.getD i []).length=0:=by
   by_cases e:cu (bP c (ls.getD i [])) (ls.getD i []).length=0
   ·exact e
   ·rw[if_pos e]at hL;exact hL
  have hst:=iU hst
  have hk:∀k,k<(ls.getD i []).length→(0≤(ls.getD i []).getD k 0∧(ls.getD i []).getD k 0<c)∧(0<k→(ls.getD i []).getD (k-1) 0<(ls.getD i []).getD k 0):=fun k hk=>by
   have:=hst k hk
   unfold bP at this
   have h1:¬((ls.getD i []).getD k 0<0∨c≤(ls.getD i []).getD k 0):=fun e=>by rw[if_pos e]at this;cases this
   rw[if_neg h1]at this
   refine⟨by omega,fun h0=>?_⟩
   have h2:¬(0<k∧(ls.getD i []).getD k 0≤(ls.getD i []).getD (k-1) 0):=fun e=>by rw[if_pos e]at this;cases this
   omega
  have hr:∀x∈ls.getD i [],0≤x∧x<c:=fun x hx=>by
   obtain⟨k,h1,rfl⟩:=(dP _ x).1 hx
   exact(hk k h1).1
  have hp:=wM fun k h0 h1=>(hk k h1).2 h0
  have:=FL hp hr (by omega)
  exact⟨by omega,by omega,hr,hp⟩
 ·obtain⟨i,h1,rfl⟩:=(dP _ x).1 hx
  have:=hg i h1
  unfold gvE at this
  have h2:¬(gv.getD i 0<0∨c<gv.getD i 0):=fun e=>by rw[if_pos e]at this;cases this
  omega
 ·have:=hg j hj
  unfold gvE at this
  have h2:¬(gv.getD j 0<0∨c<gv.getD j 0):=fun e=>by rw[if_pos e]at this;cases this
  rw[if_neg h2,if_pos ⟨hpos,by rw[←e];exact pW hij (by omega)⟩]at this
  cases this
def StI (s:St):Prop:=∀i j,i<s.cs.length→j<s.cs.length→i≠j→s.dc i=true→hd0 (s.cd i)∉s.cd j
theorem oL {l:List Int} {x y:Int}:y∈dM l x↔y∈l∧y≠x:=by unfold dM;rw[List.mem_filter];simp
theorem Cc {l:List Int} {x:Int} (h:x∉l):dM l x=l:=by
 unfold dM
 rw[List.filter_eq_self]
 intro y hy
 have:y≠x:=fun e=>h (e▸hy)
 simp[this]
theorem Jt {g:Nat} {s:St} {y x:Int}:(apl g s y x).cs.length=s.cs.length∧(apl g s y x).ds.length=s.ds.length:=by
 unfold apl;split<;>simp
theorem aaX {g:Nat} {s:St} {y x:Int} (hy:y.toNat<s.ds.length) (i:Nat):(apl g s y x).dc i=if g≤3∧i=y.toNat then true else s.dc i:=by
 unfold apl St.dc
 by_cases hg:g≤3
 ·rw[if_pos hg]
  by_cases e:i=y.toNat
  ·subst e;simp[hg,List.getD_eq_getElem?_getD,hy]
  ·rw[if_neg (fun h=>e h.2)]
   simp[List.getD_eq_getElem?_getD,List.getElem?_set_ne (Ne.symm e)]
 ·rw[if_neg hg,if_neg (fun h=>hg h.1)]
theorem aaY {g:Nat} {s:St} {y x:Int} (hy:y.toNat<s.cs.length) (i:Nat) (hi:i<s.cs.length):(apl g s y x).cd i=if g≤3 then(if i=y.toNat then [x]else dM (s.cd i) x)else if i=y.toNat then dM (s.cd i) x else s.cd i:=by
 unfold apl St.cd
 by_cases hg:g≤3
 ·rw[if_pos hg,if_pos hg]
  by_cases e:i=y.toNat
  ·subst e;simp[List.getD_eq_getElem?_getD,hy]
  ·rw[if_neg e]
   simp[List.getD_eq_getElem?_getD,List.getElem?_set_ne (Ne.symm e),List.getElem_set_ne (Ne.symm e),hi]
 ·rw[if_neg hg,if_neg hg]
  by_cases e:i=y.toNat
  ·subst e;simp[List.getD_eq_getElem?_getD,hy]
  ·rw[if_neg e]
   simp[List.getD_eq_getElem?_getD,List.getElem?_set_ne (Ne.symm e),List.getElem_set_ne (Ne.symm e),hi]
theorem Pk {c:Int} {ls:List (List Int)} {sum:Int} {s:St} (h:bM c ls sum s) (hI:StI s) {g:Nat} {y x:Int} (hy:0≤y∧y<c) (hx:1≤x∧x≤c) (hd:s.dc y.toNat=false) (hm:x∈s.cd y.toNat):
 bM c ls sum (apl g s y x)∧StI (apl g s y x):=by
 have hc:=h.c1
 obtain⟨hyc,hyd⟩:=h.at hy
 have hln:=Jt (g:=g) (s:=s) (y:=y) (x:=x)
 have cdi:=fun i hi=>aaY (g:=g) (x:=x) hyc i hi
 have dci:=fun i=>aaX (g:=g) (s:=s) (x:=x) hyd i
 have hnot:∀i,i<s.cs.length→s.dc i=true→x∉s.cd i:=fun i hi hdi hxi=>by
  have h1:=h.dec i hi hdi
  obtain⟨z,hz⟩:=List.length_eq_one_iff.1 h1
  rw[hz,List.mem_singleton]at hxi
  have hne:i≠y.toNat:=fun e=>by rw[e,hd]at hdi;cases hdi
  have:=hI i y.toNat hi hyc hne hdi
  rw[hz]at this
  exact this (by rw[hxi]at hm;exact hm)
 refine⟨⟨hc,h.ll,h.ln,h.sm,by rw[hln.1];exact h.cl,by rw[hln.2];exact h.dl,fun i hi=>?_,fun i hi hdi=>?_⟩,fun i j hi hj hij hdi=>?_⟩
 ·rw[hln.1]at hi
  rw[cdi i hi]
  have hA:=h.asc i hi
  split
  ·split
   ·exact⟨.one (by omega),fun z hz=>by rw[List.mem_singleton.1 hz];omega⟩
   ·exact⟨hA.1.out x,fun z hz=>hA.2 z (oL.1 hz).1⟩
  ·split
   ·exact⟨hA.1.out x,fun z hz=>hA.2 z (oL.1 hz).1⟩
   ·exact hA
 ·rw[hln.1]at hi
  rw[dci i]at hdi
  rw[cdi i hi]
  split
  ·rename_i hg
   split
   ·rfl
   ·rename_i hne
    rw[if_neg (fun e=>hne e.2)]at hdi
    rw[Cc (hnot i hi hdi)]
    exact h.dec i hi hdi
  ·rename_i hg
   rw[if_neg (fun e=>hg e.1)]at hdi
   split
   ·rename_i e
    rw[e,hd]at hdi;cases hdi
   ·exact h.dec i hi hdi
 ·rw[hln.1]at hi hj
  rw[dci i]at hdi
  rw[cdi i hi,cdi j hj]
  by_cases hg:g≤3
  ·rw[if_pos hg,if_pos hg]
   by_cases ei:i=y.toNat
   ·rw[if_pos ei,if_neg (fun e=>hij (ei.trans e.symm))]
    exact fun hz=>(oL.1 hz).2 rfl
   ·rw[if_neg (fun e=>ei e.2)]at hdi
    rw[if_neg ei,Cc (hnot i hi hdi)]
    have h1:=hI i j hi hj hij hdi
    by_cases ej:j=y.toNat
    ·rw[if_pos ej,List.mem_singleton]
     have h2:=h.dec i hi hdi
     have h3:=vO (l:=s.cd i) (by omega)
     exact fun e=>hnot i hi hdi (e▸h3)
    ·rw[if_neg ej]
     exact fun hz=>h1 (oL.1 hz).1
  ·rw[if_neg hg,if_neg hg]
   rw[if_neg (fun e=>hg e.1)]at hdi
   have ei:i≠y.toNat:=fun e=>by rw[e,hd]at hdi;cases hdi
   rw[if_neg ei]
   have h1:=hI i j hi hj hij hdi
   split
   ·exact fun hz=>h1 (oL.1 hz).1
   ·exact h1
theorem Pm {c:Int} {gv:List Int} {i:Nat} (hi:i<gv.length):(bgn c gv).cd i=if 0<gv.getD i 0 then [gv.getD i 0]else frL c gv:=by
 simp[bgn,mY,St.cd,List.getD_eq_getElem?_getD,hi]
theorem aaZ {c:Int} {gv:List Int} {i:Nat} (hi:i<gv.length):(bgn c gv).dc i=decide (0<gv.getD i 0):=by
 simp[bgn,mZ,St.dc,List.getD_eq_getElem?_getD,hi]
theorem kQ {c:Int} {gv:List Int}:(bgn c gv).cs.length=gv.length∧(bgn c gv).ds.length=gv.length:=by simp[bgn,mY,mZ]
theorem Ju {c:Int} {ls:List (List Int)} {sum:Int} {gv:List Int} (h:dz c ls sum gv):StI (bgn c gv):=by
 have hc:=h.c1
 intro i j hi hj hij hd
 rw[kQ.1]at hi hj
 rw[aaZ hi,decide_eq_true_eq]at hd
 rw[Pm hi,if_pos hd,Pm hj]
 have e:hd0 [gv.getD i 0]=gv.getD i 0:=rfl
 rw[e]
 split
 ·rename_i hp
  rw[List.mem_singleton]
  intro he
  rcases Nat.lt_or_ge i j with h1|h1
  ·exact h.gd i j h1 hj hp he
  ·exact h.gd j i (by omega) hi hd he.symm
 ·intro hm
  exact((AA (by omega)).1 hm).2 (bV hi)
def uR:List Bool→Nat
 | []=>0
 |b::r=>(if b then 0 else 1)+uR r
def jX:List (List Int)→Nat
 | []=>0
 |l::r=>l.length+jX r
def muS (s:St):Nat:=jX s.cs+uR s.ds
theorem Sb:∀(l:List Bool) (i:Nat),i<l.length→l.getD i false=false→uR (l.set i true)+1=uR l:=by
 intro l
 induction l with
 |nil=>intro i hi;simp at hi
 |cons b r ih=>
  intro i hi hb
  cases i with
  |zero=>simp at hb;subst hb;simp[uR];omega
  |succ i=>
   have:=ih i (by simpa using hi) (by simpa using hb)
   simp only[List.set_cons_succ,uR]
   omega
theorem FM:∀(l:List (List Int)) (i:Nat) (x:List Int),i<l.length→jX (l.set i x)+(l.getD i []).length=jX l+x.length:=by
 intro l
 induction l with
 |nil=>intro i x hi;simp at hi
 |cons b r ih=>
  intro i x hi
  cases i with
  |zero=>simp[jX];omega
  |succ i=>
   have:=ih i x (by simpa using hi)
   simp only[List.set_cons_succ,jX,List.getD_cons_succ]
   omega
theorem FN (l:List Int) (x:Int):(dM l x).length≤l.length:=List.length_filter_le _ _
theorem Jv {l:List Int} {x:Int} (h:x∈l):(dM l x).length<l.length:=by
 unfold dM
 rw[List.length_filter_lt_length_iff_exists]
 exact⟨x,h,by simp⟩
theorem Sc (f:List Int→List Int) (hf:∀l,(f l).length≤l.length):∀l,jX (l.map f)≤jX l:=by
 intro l
 induction l with
 |nil=>exact Nat.le_refl _
 |cons a r ih=>simp only[List.map_cons,jX];have:=hf a;omega
theorem aa0 {g:Nat} {s:St} {y x:Int} (hy:y.toNat<s.cs.length) (hyd:y.toNat<s.ds.length) (hd:s.dc y.toNat=false) (hm:x∈s.cd y.toNat):muS (apl g s y x)<muS s:=by
 unfold muS apl
 split
 ·have h1:=Sb s.ds y.toNat hyd hd
  have h2:=FM (s.cs.map fun l=>dM l x) y.toNat [x] (by simpa using hy)
  have h3:((s.cs.map fun l=>dM l x).getD y.toNat [])=dM (s.cd y.toNat) x:=by unfold St.cd;simp[List.getD_eq_getElem?_getD,hy]
  have h4:jX (s.cs.map fun l=>dM l x)+1≤jX s.cs:=by
   have key:∀(l:List (List Int)) (i:Nat),i<l.length→x∈l.getD i []→jX (l.map fun l=>dM l x)+1≤jX l:=by
    intro l
    induction l with
    |nil=>intro i hi;simp at hi
    |cons a r ih=>
     intro i hi hx
     simp only[List.map_cons,jX]
     cases i with
     |zero=>
      have q1:=Jv (l:=a) (x:=x) (by simpa using hx)
      have q2:=Sc (fun l=>dM l x) (fun l=>FN l x) r
      omega
     |succ i=>
      have q1:=FN a x
      have q2:=ih i (by simpa using hi) (by simpa using hx)
      omega
   exact key s.cs y.toNat hy hm
  simp only[List.length_singleton]at h2
  simp only
  omega
 ·have h2:=FM s.cs y.toNat (dM (s.cd y.toNat) x) hy
  have h3:=Jv hm
  unfold St.cd at h2 h3⊢
  simp only
  omega
theorem aa1 {c:Int} {ls:List (List Int)} {sum:Int} {s:St} (h:bM c ls sum s):muS s≤272:=by
 have hc:=h.c1
 have hcl:=h.cl
 have hdl:=h.dl
 have h1:∀(l:List (List Int)),(∀a∈l,a.length≤16)→jX l≤16*l.length:=by
  intro l
  induction l with
  |nil=>intro _;exact Nat.le_refl _
  |cons a r ih=>
   intro hl
   have:=hl a (by simp)
   have:=ih fun b hb=>hl b (by simp[hb])
   simp only[jX,List.length_cons];omega
 have h2:∀(l:List Bool),uR l≤l.length:=by
  intro l
  induction l with
  |nil=>exact Nat.le_refl _
  |cons a r ih=>simp only[uR,List.length_cons];split<;>omega
 have h3:=h1 s.cs fun a ha=>by
  obtain⟨j,hj,rfl⟩:=List.getElem_of_mem ha
  have:=I9 (h.asc j hj).1
  unfold St.cd at this
  rw[List.getD_eq_getElem?_getD,List.getElem?_eq_getElem hj]at this
  exact this
 have h4:=h2 s.ds
 unfold muS
 omega
def oM (c:Int) (ls:List (List Int)) (sum:Int) (n:Nat):Nat→St→List Dd→List Dd × St × Int
 |0,s,l=>(l,s,0)
 |f+1,s,l=>if brk c ls sum s then([],s,21)else if don s then(l,s,0)else match jW s sum ls n with
  |none=>(l,s,23)
  |some d=>oM c ls sum n f (apl d.g s d.y d.x) (l++[d])
def sol (c:Int) (ls:List (List Int)) (sum:Int) (gv:List Int) (n:Nat):List Dd × St × Int:=oM c ls sum n 273 (bgn c gv) []
theorem Pn {c:Int} {ls:List (List Int)} {sum:Int} {s:St} (h:bM c ls sum s) {n:Nat} (hn:n≤5) {d:Dd} (hf:jW s sum ls n=some d):
 Ar c ls (nmG d.g) d.y d.x d.k∧bE (nmG d.g)=d.g∧s.dc d.y.toNat=false∧d.x∈s.cd d.y.toNat:=by
 obtain⟨g,g1,g2,hm⟩:=FH hf
 rw[FE]at hm
 obtain⟨h1,h2,h3,h4⟩:=hm
 have hcl:=h.cl
 have hg:bE (nmG d.g)=d.g:=by
  rw[h1]
  have:=pF
  obtain rfl|rfl|rfl|rfl|rfl:g=1∨g=2∨g=3∨g=4∨g=5:=by omega
  all_goals first|exact this.1|exact this.2.1|exact this.2.2.1|exact this.2.2.2.1|exact this.2.2.2.2
 unfold okJ at h4
 simp only[Bool.and_eq_true,Bool.not_eq_true',decide_eq_true_eq]at h4
 have hA:=h.asc d.y.toNat (by omega)
 refine⟨⟨by rw[hg];omega,by omega,?_,?_⟩,hg,h4.1,h4.2.1⟩
 ·have:=hA.1.rng _ h4.2.1;have:=hA.2 _ h4.2.1;omega
 ·rw[hg,h1]
  cases hl:lnG g with
  |true=>rw[hl]at h3;exact .inr (.inr h3.1)
  |false=>
   obtain rfl|rfl|rfl|rfl|rfl:g=1∨g=2∨g=3∨g=4∨g=5:=by omega
   all_goals first|(cases hl;done)|exact .inl rfl|exact .inr (.inl rfl)
def FP:LSp:=fun xs objs K=>match xs,objs with
 | [.rp 0 0,.agg [.str r,.int .i64 y,.int .i64 x,.int .i64 k]],[.cells (.pv [.int .i64 c,.isl (.rows .i64 ls) .none,.int .i64 sum,.isl (.ints .i64 gv) .none,.rsl 1 0 n,.rsl 2 0 m]) false,.cells (.ints .u32 M) false,.cells (.bools D) false]=>
  ∃s:St,VC (M=ms s.cs∧D=s.ds∧bM c ls sum s∧n=s.cs.length∧m=n∧Ar c ls r y x k)∧K [] (bdO c ls sum gv (apl (bE r).toNat s y x) n)
 |_,_=>False
theorem Sd:LOK Tryz.prog 128 FP:=by
 intro xs objs K hk
 unfold FP at hk
 split at hk
 ·obtain⟨s,⟨rfl,rfl,h,h1,rfl,h2⟩,hk⟩:=hk
  exact⟨_,_,hk,Ml _ _ _ _ s _ h h1 _ _ _ _ h2⟩
 ·exact hk.elim
abbrev ddC (d:Dd):List PV:=[.str (nmG d.g),.int .i64 d.y,.int .i64 d.x,.int .i64 d.k]
def dd0:Dd:=⟨0,0,0,0⟩
abbrev dlC (l:List Dd):CL:=.genr 4 l.length fun i=>ddC (l.getD i dd0)
theorem aa2 (l:List Dd) (t:Tok):Sup (.isl (.recs 4 (l.map ddC)) t) (.isl (dlC l) .none):=⟨fun{S w ι v} hr=>by
 have hn:(CL.recs 4 (l.map ddC)).ncell=(dlC l).ncell:=by simp[CL.ncell]
 have hc:(CL.recs 4 (l.map ddC)).cnt=(dlC l).cnt:=by simp[CL.cnt]
 have hg:∀j,j<(dlC l).ncell→(CL.recs 4 (l.map ddC)).get j=(dlC l).get j:=fun j hj=>by
  simp only[CL.ncell]at hj
  have:j / 4<l.length:=by omega
  simp only[CL.get]
  rw[List.getD_eq_getElem?_getD,List.getElem?_map,List.getD_eq_getElem?_getD,List.getElem?_eq_getElem this]
  rfl
 cases hr with
 |islnil _ _ _ h=>exact .islnil _ _ _ (by rw[←hc];exact h)
 |isl _ _ _ b off cap h1 h2 h3 h4 h5=>
  rw[hc]
  exact .isl _ _ _ _ _ _ (by rw[←hc];exact h1) (fun j hj=>h2 j (by rw[hn];exact hj)) (fun j hj=>by rw[←hg j hj];exact h3 j (by rw[hn];exact hj)) (fun h=>by cases h) (fun k h=>by cases h)⟩
theorem AL {us ws:List PV} (hl:us.length=ws.length) (h:∀i,i<us.length→Sup (aC us i) (aC ws i)):Sup (.tup us) (.tup ws):=⟨fun hr=>by
 cases hr with
 |tup _ _ vs hv hh=>exact .tup _ _ _ (hl.symm.trans hv) fun i hi=>(h i (by omega)).get (hh i (by omega))⟩
theorem dU (p:PV):Sup p p:=⟨fun h=>h⟩
def rZ (c:Int) (ls:List (List Int)) (sum:Int) (gv:List Int) (r:List Dd × St × Int):PV:=
 if r.2.2=21 then .tup [.isl (dlC []) .none,.nilp,.int .i64 21]else .tup [.isl (dlC r.1) .none,bdV c ls sum gv r.2.1,.int .i64 r.2.2]
noncomputable def ac4:CPT:=aA 86 (eT [] zB) (aA 90 (j6 (pE brk)) (aA 91 (j6 (pE fun _ _ _ s=>don s)) (aA 92 (j6 vS) (aA 128 (eT [] FP) noC))))
theorem Jw:aY Tryz.prog ac4:=aj (dI [] FI) (aj (iq BZ) (aj (iq Jm) (aj (iq Cb) (aj (dI [] Sd) aD))))
structure SoX where
 f:Nat
 s:St
 l:List Dd
theorem MC (c:Int) (ls:List (List Int)) (sum:Int) (gv:List Int) (h:dz c ls sum gv) (n:Nat) (hn:n≤5):aG Tryz.prog 99 [pzV c ls sum gv,.int .i64 (n:Int)] (rZ c ls sum gv (sol c ls sum gv n)):=by
 have hgl:=h.gl
 refine cB (md:=1) (rf:=[]) mixed ak Jw Tryz.func99 (by rfl) (by rfl) (by rfl) ?_
 repeat'((conv=>whnf);first|intro _|apply aI|with_reducible exact vM rfl|exact⟨⟩|apply nM|apply fM)
 all_goals((try apply vM);(try simp only[vq]at*);try omega)
 conv=>whnf
 refine aM (X:=SoX) (fun x=>bM c ls sum x.s∧StI x.s∧muS x.s<x.f∧x.s.cs.length=gv.length∧x.l.length≤273-x.f∧x.f≤273∧oM c ls sum n x.f x.s x.l=sol c ls sum gv n)
  (fun x=>[(8,.isl (.recs 4 (x.l.map ddC)) (.own 20))]) (fun x=>[(2,.cells (.ints .u32 (ms x.s.cs)) false),(3,.cells (.bools x.s.ds) false),(20,.tok 4 x.l.length)]) (fun x=>x.f) ⟨273,bgn c gv,[]⟩ ⟨aK,mixed,ak,Jw,aQ⟩ (by rfl) ?_ ?_ ?_
 ·have:=zA h
  exact⟨this,Ju h,by have:=aa1 this;show muS (bgn c gv)<273;omega,kQ.1,by simp,by simp,rfl⟩
 ·repeat'((conv=>whnf);first|intro _|apply aI|with_reducible exact vM rfl|exact⟨⟩|apply nM|apply fM)
  all_goals((try apply vM);(try simp only[vq]at*);try omega)
  all_goals skip
 rintro⟨f,s,l⟩ ⟨hB,hI,hmu,hlen,hl,hf,hsol⟩
 simp only at hB hI hmu hlen hl hf hsol⊢
 cases f with
 |zero=>omega
 |succ f=>
  have hfin:∀r,sol c ls sum gv n=r→∀p,Sup p (rZ c ls sum gv r)→Sup p (rZ c ls sum gv (sol c ls sum gv n)):=fun r hr p hp=>by rw[hr];exact hp
  have t1:List.take (gv.length-0) (List.drop 0 (ms s.cs))=ms s.cs:=dA (by rw[dJ];exact hlen)
  have hdl:s.ds.length=gv.length:=by have:=hB.cl;have:=hB.dl;omega
  have t2:List.take (gv.length-0) (List.drop 0 s.ds)=s.ds:=dA hdl
  have hml:=dJ s.cs
  have s1:(CL.ints .u32 (ms s.cs)).sub 0 gv.length=.ints .u32 (ms s.cs):=congrArg (CL.ints .u32) t1
  have s2:(CL.bools s.ds).sub 0 gv.length=.bools s.ds:=congrArg CL.bools t2
  have rok:∀e,e≠21→Sup (bF ([PV.isl (CL.recs 4 (List.map ddC l)) Tok.none]++PV.ip (CL.pv [PV.int IntKind.i64 c,PV.isl (CL.rows IntKind.i64 ls) Tok.none,PV.int IntKind.i64 sum,PV.isl (CL.ints IntKind.i64 gv) Tok.none,PV.isl ((CL.ints IntKind.u32 (ms s.cs)).sub 0 gv.length) Tok.none,PV.isl ((CL.bools s.ds).sub 0 gv.length) Tok.none]) 0::([PV.int IntKind.i64 e]++[]))) (rZ c ls sum gv (l,s,e)):=fun e he=>by
   rw[s1,s2];unfold rZ;rw[if_neg he]
   refine AL rfl fun i hi=>?_
   obtain rfl|rfl|rfl:i=0∨i=1∨i=2:=by simp at hi;omega
   ·exact aa2 l .none
   ·exact dU _
   ·exact dU _
  have rin:Sup (bF ([PV.nils]++([PV.nilp]++([PV.int IntKind.i64 21]++[])))) (rZ c ls sum gv ([],s,21)):=by
   unfold rZ;rw[if_pos rfl];all_goals(refine Sup.via ?_;repeat'((conv=>whnf);first|intro _|apply aI|with_reducible exact vM rfl|exact⟨⟩|apply nM|apply fM);all_goals((try apply vM);(try simp only[vq]at*);try omega);all_goals(try(simp[CL.sub];done)))
  unfold oM at hsol
  cases ho:jW s sum ls n with
  |none=>
   rw[ho]at hsol
   repeat'((conv=>whnf);first|apply Exists.intro (s)|apply Exists.intro (none)|(intro hq;(try simp only[vw]at hq);try first|exact absurd hq (by decide)|exfalso;omega)|apply aI|with_reducible exact vM rfl|exact⟨⟩|apply nM|apply fM)
   all_goals((try apply vM);(try simp only[vq]at*);try omega)
   all_goals(try omega)
   all_goals(try first|exact⟨t1,t2,hB⟩|exact⟨t1,t2,⟨by omega,by omega⟩,hB,ho⟩)
   ·exact hfin ([],s,21) (by rw[←hsol,if_pos ‹brk c ls sum s=true›]) _ rin
   ·exact hfin (l,s,0) (by rw[←hsol,if_neg (by rw[‹brk c ls sum s=false›];simp),if_pos ‹don s=true›]) _ (rok 0 (by omega))
   ·exact hfin (l,s,23) (by rw[←hsol,if_neg (by rw[‹brk c ls sum s=false›];simp),if_neg (by rw[‹don s=false›];simp)]) _ (rok 23 (by omega))
  |some d=>
   rw[ho]at hsol
   obtain⟨o1,o2,o3,o4⟩:=Pn hB hn ho
   obtain⟨b1,b2⟩:=Pk hB hI (g:=d.g) o1.y o1.x o3 o4
   have hyl:=hB.at o1.y
   have b3:=aa0 (g:=d.g) hyl.1 hyl.2 o3 o4
   have b4:=Jt (g:=d.g) (s:=s) (y:=d.y) (x:=d.x)
   have hgn:(bE (nmG d.g)).toNat=d.g:=by rw[o2];rfl
   repeat'((conv=>whnf);first|apply Exists.intro (s)|apply Exists.intro (some d)|(intro hq;(try simp only[vw]at hq);try first|exact absurd hq (by decide)|exfalso;omega)|apply aI|with_reducible exact vM rfl|exact⟨⟩|apply nM|apply fM)
   all_goals((try apply vM);(try simp only[vq]at*);try omega)
   all_goals(try omega)
   all_goals(try first|exact⟨t1,t2,hB⟩|exact⟨t1,t2,⟨by omega,by omega⟩,hB,ho⟩|rfl|(rw[List.length_map];done)|(simp only[List.length_append,List.length_map,List.length_cons,List.length_nil];omega))
   ·exact hfin ([],s,21) (by rw[←hsol,if_pos ‹brk c ls sum s=true›]) _ rin
   ·exact hfin (l,s,0) (by rw[←hsol,if_neg (by rw[‹brk c ls sum s=false›];simp),if_pos ‹don s=true›]) _ (rok 0 (by omega))
   ·rw[List.length_append,List.length_map];show _+1≤_;omega
   ·exact⟨hB,by omega,o1⟩
   ·refine⟨⟨f,apl d.g s d.y d.x,l++[d]⟩,[],⟨⟨b1,b2,by simp only;omega,by simp only;omega,by simp only[List.length_append,List.length_cons,List.length_nil];omega,by simp only;omega,?_⟩,by simp only;omega⟩,?_⟩
    ·rw[←hsol,if_neg (by rw[‹brk c ls sum s=false›];simp),if_neg (by rw[‹don s=false›];simp)]
    ·simp only
     repeat'((conv=>whnf);first|intro _|apply aI|with_reducible exact vM rfl|exact⟨⟩|apply nM|apply fM)
     all_goals((try apply vM);(try simp only[vq]at*);try omega)
     all_goals first|rw[hgn]|(rw[List.map_append];rfl)|(rw[List.length_append];rfl)|rfl
theorem Yk {c:Int} {ls:List (List Int)} {sum:Int} {n:Nat} (hn:n≤5):∀(f:Nat) (s:St) (l:List Dd),bM c ls sum s→StI s→bM c ls sum (oM c ls sum n f s l).2.1∧StI (oM c ls sum n f s l).2.1:=by
 intro f
 induction f with
 |zero=>exact fun s l h h2=>⟨h,h2⟩
 |succ f ih=>
  intro s l h h2
  unfold oM
  split
  ·exact⟨h,h2⟩
  ·split
   ·exact⟨h,h2⟩
   ·split
    ·exact⟨h,h2⟩
    ·rename_i d hd
     obtain⟨o1,o2,o3,o4⟩:=Pn h hn hd
     obtain⟨b1,b2⟩:=Pk h h2 (g:=d.g) o1.y o1.x o3 o4
     exact ih _ _ b1 b2
theorem aa3 {c:Int} {ls:List (List Int)} {sum:Int} {gv:List Int} (h:dz c ls sum gv) {n:Nat} (hn:n≤5):bM c ls sum (sol c ls sum gv n).2.1∧StI (sol c ls sum gv n).2.1:=Yk hn _ _ _ (zA h) (Ju h)
def Vm (c:Int) (ls:List (List Int)) (sum:Int) (gv:List Int) (o:Option (List Dd × St × Int)):PV:=match o with
 |none=>.tup [.isl (dlC []) .none,.nilp,.int .i64 21]
 |some r=>.tup [.isl (dlC r.1) .none,bdV c ls sum gv r.2.1,.int .i64 r.2.2]
def jc (r:List Dd × St × Int):Option (List Dd × St × Int):=if r.2.2=21 then none else some r
theorem Si (c:Int) (ls:List (List Int)) (sum:Int) (gv:List Int) (r:List Dd × St × Int):rZ c ls sum gv r=Vm c ls sum gv (jc r):=by
 unfold rZ jc;split<;>rfl
def zC:PSp:=fun xs K=>match xs with
 | [.agg [.int .i64 c,.isl (.rows .i64 ls) .none,.int .i64 sum,.isl (.ints .i64 gv) .none],.int .i64 g]=>∃o:Option (List Dd × St × Int),VC (dz c ls sum gv∧(0≤g∧g≤5)∧jc (sol c ls sum gv g.toNat)=o)∧K (Vm c ls sum gv o)
 |_=>False
theorem FQ:POK Tryz.prog 99 zC:=by
 intro xs K hk
 unfold zC at hk
 split at hk
 ·obtain⟨o,⟨h,hg,rfl⟩,hk⟩:=hk
  rename_i g
  obtain⟨n,rfl⟩:∃n:Nat,g=n:=⟨g.toNat,by omega⟩
  rw[Int.toNat_natCast,←Si]at hk
  exact⟨_,hk,MC _ _ _ _ h n (by omega)⟩
 ·exact hk.elim
noncomputable def ac5:CPT:=aA 22 (aB mM) (aA 86 (eT [] zB) (aA 87 (KV Fq) (aA 88 (aB jP) (aA 89 (aB gq) (aA 90 (j6 (pE brk)) (aA 91 (j6 (pE fun _ _ _ s=>don s)) (aA 92 (j6 vS) (aA 98 (aB pz) (aA 99 (aB zC) noC)))))))))
theorem eU:aY Tryz.prog ac5:=aj (au lX) (aj (dI [] FI) (aj (QN RG) (aj (au jD) (aj (au jC) (aj (iq BZ) (aj (iq Jm) (aj (iq Cb) (aj (au wL) (aj (au FQ) aD)))))))))
def noS:St:=⟨[],[]⟩
def uS (c:Int) (ls:List (List Int)) (sum:Int) (gv:List Int):St:=if pzE c ls sum gv=0 then bgn c gv else noS
theorem ME (c:Int) (ls:List (List Int)) (sum:Int) (gv:List Int) (h:bT ls) (hg:gv.length≤5000):aG Tryz.prog 20 [pzV c ls sum gv] (.tup [stV (uS c ls sum gv),.int .i64 (pzE c ls sum gv)]):=by
 by_cases he:pzE c ls sum gv=0
 ·have hp:=dz.of he
  have hb:=zA hp
  have hl:=hp.gl
  have e1:uS c ls sum gv=bgn c gv:=by unfold uS;rw[if_pos he]
  rw[e1,he]
  have t1:List.take (gv.length-0) (List.drop 0 (ms (bgn c gv).cs))=ms (bgn c gv).cs:=dA (by rw[dJ];exact kQ.1)
  have t2:List.take (gv.length-0) (List.drop 0 (bgn c gv).ds)=(bgn c gv).ds:=dA kQ.2
  have hml:=dJ (bgn c gv).cs
  have hbl:=kQ (c:=c) (gv:=gv)
  refine av (md:=1) (rf:=[]) mixed ak eU Tryz.func20 (by rfl) (by rfl) (by rfl) ?_
  repeat'((conv=>whnf);first|apply Exists.intro (bgn c gv)|(intro hq;(try simp only[vw]at hq);try first|exact absurd hq (by decide)|exfalso;omega)|apply aI|with_reducible exact vM rfl|exact⟨⟩|apply nM|apply fM)
  all_goals((try apply vM);(try simp only[vq]at*);try omega)
  ·exact⟨h,hg⟩
  ·exact⟨t1,t2,hb⟩
  ·exact Sup.of rfl
 ·have e1:uS c ls sum gv=noS:=by unfold uS;rw[if_neg he]
  rw[e1]
  refine av (md:=1) (rf:=[]) mixed ak eU Tryz.func20 (by rfl) (by rfl) (by rfl) ?_
  repeat'((conv=>whnf);first|(intro hq;(try simp only[vw]at hq);try first|exact absurd hq (by decide)|exfalso;omega)|apply aI|with_reducible exact vM rfl|exact⟨⟩|apply nM|apply fM)
  all_goals((try apply vM);(try simp only[vq]at*);try omega)
  ·exact⟨h,hg⟩
  ·unfold noS;all_goals(refine Sup.via ?_;repeat'((conv=>whnf);first|intro _|apply aI|with_reducible exact vM rfl|exact⟨⟩|apply nM|apply fM);all_goals((try apply vM);(try simp only[vq]at*);try omega);all_goals(try(simp[CL.sub];done)))
def ddO (o:Option Dd):PV:=match o with
 |some d=>Aw d
 |none=>ddV rV 0 0 0
def r9 (c:Int) (ls:List (List Int)) (sum:Int) (gv:List Int):Option Dd × Int:=
 if pzE c ls sum gv≠0 then(none,pzE c ls sum gv)else if brk c ls sum (bgn c gv)then(none,21)else if don (bgn c gv)then(none,29)else match jW (bgn c gv) sum ls 5 with
  |none=>(none,23)
  |some d=>(some d,0)
theorem Po (c:Int) (ls:List (List Int)) (sum:Int) (gv:List Int) (h:bT ls) (hg:gv.length≤5000):aG Tryz.prog 21 [pzV c ls sum gv] (.tup [ddO (r9 c ls sum gv).1,.int .i64 (r9 c ls sum gv).2]):=by
 by_cases he:pzE c ls sum gv=0
 ·have hp:=dz.of he
  have hb:=zA hp
  have hl:=hp.gl
  have t1:List.take (gv.length-0) (List.drop 0 (ms (bgn c gv).cs))=ms (bgn c gv).cs:=dA (by rw[dJ];exact kQ.1)
  have t2:List.take (gv.length-0) (List.drop 0 (bgn c gv).ds)=(bgn c gv).ds:=dA kQ.2
  have hml:=dJ (bgn c gv).cs
  have hbl:=kQ (c:=c) (gv:=gv)
  have e1:r9 c ls sum gv=if brk c ls sum (bgn c gv)then(none,(21:Int))else if don (bgn c gv)then(none,(29:Int))else match jW (bgn c gv) sum ls 5 with
   |none=>(none,(23:Int))
   |some d=>(some d,(0:Int)):=by unfold r9;rw[if_neg (by rw[he];simp)]
  cases hbk:brk c ls sum (bgn c gv)with
  |true=>
   rw[hbk,if_pos rfl]at e1
   rw[e1]
   refine av (md:=1) (rf:=[]) mixed ak eU Tryz.func21 (by rfl) (by rfl) (by rfl) ?_
   repeat'((conv=>whnf);first|apply Exists.intro (bgn c gv)|(intro hq;(try simp only[vw]at hq);try first|exact absurd hq (by decide)|exfalso;omega)|apply aI|with_reducible exact vM rfl|exact⟨⟩|apply nM|apply fM)
   all_goals((try apply vM);(try simp only[vq]at*);try omega)
   all_goals first|exact⟨h,hg⟩|exact⟨t1,t2,hb⟩|(exfalso;simp[aJ,hbk]at hq;done)|(exact Sup.of (by simp[bF,aJ,ddO,hbk];done))|exact Sup.of rfl|skip
  |false=>
   rw[hbk,if_neg (by simp)]at e1
   cases hdn:don (bgn c gv)with
   |true=>
    rw[hdn,if_pos rfl]at e1
    rw[e1]
    refine av (md:=1) (rf:=[]) mixed ak eU Tryz.func21 (by rfl) (by rfl) (by rfl) ?_
    repeat'((conv=>whnf);first|apply Exists.intro (bgn c gv)|(intro hq;(try simp only[vw]at hq);try first|exact absurd hq (by decide)|exfalso;omega)|apply aI|with_reducible exact vM rfl|exact⟨⟩|apply nM|apply fM)
    all_goals((try apply vM);(try simp only[vq]at*);try omega)
    all_goals first|exact⟨h,hg⟩|exact⟨t1,t2,hb⟩|(exfalso;simp[aJ,hbk,hdn]at hq;done)|(exact Sup.of (by simp[bF,aJ,ddO,hbk,hdn];done))|exact Sup.of rfl|skip
   |false=>
    rw[hdn,if_neg (by simp)]at e1
    cases ho:jW (bgn c gv) sum ls 5 with
    |none=>
     rw[ho]at e1
     rw[e1]
     refine av (md:=1) (rf:=[]) mixed ak eU Tryz.func21 (by rfl) (by rfl) (by rfl) ?_
     repeat'((conv=>whnf);first|apply Exists.intro (bgn c gv)|apply Exists.intro (none)|(intro hq;(try simp only[vw]at hq);try first|exact absurd hq (by decide)|exfalso;omega)|apply aI|with_reducible exact vM rfl|exact⟨⟩|apply nM|apply fM)
     all_goals((try apply vM);(try simp only[vq]at*);try omega)
     all_goals first|exact⟨h,hg⟩|exact⟨t1,t2,hb⟩|exact⟨t1,t2,⟨by omega,by omega⟩,hb,ho⟩|(exfalso;simp[aJ,hbk,hdn]at hq;done)|(exact Sup.of (by simp[bF,aJ,ddO,hbk,hdn];done))|exact Sup.of rfl|skip
    |some d=>
     rw[ho]at e1
     rw[e1]
     refine av (md:=1) (rf:=[]) mixed ak eU Tryz.func21 (by rfl) (by rfl) (by rfl) ?_
     repeat'((conv=>whnf);first|apply Exists.intro (bgn c gv)|apply Exists.intro (some d)|(intro hq;(try simp only[vw]at hq);try first|exact absurd hq (by decide)|exfalso;omega)|apply aI|with_reducible exact vM rfl|exact⟨⟩|apply nM|apply fM)
     all_goals((try apply vM);(try simp only[vq]at*);try omega)
     all_goals first|exact⟨h,hg⟩|exact⟨t1,t2,hb⟩|exact⟨t1,t2,⟨by omega,by omega⟩,hb,ho⟩|(exfalso;simp[aJ,hbk,hdn]at hq;done)|(exact Sup.of (by simp[bF,aJ,ddO,hbk,hdn];done))|exact Sup.of rfl|skip
 ·have e1:r9 c ls sum gv=(none,pzE c ls sum gv):=by unfold r9;rw[if_pos he]
  rw[e1]
  refine av (md:=1) (rf:=[]) mixed ak eU Tryz.func21 (by rfl) (by rfl) (by rfl) ?_
  repeat'((conv=>whnf);first|(intro hq;(try simp only[vw]at hq);try first|exact absurd hq (by decide)|exfalso;omega)|apply aI|with_reducible exact vM rfl|exact⟨⟩|apply nM|apply fM)
  all_goals((try apply vM);(try simp only[vq]at*);try omega)
  ·exact⟨h,hg⟩
  ·exact Sup.of rfl
def sj (c:Int) (ls:List (List Int)) (sum:Int) (gv:List Int) (g:Int):List Dd × St × Int:=
 if aJ [pzE c ls sum gv,iZ g]≠0 then([],noS,aJ [pzE c ls sum gv,iZ g])else if(sol c ls sum gv g.toNat).2.2=21 then([],noS,21)else sol c ls sum gv g.toNat
abbrev aa4 (r:List Dd × St × Int):PV:=.tup [.isl (dlC r.1) .none,stV r.2.1,.int .i64 r.2.2]
theorem Pp (e:Int):Sup (bF [PV.nils,PV.agg [PV.nils,PV.nils],PV.int IntKind.i64 e]) (aa4 ([],noS,e)):=by
 unfold noS
 all_goals(refine Sup.via ?_;repeat'((conv=>whnf);first|intro _|apply aI|with_reducible exact vM rfl|exact⟨⟩|apply nM|apply fM);all_goals((try apply vM);(try simp only[vq]at*);try omega);all_goals(try(simp[CL.sub];done)))
theorem FR {a b:Int} (h:aJ [a,b]=0):a=0∧b=0:=by
 simp only[aJ]at h
 split at h
 ·split at h
  ·exact⟨‹_›,‹_›⟩
  ·exact absurd h ‹_›
 ·exact absurd h ‹_›
theorem Pq {g:Int} (h:iZ g=0):1≤g∧g≤5:=by
 unfold iZ at h
 by_cases e:g<1∨5<g
 ·rw[if_pos e]at h;cases h
 ·omega
theorem zD (c:Int) (ls:List (List Int)) (sum:Int) (gv:List Int) (g:Int) (h:bT ls) (hg:gv.length≤5000):aG Tryz.prog 30 [pzV c ls sum gv,.int .i64 g] (aa4 (sj c ls sum gv g)):=by
 by_cases he:aJ [pzE c ls sum gv,iZ g]=0
 ·obtain⟨a1,a2⟩:=FR he
  have hp:=dz.of a1
  have hgr:=Pq a2
  have e1:sj c ls sum gv g=if(sol c ls sum gv g.toNat).2.2=21 then([],noS,21)else sol c ls sum gv g.toNat:=by unfold sj;rw[if_neg (by rw[he];simp)]
  have hsb:=(aa3 hp (show g.toNat≤5 by omega)).1
  by_cases h21:(sol c ls sum gv g.toNat).2.2=21
  ·rw[if_pos h21]at e1
   rw[e1]
   have hso:jc (sol c ls sum gv g.toNat)=none:=by unfold jc;rw[if_pos h21]
   refine av (md:=1) (rf:=[]) mixed ak eU Tryz.func30 (by rfl) (by rfl) (by rfl) ?_
   repeat'((conv=>whnf);first|apply Exists.intro (none)|(intro hq;(try simp only[vw]at hq);try first|exact absurd hq (by decide)|exfalso;omega)|apply aI|with_reducible exact vM rfl|exact⟨⟩|apply nM|apply fM)
   all_goals((try apply vM);(try simp only[vq]at*);try omega)
   ·exact⟨h,hg⟩
   ·exact⟨hp,⟨by omega,by omega⟩,hso⟩
   ·exact Pp 21
  ·rw[if_neg h21]at e1
   rw[e1]
   have hso:jc (sol c ls sum gv g.toNat)=some (sol c ls sum gv g.toNat):=by unfold jc;rw[if_neg h21]
   obtain⟨rr,hr⟩:∃r,sol c ls sum gv g.toNat=r:=⟨_,rfl⟩
   rw[hr]at h21 hsb⊢
   refine av (md:=1) (rf:=[]) mixed ak eU Tryz.func30 (by rfl) (by rfl) (by rfl) ?_
   repeat'((conv=>whnf);first|apply Exists.intro (some rr)|apply Exists.intro (rr.2.1)|(intro hq;(try simp only[vw]at hq);try first|exact absurd hq (by decide)|exfalso;omega)|apply aI|with_reducible exact vM rfl|exact⟨⟩|apply nM|apply fM)
   all_goals((try apply vM);(try simp only[vq]at*);try omega)
   all_goals first|exact⟨h,hg⟩|exact⟨hp,⟨by omega,by omega⟩,by rw[hso,hr]⟩|(exfalso;exact h21 hq)|exact hsb|exact⟨rfl,rfl,hsb⟩|exact Sup.of rfl
 ·have e1:sj c ls sum gv g=([],noS,aJ [pzE c ls sum gv,iZ g]):=by unfold sj;rw[if_pos he]
  rw[e1]
  refine av (md:=1) (rf:=[]) mixed ak eU Tryz.func30 (by rfl) (by rfl) (by rfl) ?_
  repeat'((conv=>whnf);first|(intro hq;(try simp only[vw]at hq);try first|exact absurd hq (by decide)|exfalso;omega)|apply aI|with_reducible exact vM rfl|exact⟨⟩|apply nM|apply fM)
  all_goals((try apply vM);(try simp only[vq]at*);try omega)
  ·exact⟨h,hg⟩
  ·exact Pp _
def su (c:Int) (ls:List (List Int)) (sum:Int) (gv:List Int):Nat→Nat→Nat
 |0,g=>g
 |f+1,g=>if(sol c ls sum gv g).2.2=0 then g else su c ls sum gv f (g+1)
def gG (c:Int) (ls:List (List Int)) (sum:Int) (gv:List Int):Int × List Dd × Int:=
 if(sol c ls sum gv 5).2.2≠0 then(0,[],(sol c ls sum gv 5).2.2)else((su c ls sum gv 4 1:Nat),(sol c ls sum gv (su c ls sum gv 4 1)).1,0)
theorem Pt {c:Int} {ls:List (List Int)} {sum:Int} {gv:List Int}:∀(f g k:Nat),(∀j,g≤j→j<k→(sol c ls sum gv j).2.2≠0)→(sol c ls sum gv k).2.2=0→g≤k→k≤g+f→su c ls sum gv f g=k:=by
 intro f
 induction f with
 |zero=>intro g k _ _ h1 h2;show g=k;omega
 |succ f ih=>
  intro g k hn hk h1 h2
  unfold su
  by_cases e:g=k
  ·subst e;rw[if_pos hk]
  ·rw[if_neg (hn g (by omega) (by omega))]
   exact ih (g+1) k (fun j hj hk'=>hn j (by omega) hk') hk (by omega) (by omega)
theorem H9 (c:Int) (ls:List (List Int)) (sum:Int) (gv:List Int) (hp:dz c ls sum gv):
 aG Tryz.prog 100 [pzV c ls sum gv] (.tup [.int .i64 (gG c ls sum gv).1,.isl (dlC (gG c ls sum gv).2.1) .none,.int .i64 (gG c ls sum gv).2.2]):=by
 have sn:∀e:Int,Sup (bF [PV.int IntKind.i64 0,PV.nils,PV.int IntKind.i64 e]) (.tup [.int .i64 0,.isl (dlC []) .none,.int .i64 e]):=fun e=>by all_goals(refine Sup.via ?_;repeat'((conv=>whnf);first|intro _|apply aI|with_reducible exact vM rfl|exact⟨⟩|apply nM|apply fM);all_goals((try apply vM);(try simp only[vq]at*);try omega);all_goals(try(simp[CL.sub];done)))
 obtain⟨r5,h5⟩:∃r,sol c ls sum gv 5=r:=⟨_,rfl⟩
 by_cases h21:r5.2.2=21
 ·have hso:jc (sol c ls sum gv 5)=none:=by unfold jc;rw[h5,if_pos h21]
  have hgr:gG c ls sum gv=(0,[],21):=by unfold gG;rw[h5,if_pos (by rw[h21];simp),h21]
  rw[hgr]
  refine av (md:=1) (rf:=[]) mixed ak eU Tryz.func100 (by rfl) (by rfl) (by rfl) ?_
  repeat'((conv=>whnf);first|apply Exists.intro (none)|(intro hq;(try simp only[vw]at hq);try first|exact absurd hq (by decide)|exfalso;omega)|apply aI|with_reducible exact vM rfl|exact⟨⟩|apply nM|apply fM)
  all_goals((try apply vM);(try simp only[vq]at*);try omega)
  ·exact⟨hp,⟨by omega,by omega⟩,hso⟩
  ·exact sn 21
 ·have hso:jc (sol c ls sum gv 5)=some r5:=by unfold jc;rw[h5,if_neg h21]
  by_cases h50:r5.2.2=0
  ·skip
   refine av (md:=1) (rf:=[]) mixed ak eU Tryz.func100 (by rfl) (by rfl) (by rfl) ?_
   repeat'((conv=>whnf);first|apply Exists.intro (some r5)|(intro hq;(try simp only[vw]at hq);try first|exact absurd hq (by decide)|exfalso;omega)|apply aI|with_reducible exact vM rfl|exact⟨⟩|apply nM|apply fM)
   all_goals((try apply vM);(try simp only[vq]at*);try omega)
   ·exact⟨hp,⟨by omega,by omega⟩,hso⟩
   conv=>whnf
   refine aM (X:=Nat) (fun g=>(1≤g∧g≤5)∧∀j,1≤j→j<g→(sol c ls sum gv j).2.2≠0) (fun g=>[(8,.int .i64 (g:Int))]) (fun g=>[]) (fun g=>6-g) 1 ⟨aK,mixed,ak,eU,aQ⟩ (by rfl) ⟨by omega,fun j h1 h2=>by omega⟩ ?_ ?_
   ·repeat'((conv=>whnf);first|intro _|apply aI|with_reducible exact vM rfl|exact⟨⟩|apply nM|apply fM)
    all_goals((try apply vM);(try simp only[vq]at*);try omega)
   intro g ⟨hg,hok⟩
   obtain⟨rg,hrg⟩:∃r,sol c ls sum gv g=r:=⟨_,rfl⟩
   have nxt:rg.2.2≠0→(g+1≤5∧∀j,1≤j→j<g+1→(sol c ls sum gv j).2.2≠0):=fun h0=>by
    have:g≠5:=fun e=>by subst e;rw[←hrg,h5]at h0;exact h0 h50
    refine⟨by omega,fun j h1 h2=>?_⟩
    by_cases e:j=g
    ·subst e;rw[hrg];exact h0
    ·exact hok j h1 (by omega)
   by_cases hg21:rg.2.2=21
   ·have hso2:jc (sol c ls sum gv g)=none:=by unfold jc;rw[hrg,if_pos hg21]
    repeat'((conv=>whnf);first|apply Exists.intro (none)|(intro hq;(try simp only[vw]at hq);try first|exact absurd hq (by decide)|exfalso;omega)|apply aI|with_reducible exact vM rfl|exact⟨⟩|apply nM|apply fM)
    all_goals((try apply vM);(try simp only[vq]at*);try omega)
    ·exact⟨hp,⟨by omega,by omega⟩,hso2⟩
    obtain⟨n1,n2⟩:=nxt (by rw[hg21];simp)
    refine⟨g+1,[],⟨⟨⟨by omega,n1⟩,n2⟩,by omega⟩,?_⟩
    repeat'((conv=>whnf);first|intro _|apply aI|with_reducible exact vM rfl|exact⟨⟩|apply nM|apply fM)
    all_goals((try apply vM);(try simp only[vq]at*);try omega)
   ·have hso2:jc (sol c ls sum gv g)=some rg:=by unfold jc;rw[hrg,if_neg hg21]
    repeat'((conv=>whnf);first|apply Exists.intro (some rg)|(intro hq;(try simp only[vw]at hq);try first|exact absurd hq (by decide)|exfalso;omega)|apply aI|with_reducible exact vM rfl|exact⟨⟩|apply nM|apply fM)
    all_goals((try apply vM);(try simp only[vq]at*);try omega)
    ·exact⟨hp,⟨by omega,by omega⟩,hso2⟩
    ·have hgn:=Pt (c:=c) (ls:=ls) (sum:=sum) (gv:=gv) 4 1 g hok (by rw[hrg];exact hq) hg.1 (by omega)
     have hgr:gG c ls sum gv=(((g:Nat):Int),rg.1,0):=by unfold gG;rw[h5,if_neg (by rw[h50];simp),hgn,hrg]
     rw[hgr]
     exact Sup.of (by simp only[bF];rw[hq])
    ·obtain⟨n1,n2⟩:=nxt hq
     refine⟨g+1,[],⟨⟨⟨by omega,n1⟩,n2⟩,by omega⟩,?_⟩
     repeat'((conv=>whnf);first|intro _|apply aI|with_reducible exact vM rfl|exact⟨⟩|apply nM|apply fM)
     all_goals((try apply vM);(try simp only[vq]at*);try omega)
  ·have hgr:gG c ls sum gv=(0,[],r5.2.2):=by unfold gG;rw[h5,if_pos h50]
   rw[hgr]
   refine av (md:=1) (rf:=[]) mixed ak eU Tryz.func100 (by rfl) (by rfl) (by rfl) ?_
   repeat'((conv=>whnf);first|apply Exists.intro (some r5)|(intro hq;(try simp only[vw]at hq);try first|exact absurd hq (by decide)|exfalso;omega)|apply aI|with_reducible exact vM rfl|exact⟨⟩|apply nM|apply fM)
   all_goals((try apply vM);(try simp only[vq]at*);try omega)
   ·exact⟨hp,⟨by omega,by omega⟩,hso⟩
   ·exact sn _
def AP:PSp:=fun xs K=>match xs with
 | [.agg [.int .i64 c,.isl (.rows .i64 ls) .none,.int .i64 sum,.isl (.ints .i64 gv) .none]]=>VC (dz c ls sum gv)∧K (.tup [.int .i64 (gG c ls sum gv).1,.isl (dlC (gG c ls sum gv).2.1) .none,.int .i64 (gG c ls sum gv).2.2])
 |_=>False
theorem Pv:POK Tryz.prog 100 AP:=by
 intro xs K hk
 unfold AP at hk
 split at hk
 ·exact⟨_,hk.2,H9 _ _ _ _ hk.1.get⟩
 ·exact hk.elim
noncomputable def ac6:CPT:=aA 22 (aB mM) (aA 100 (aB AP) (aA 101 (aB nQ) noC))
theorem nS:aY Tryz.prog ac6:=aj (au lX) (aj (au Pv) (aj (au pG) aD))
def kI (c:Int) (ls:List (List Int)) (sum:Int) (gv:List Int):Int × List Dd × Int:=if pzE c ls sum gv≠0 then(0,[],pzE c ls sum gv)else gG c ls sum gv
theorem MF (c:Int) (ls:List (List Int)) (sum:Int) (gv:List Int) (h:bT ls) (hg:gv.length≤5000):aG Tryz.prog 31 [pzV c ls sum gv] (.tup [.int .i64 (kI c ls sum gv).1,.int .i64 (kI c ls sum gv).2.2]):=by
 by_cases he:pzE c ls sum gv=0
 ·have e1:kI c ls sum gv=gG c ls sum gv:=by unfold kI;rw[if_neg (by rw[he];simp)]
  rw[e1]
  refine av (md:=1) (rf:=[]) mixed ak nS Tryz.func31 (by rfl) (by rfl) (by rfl) ?_
  repeat'((conv=>whnf);first|(intro hq;(try simp only[vw]at hq);try first|exact absurd hq (by decide)|exfalso;omega)|apply aI|with_reducible exact vM rfl|exact⟨⟩|apply nM|apply fM)
  all_goals((try apply vM);(try simp only[vq]at*);try omega)
  all_goals first|exact⟨h,hg⟩|exact dz.of he|exact Sup.of rfl|skip
 ·have e1:kI c ls sum gv=(0,[],pzE c ls sum gv):=by unfold kI;rw[if_pos he]
  rw[e1]
  refine av (md:=1) (rf:=[]) mixed ak nS Tryz.func31 (by rfl) (by rfl) (by rfl) ?_
  repeat'((conv=>whnf);first|(intro hq;(try simp only[vw]at hq);try first|exact absurd hq (by decide)|exfalso;omega)|apply aI|with_reducible exact vM rfl|exact⟨⟩|apply nM|apply fM)
  all_goals((try apply vM);(try simp only[vq]at*);try omega)
  all_goals first|exact⟨h,hg⟩|exact Sup.of rfl|skip
def jE (l:List Dd):List Int:=(List.range 5).map fun g=>((l.filter fun d=>decide (d.g=g+1)).length:Int)
theorem Pw (l:List Dd) (d:Dd) (h:1≤d.g∧d.g≤5):(jE l).set (d.g-1) ((jE l).getD (d.g-1) 0+1)=jE (l++[d]):=by
 refine List.ext_getElem (by simp[jE]) fun j h1 h2=>?_
 have hj:j<5:=by simpa [jE]using h2
 rw[List.getElem_set]
 simp only[jE,List.getElem_map,List.getElem_range,List.filter_append,List.filter_cons,List.filter_nil,List.length_append]
 by_cases e:d.g-1=j
 ·rw[if_pos e]
  subst e
  simp[List.getD_eq_getElem?_getD,show d.g-1<5 by omega,show d.g-1+1=d.g by omega]
 ·rw[if_neg e]
  simp[show¬d.g=j+1 by omega]
theorem aa5 {c:Int} {ls:List (List Int)} {sum:Int} {n:Nat}:∀(f:Nat) (s:St) (l:List Dd),(∀d∈l,1≤d.g∧d.g≤n)→∀d∈(oM c ls sum n f s l).1,1≤d.g∧d.g≤n:=by
 intro f
 induction f with
 |zero=>exact fun s l h=>h
 |succ f ih=>
  intro s l h
  unfold oM
  split
  ·intro d hd;simp at hd
  ·split
   ·exact h
   ·split
    ·exact h
    ·rename_i d hd
     refine ih _ _ fun d' hd'=>?_
     rcases List.mem_append.1 hd' with h1|h1
     ·exact h d' h1
     ·rw[List.mem_singleton.1 h1]
      obtain⟨g,g1,g2,g3⟩:=FH hd
      rw[(FE.1 g3).1];exact⟨g1,g2⟩
theorem aa6 {c:Int} {ls:List (List Int)} {sum:Int} {gv:List Int}:∀d∈(gG c ls sum gv).2.1,1≤d.g∧d.g≤5:=by
 intro d hd
 unfold gG at hd
 split at hd
 ·simp at hd
 ·have:=aa5 (n:=su c ls sum gv 4 1) 273 _ [] (fun d h=>by simp at h) d hd
  have hb:∀f g,su c ls sum gv f g≤g+f:=by
   intro f
   induction f with
   |zero=>intro g;exact Nat.le_refl _
   |succ f ih=>intro g;unfold su;split;omega;have:=ih (g+1);omega
  have:=hb 4 1
  omega
theorem Sj {c:Int} {ls:List (List Int)} {sum:Int} {n:Nat}:∀(f:Nat) (s:St) (l:List Dd),(oM c ls sum n f s l).1.length≤l.length+f:=by
 intro f
 induction f with
 |zero=>exact fun s l=>Nat.le_refl _
 |succ f ih=>
  intro s l
  unfold oM
  split
  ·simp
  ·split
   ·simp only;omega
   ·split
    ·simp only;omega
    ·have:=ih (apl ‹Dd›.g s ‹Dd›.y ‹Dd›.x) (l++[‹Dd›])
     rw[List.length_append]at this
     simp only[List.length_cons,List.length_nil]at this
     omega
theorem Sk {c:Int} {ls:List (List Int)} {sum:Int} {gv:List Int}:(gG c ls sum gv).2.1.length≤273:=by
 unfold gG
 split
 ·simp
 ·have:=Sj (c:=c) (ls:=ls) (sum:=sum) (n:=su c ls sum gv 4 1) 273 (bgn c gv) []
  rw[List.length_nil,Nat.zero_add]at this
  exact this
theorem Yl (l:List Dd) (i:Nat):0≤(jE l).getD i 0∧(jE l).getD i 0≤l.length:=by
 by_cases hi:i<5
 ·have:(jE l).getD i 0=((l.filter fun d=>decide (d.g=i+1)).length:Int):=by simp[jE,List.getD_eq_getElem?_getD,hi]
  rw[this]
  have:=List.length_filter_le (fun d:Dd=>decide (d.g=i+1)) l
  omega
 ·have:(jE l).getD i 0=0:=by simp[jE,List.getD_eq_getElem?_getD,hi]
  rw[this];omega
def FT (c:Int) (ls:List (List Int)) (sum:Int) (gv:List Int):List Int:=if(kI c ls sum gv).2.2≠0 then []else jE (kI c ls sum gv).2.1
theorem aa7 {g:Nat} (h:1≤g∧g≤5):bE (nmG g)=g:=by
 have:=pF
 obtain rfl|rfl|rfl|rfl|rfl:g=1∨g=2∨g=3∨g=4∨g=5:=by omega
 all_goals first|exact this.1|exact this.2.1|exact this.2.2.1|exact this.2.2.2.1|exact this.2.2.2.2
theorem MG (c:Int) (ls:List (List Int)) (sum:Int) (gv:List Int) (h:bT ls) (hg:gv.length≤5000):aG Tryz.prog 32 [pzV c ls sum gv] (.tup [.isl (.ints .i64 (FT c ls sum gv)) .none,.int .i64 (kI c ls sum gv).2.2]):=by
 have sn:∀e:Int,Sup (bF [PV.nils,PV.int IntKind.i64 e]) (.tup [.isl (.ints .i64 []) .none,.int .i64 e]):=fun e=>by all_goals(refine Sup.via ?_;repeat'((conv=>whnf);first|intro _|apply aI|with_reducible exact vM rfl|exact⟨⟩|apply nM|apply fM);all_goals((try apply vM);(try simp only[vq]at*);try omega);all_goals(try(simp[CL.sub];done)))
 by_cases he:pzE c ls sum gv=0
 ·have e1:kI c ls sum gv=gG c ls sum gv:=by unfold kI;rw[if_neg (by rw[he];simp)]
  unfold FT
  rw[e1]
  have hgg:=aa6 (c:=c) (ls:=ls) (sum:=sum) (gv:=gv)
  obtain⟨l,hF⟩:∃l,(gG c ls sum gv).2.1=l:=⟨_,rfl⟩
  rw[hF]at hgg
  have hl3:l.length≤273:=by rw[←hF];exact Sk
  by_cases h0:(gG c ls sum gv).2.2=0
  ·rw[if_neg (by rw[h0];simp),hF]
   refine av (md:=1) (rf:=[]) mixed ak nS Tryz.func32 (by rfl) (by rfl) (by rfl) ?_
   repeat'((conv=>whnf);first|(intro hq;(try simp only[vw]at hq);try first|exact absurd hq (by decide)|exfalso;omega)|apply aI|with_reducible exact vM rfl|exact⟨⟩|apply nM|apply fM)
   all_goals((try apply vM);(try simp only[vq]at*);try omega)
   all_goals first|exact⟨h,hg⟩|exact dz.of he|skip
   rw[hF]
   conv=>whnf
   refine aM (X:=Nat) (fun i=>i≤l.length) (fun i=>[(28,.int .i64 i)]) (fun i=>[(9,.cells (.ints .i64 (jE (l.take i))) false)]) (fun i=>l.length-i) 0 ⟨aK,mixed,ak,nS,aQ⟩ (by rfl) (by omega) ?_ ?_
   ·repeat'((conv=>whnf);first|intro _|apply aI|with_reducible exact vM rfl|exact⟨⟩|apply nM|apply fM)
    all_goals((try apply vM);(try simp only[vq]at*);try omega)
    all_goals rfl
   intro i hi
   have hsl:(jE (l.take i)).length=5:=by simp[jE]
   have hbd:=Yl (l.take i)
   have hli:(l.take i).length≤273:=by rw[List.length_take];omega
   by_cases hlt:i<l.length
   ·have hd:=hgg (l.getD i dd0) (by rw[List.getD_eq_getElem?_getD,List.getElem?_eq_getElem hlt];exact List.getElem_mem _)
    have hgn:=aa7 hd
    obtain⟨dg,hdg⟩:∃g:Int,g=((l.getD i dd0).g:Nat):=⟨_,rfl⟩
    have hbi:=hbd (dg-1).toNat
    have ht1:l.take (i+1)=l.take i++[l.getD i dd0]:=by rw[List.take_add_one,List.getD_eq_getElem?_getD,List.getElem?_eq_getElem hlt];rfl
    have hsu:=Pw (l.take i) (l.getD i dd0) hd
    rw[←ht1,show(l.getD i dd0).g-1=(dg-1).toNat by omega]at hsu
    repeat'((conv=>whnf);first|apply Exists.intro (dg)|(intro hq;(try simp only[vw]at hq);try first|exact absurd hq (by decide)|exfalso;omega)|apply aI|with_reducible exact vM rfl|exact⟨⟩|apply nM|apply fM)
    all_goals((try apply vM);(try simp only[vq]at*);try omega)
    all_goals(try first|omega|rfl|(rw[hgn];exact hdg.symm))
    refine⟨i+1,[],⟨by omega,by omega⟩,?_⟩
    repeat'((conv=>whnf);first|intro _|apply aI|with_reducible exact vM rfl|exact⟨⟩|apply nM|apply fM)
    all_goals((try apply vM);(try simp only[vq]at*);try omega)
    all_goals(try exact hsu)
   ·have:i=l.length:=by omega
    subst this
    rw[List.take_length]at*
    repeat'((conv=>whnf);first|(intro hq;(try simp only[vw]at hq);try first|exact absurd hq (by decide)|exfalso;omega)|apply aI|with_reducible exact vM rfl|exact⟨⟩|apply nM|apply fM)
    all_goals((try apply vM);(try simp only[vq]at*);try omega)
    all_goals(try(rw[hsl];decide))
    rw[h0]
    refine Sup.of ?_
    show PV.tup [.isl (.ints .i64 (List.take (Int.toNat 5-0) (List.drop 0 (jE l)))) .none,.int .i64 0]=_
    rw[dA (by rw[hsl];rfl)]
  ·rw[if_pos h0]
   refine av (md:=1) (rf:=[]) mixed ak nS Tryz.func32 (by rfl) (by rfl) (by rfl) ?_
   repeat'((conv=>whnf);first|(intro hq;(try simp only[vw]at hq);try first|exact absurd hq (by decide)|exfalso;omega)|apply aI|with_reducible exact vM rfl|exact⟨⟩|apply nM|apply fM)
   all_goals((try apply vM);(try simp only[vq]at*);try omega)
   all_goals first|exact⟨h,hg⟩|exact dz.of he|exact sn _|skip
 ·have e1:kI c ls sum gv=(0,[],pzE c ls sum gv):=by unfold kI;rw[if_pos he]
  have e2:FT c ls sum gv=[]:=by unfold FT;rw[e1,if_pos he]
  rw[e1,e2]
  refine av (md:=1) (rf:=[]) mixed ak nS Tryz.func32 (by rfl) (by rfl) (by rfl) ?_
  repeat'((conv=>whnf);first|(intro hq;(try simp only[vw]at hq);try first|exact absurd hq (by decide)|exfalso;omega)|apply aI|with_reducible exact vM rfl|exact⟨⟩|apply nM|apply fM)
  all_goals((try apply vM);(try simp only[vq]at*);try omega)
  all_goals first|exact⟨h,hg⟩|exact sn _|skip
structure StS (s:St):Prop where
 cl:s.cs.length≤5000
 dl:s.ds.length≤5000
 ll:∀i,(s.cd i).length≤5000
structure ac7 (s:St):Prop where
 cl:1≤s.cs.length∧s.cs.length≤16
 dl:s.ds.length=s.cs.length
 asc:∀i,i<s.cs.length→Asc (s.cd i)
theorem bM.lt {c:Int} {ls:List (List Int)} {sum:Int} {s:St} (h:bM c ls sum s):ac7 s:=by
 have:=h.c1;have:=h.cl;have:=h.dl
 exact⟨by omega,by omega,fun i hi=>(h.asc i hi).1⟩
structure StW where
 s:St
theorem aa8 (b:Bool) (p:PV):Sup (bF [PV.bool b,p]) (PV.tup [.bp b,p]):=⟨fun hr=>by
 cases hr with
 |tup _ _ vs hl hh=>
  refine .tup _ _ _ hl fun i hi=>?_
  have:=hh i hi
  obtain rfl|rfl:i=0∨i=1:=by simp at hi;omega
  ·simp only[aC]at this⊢
   generalize vs.getD 0 undef=v1 at this
   cases this;exact .bp _ _
  ·exact this⟩
structure Du where
 r:ByteArray
 y:Int
 x:Int
 k:Int
def fA (N l:List Int):Int:=l.foldl (fun a x=>a+N.getD x.toNat 0) 0
theorem xU (N l:List Int) (x:Int):fA N (l++[x])=fA N l+N.getD x.toNat 0:=by unfold fA;rw[List.foldl_append];rfl
theorem nT {N:List Int} (hN:∀x∈N,0≤x∧x≤16) (l:List Int):0≤fA N l∧fA N l≤16*l.length:=by
 obtain⟨n,hn⟩:∃n,l.length=n:=⟨_,rfl⟩
 induction n generalizing l with
 |zero=>rw[List.length_eq_zero_iff.1 hn];simp[fA]
 |succ n ih=>
  obtain⟨l',x,rfl⟩:∃l' x,l=l'++[x]:=⟨l.take n,l.getD n 0,by rw[←cZ (by omega),←hn,List.take_length]⟩
  have ih:=ih l' (by simpa using hn)
  rw[xU,List.length_append]
  have:0≤N.getD x.toNat 0∧N.getD x.toNat 0≤16:=by
   rw[List.getD_eq_getElem?_getD]
   cases e:N[x.toNat]? with
   |none=>simp
   |some y=>exact hN y (List.mem_of_getElem? e)
  simp only[List.length_cons,List.length_nil]
  omega
def pX (sum:Int) (N:List Int) (i:Int) (l:List Int):Bool:=!decide (l.getD (l.length-1) 0=i-1)||decide (fA N l=sum)
def jf (ls:List (List Int)) (sum:Int) (N:List Int) (i:Int):Bool:=ls.all (pX sum N i)
theorem eO {α:Type} {l:List α} {i:Nat} {d:α} (h:i<l.length):l.getD i d∈l:=by
 rw[List.getD_eq_getElem?_getD,List.getElem?_eq_getElem h];exact List.getElem_mem _
theorem Ym {ls:List (List Int)} {sum:Int} {N:List Int} {i:Int} {j:Nat} (hj:j<ls.length) (h:pX sum N i (ls.getD j [])=false):jf ls sum N i=false:=by
 unfold jf
 rw[List.all_eq_false]
 exact⟨_,eO hj,by rw[h];simp⟩
abbrev srC (c:Int) (ls:List (List Int)) (sum:Int) (gv:List Int) (lim:Int) (nums:PV) (u:Int) (res:PV):CL:=.pv [.int .i64 c,.isl (.rows .i64 ls) .none,.int .i64 sum,.isl (.ints .i64 gv) .none,.int .i64 lim,nums,.int .u32 u,res]
structure FU (c:Int) (N:List Int):Prop where
 len:(N.length:Int)=c
 rng:∀x∈N,0≤x∧x≤16
theorem Px (c:Int) (ls:List (List Int)) (sum:Int) (gv:List Int) (lim:Int) (N:List Int) (u:Int) (R:List (List Int)) (i:Int) (h:dz c ls sum gv) (hN:FU c N) (hi:0≤i∧i≤16):
 aG Tryz.prog 155 [.ip (srC c ls sum gv lim (.isl (.ints .i64 N) .none) u (.isl (.rows .i64 R) .none)) 0,.int .i64 i] (.bp (jf ls sum N i)):=by
 have hc:=h.c1
 have hll:=h.ll
 have hsm:=h.sm
 have hNl:=hN.len
 refine av (md:=1) (rf:=[]) mixed ak aD Tryz.func155 (by rfl) (by rfl) (by rfl) ?_
 repeat'((conv=>whnf);first|(intro hq;(try simp only[vw]at hq);try first|exact absurd hq (by decide)|exfalso;omega)|apply aI|with_reducible exact vM rfl|exact⟨⟩|apply nM|apply fM)
 all_goals((try apply vM);(try simp only[vq]at*);try omega)
 conv=>whnf
 refine aM (X:=Nat) (fun j=>j≤ls.length∧∀t,t<j→pX sum N i (ls.getD t [])=true) (fun j=>[(17,.int .i64 j)]) (fun j=>[]) (fun j=>ls.length-j) 0 ⟨aK,mixed,ak,aD,aQ⟩ (by rfl) ⟨by omega,fun t ht=>absurd ht (Nat.not_lt_zero t)⟩ ?_ ?_
 ·repeat'((conv=>whnf);first|intro _|apply aI|with_reducible exact vM rfl|exact⟨⟩|apply nM|apply fM)
  all_goals((try apply vM);(try simp only[vq]at*);try omega)
 intro j ⟨hj,hok⟩
 by_cases hlt:j<ls.length
 ·have hL:=h.ln j hlt
  have hne:=hL.ne
  have hlen:=hL.len
  have eidx:((((ls.getD j []).length:Nat):Int)-1).toNat=(ls.getD j []).length-1:=by omega
  have hlast:=hL.rng ((ls.getD j []).getD ((ls.getD j []).length-1) 0) (bV (by omega))
  have hnext:pX sum N i (ls.getD j [])=true→∀t,t<j+1→pX sum N i (ls.getD t [])=true:=fun hh t ht=>by
   rcases Nat.lt_succ_iff_lt_or_eq.1 ht with h'|h'
   ·exact hok t h'
   ·rw[h'];exact hh
  repeat'((conv=>whnf);first|(intro hq;(try simp only[vw]at hq);try first|exact absurd hq (by decide)|exfalso;omega)|apply aI|with_reducible exact vM rfl|exact⟨⟩|apply nM|apply fM)
  all_goals((try apply vM);(try simp only[vq]at*);try omega)
  all_goals(try omega)
  all_goals(try rw[eidx]at*)
  ·refine⟨j+1,[],⟨⟨by omega,hnext (by unfold pX;rw[decide_eq_false hq];rfl)⟩,by omega⟩,?_⟩
   repeat'((conv=>whnf);first|intro _|apply aI|with_reducible exact vM rfl|exact⟨⟩|apply nM|apply fM)
   all_goals((try apply vM);(try simp only[vq]at*);try omega)
  rename_i hq
  have hla:=Classical.not_not.1 hq
  conv=>whnf
  refine aM (X:=Nat) (fun k=>k≤(ls.getD j []).length) (fun k=>[(32,.int .i64 k),(7,.int .i64 (fA N ((ls.getD j []).take k)))]) (fun k=>[]) (fun k=>(ls.getD j []).length-k) 0 ⟨aK,mixed,ak,aD,aQ⟩ (by rfl) (by omega) ?_ ?_
  ·repeat'((conv=>whnf);first|intro _|apply aI|with_reducible exact vM rfl|exact⟨⟩|apply nM|apply fM)
   all_goals((try apply vM);(try simp only[vq]at*);try omega)
   all_goals skip
  intro k hk
  have hb:=nT hN.rng ((ls.getD j []).take k)
  rw[List.length_take,Nat.min_eq_left hk]at hb
  by_cases hlk:k<(ls.getD j []).length
  ·have hx:=hL.rng ((ls.getD j []).getD k 0) (eO hlk)
   have hsx:fA N ((ls.getD j []).take (k+1))=fA N ((ls.getD j []).take k)+N.getD ((ls.getD j []).getD k 0).toNat 0:=by rw[cZ hlk,xU]
   have hv:=hN.rng (N.getD ((ls.getD j []).getD k 0).toNat 0) (eO (by omega))
   repeat'((conv=>whnf);first|(intro hq;(try simp only[vw]at hq);try first|exact absurd hq (by decide)|exfalso;omega)|apply aI|with_reducible exact vM rfl|exact⟨⟩|apply nM|apply fM)
   all_goals((try apply vM);(try simp only[vq]at*);try omega)
   all_goals(try omega)
   refine⟨k+1,[],⟨by omega,by omega⟩,?_⟩
   rw[hsx]
   repeat'((conv=>whnf);first|intro _|apply aI|with_reducible exact vM rfl|exact⟨⟩|apply nM|apply fM)
   all_goals((try apply vM);(try simp only[vq]at*);try omega)
   all_goals skip
  ·have e:k=(ls.getD j []).length:=by omega
   subst e
   rw[List.take_length]at*
   repeat'((conv=>whnf);first|(intro hq;(try simp only[vw]at hq);try first|exact absurd hq (by decide)|exfalso;omega)|apply aI|with_reducible exact vM rfl|exact⟨⟩|apply nM|apply fM)
   all_goals((try apply vM);(try simp only[vq]at*);try omega)
   all_goals(try omega)
   ·rw[Ym hlt (by unfold pX;rw[decide_eq_true hla,decide_eq_false hq];rfl)]
    exact gJ false
   ·refine⟨j+1,[],⟨⟨by omega,hnext (by unfold pX;rw[decide_eq_true (Classical.not_not.1 hq),Bool.or_true])⟩,by omega⟩,?_⟩
    repeat'((conv=>whnf);first|intro _|apply aI|with_reducible exact vM rfl|exact⟨⟩|apply nM|apply fM)
    all_goals((try apply vM);(try simp only[vq]at*);try omega)
 ·have e:j=ls.length:=by omega
  subst e
  have:jf ls sum N i=true:=by
   unfold jf
   rw[List.all_eq_true]
   intro x hx
   obtain⟨t,ht,rfl⟩:=List.getElem_of_mem hx
   have:=hok t ht
   rwa [List.getD_eq_getElem?_getD,List.getElem?_eq_getElem ht]at this
  rw[this]
  repeat'((conv=>whnf);first|(intro hq;(try simp only[vw]at hq);try first|exact absurd hq (by decide)|exfalso;omega)|apply aI|with_reducible exact vM rfl|exact⟨⟩|apply nM|apply fM)
  all_goals((try apply vM);(try simp only[vq]at*);try omega)
  all_goals exact gJ true
def MH:PSp:=fun xs K=>match xs with
 | [.ip (.pv [.int .i64 c,.isl (.rows .i64 ls) .none,.int .i64 sum,.isl (.ints .i64 gv) .none,.int .i64 lim,.isl (.ints .i64 N) .none,.int .u32 u,.isl (.rows .i64 R) .none]) 0,.int .i64 i]=>VC (dz c ls sum gv∧FU c N∧0≤i∧i≤16)∧K (.bp (jf ls sum N i))
 |_=>False
theorem Yn:POK Tryz.prog 155 MH:=by
 intro xs K hk
 unfold MH at hk
 split at hk
 ·exact⟨_,hk.2,Px _ _ _ _ _ _ _ _ _ hk.1.get.1 hk.1.get.2.1 hk.1.get.2.2⟩
 ·exact hk.elim
theorem Sl (l:List Int) (hl:1≤l.length∧l.length≤1000000):aG Tryz.prog 102 [.isl (.ints .i64 l) .none] (.isl (.ints .i64 l) .none):=by
 refine av (md:=1) (rf:=[]) mixed ak aD Tryz.func102 (by rfl) (by rfl) (by rfl) ?_
 repeat'((conv=>whnf);first|intro _|apply aI|with_reducible exact vM rfl|exact⟨⟩|apply nM|apply fM)
 all_goals((try apply vM);(try simp only[vq]at*);try omega)
 all_goals first|(simp;omega)|exact Sup.of rfl
def Sm:PSp:=fun xs K=>match xs with
 | [.isl (.ints .i64 l) .none]=>VC (1≤l.length∧l.length≤1000000)∧K (.isl (.ints .i64 l) .none)
 |_=>False
theorem aa9:POK Tryz.prog 102 Sm:=by
 intro xs K h
 unfold Sm at h
 split at h
 ·exact⟨_,h.2,Sl _ h.1.get⟩
 ·exact h.elim
theorem Py (l:List Int) (hl:1≤l.length∧l.length≤1000000):jM Tryz.prog 102 [.isl (.ints .i64 l) .none] [] [.rsl 0 0 l.length] [.cells (.ints .i64 l) false]:=by
 refine bJ (md:=1) (rf:=[7]) mixed ak aD 0 [(1,0)] Tryz.func102 (by rfl) (by rfl) (by rfl) ?_
 repeat'((conv=>whnf);first|(intro hq;(try simp only[vw]at hq);try first|exact absurd hq (by decide)|exfalso;omega)|apply aI|with_reducible exact vM rfl|exact⟨⟩|apply nM|apply fM)
 all_goals((try apply vM);(try simp only[vq]at*);try omega)
 all_goals skip
def MI:LSp:=fun xs objs K=>match xs,objs with
 | [.isl (.ints .i64 l) .none],[]=>VC (1≤l.length∧l.length≤1000000)∧K [.rsl 0 0 l.length] [.cells (.ints .i64 l) false]
 |_,_=>False
theorem Jy:LOK Tryz.prog 102 MI:=by
 intro xs objs K hk
 unfold MI at hk
 split at hk
 ·exact⟨_,_,hk.2,Py _ hk.1.get⟩
 ·exact hk.elim
def jF (lim:Int) (ls:List (List Int)) (sum:Int) (gv:List Int):Nat→List (List Int)→List Int→List Int→List (List Int)
 |0,R,N,U=>if lim≤R.length∨jf ls sum N gv.length=false then R else R++[N]
 |f+1,R,N,U=>if lim≤R.length∨jf ls sum N ((gv.length-(f+1):Nat):Int)=false then R
  else if 0<gv.getD (gv.length-(f+1)) 0 then jF lim ls sum gv f R N U
  else(List.range gv.length).foldl (fun R (x:Nat)=>if((x:Int)+1)∈U then R else jF lim ls sum gv f R (N.set (gv.length-(f+1)) ((x:Int)+1)) (U++[(x:Int)+1])) R
theorem FV {α:Type} {f:List (List Int)→α→List (List Int)} {b:Nat}:∀(l:List α) (R:List (List Int)),R.length≤b→(∀R x,R.length≤b→(f R x).length≤b)→(l.foldl f R).length≤b:=by
 intro l
 induction l with
 |nil=>intro R h _;exact h
 |cons x l ih=>intro R h hf;exact ih _ (hf R x h) hf
theorem FW {lim:Int} {ls:List (List Int)} {sum:Int} {gv:List Int} {b:Nat} (hl:lim≤b):∀(f:Nat) (R:List (List Int)) (N U:List Int),R.length≤b→(jF lim ls sum gv f R N U).length≤b:=by
 intro f
 induction f with
 |zero=>
  intro R N U h
  unfold jF
  split
  ·exact h
  ·rw[List.length_append,List.length_cons,List.length_nil];omega
 |succ f ih=>
  intro R N U h
  unfold jF
  split
  ·exact h
  ·split
   ·exact ih _ _ _ h
   ·refine FV _ _ h fun R x hR=>?_
    split
    ·exact hR
    ·exact ih _ _ _ hR
abbrev srO (c:Int) (ls:List (List Int)) (sum:Int) (gv:List Int) (lim:Int) (N U:List Int) (R:List (List Int)):List AO:=
 [.cells (srC c ls sum gv lim (.rsl 1 0 gv.length) ((mk U:Nat):Int) (.isl (.rows .i64 R) (.own 2))) false,.cells (.ints .i64 N) false,.tok 1 R.length]
structure SrI (c:Int) (gv:List Int) (f:Nat) (N U:List Int):Prop where
 n:FU c N
 u:InM U
 fl:f≤gv.length
 z:∀j,gv.length-f≤j→j<gv.length→gv.getD j 0=0→N.getD j 0=0
def qC (f:Nat):Prop:=∀(c:Int) (ls:List (List Int)) (sum:Int) (gv:List Int) (lim:Int) (N U:List Int) (R:List (List Int)),dz c ls sum gv→lim≤256→R.length≤256→SrI c gv f N U→
 jM Tryz.prog 103 [.rp 0 0,.int .i64 ((gv.length-f:Nat):Int)] (srO c ls sum gv lim N U R) [] (srO c ls sum gv lim N U (jF lim ls sum gv f R N U))
def Dw (f:Nat):LSp:=fun xs objs K=>match xs,objs with
 | [.rp 0 0,.int .i64 i],[.cells (.pv [.int .i64 c,.isl (.rows .i64 ls) .none,.int .i64 sum,.isl (.ints .i64 gv) .none,.int .i64 lim,.rsl 1 0 n,.int .u32 u,.isl (.rows .i64 R) (.own 2)]) false,.cells (.ints .i64 N) false,.tok 1 m]=>
  ∃U:List Int,VC (n=gv.length∧m=R.length∧u=(mk U:Nat)∧i=((gv.length-f:Nat):Int)∧dz c ls sum gv∧lim≤256∧R.length≤256∧SrI c gv f N U)∧K [] (srO c ls sum gv lim N U (jF lim ls sum gv f R N U))
 |_,_=>False
theorem FX {f:Nat} (h:qC f):LOK Tryz.prog 103 (Dw f):=by
 intro xs objs K hk
 unfold Dw at hk
 split at hk
 ·obtain⟨U,⟨rfl,rfl,rfl,rfl,h1,h2,h3,h4⟩,hk⟩:=hk
  exact⟨_,_,hk,h _ _ _ _ _ _ _ _ h1 h2 h3 h4⟩
 ·exact hk.elim
theorem Pz (l:List Int) (hl:1≤l.length∧l.length≤1000000):jM Tryz.prog 102 [.rsl 0 0 l.length] [.cells (.ints .i64 l) false] [.isl (.ints .i64 l) .none] [.cells (.ints .i64 l) false]:=by
 have tk:List.take (0+l.length-0) (List.drop 0 l)=l:=dA (by omega)
 refine bJ (md:=1) (rf:=[]) mixed ak aD 1 [] Tryz.func102 (by rfl) (by rfl) (by rfl) ?_
 repeat'((conv=>whnf);first|(intro hq;(try simp only[vw]at hq);try first|exact absurd hq (by decide)|exfalso;omega)|apply aI|with_reducible exact vM rfl|exact⟨⟩|apply nM|apply fM)
 all_goals((try apply vM);(try simp only[vq]at*);try omega)
 all_goals first|exact .inl trivial|(simp;omega)|(simp;done)|skip
def Sn:LSp:=fun xs objs K=>match xs,objs with
 | [.rsl 0 0 n],[.cells (.ints .i64 l) false]=>VC (n=l.length∧1≤l.length∧l.length≤1000000)∧K [.isl (.ints .i64 l) .none] [.cells (.ints .i64 l) false]
 |_,_=>False
theorem Yo:LOK Tryz.prog 102 Sn:=by
 intro xs objs K hk
 unfold Sn at hk
 split at hk
 ·obtain⟨⟨rfl,h⟩,hk⟩:=hk
  exact⟨_,_,hk,Pz _ h⟩
 ·exact hk.elim
noncomputable def abb:CPT:=aA 102 (eT [] Sn) (aA 155 (j6 MH) (aA 156 (aB Dm) noC))
theorem AQ:aY Tryz.prog abb:=aj (dI [] Yo) (aj (iq Yn) (aj (au I5) aD))
theorem PD:qC 0:=by
 intro c ls sum gv lim N U R h hlim hR hI
 have hgl:=h.gl
 have hNl:=hI.n.len
 have hc:=h.c1
 have hU:=gu hI.u
 have tk:List.take (gv.length-0) (List.drop 0 N)=N:=dA (by omega)
 have e0:((gv.length-0:Nat):Int)=gv.length:=by omega
 have hi:dz c ls sum gv∧FU c (List.take (gv.length-0) (List.drop 0 N))∧0≤((gv.length-0:Nat):Int)∧((gv.length-0:Nat):Int)≤16:=⟨h,by rw[tk];exact hI.n,by omega,by omega⟩
 have eR:∀b,jf ls sum (List.take (gv.length-0) (List.drop 0 N)) ((gv.length-0:Nat):Int)=b→jf ls sum N gv.length=b:=fun b hb=>by rwa [tk]at hb
 unfold jF
 by_cases hc1:lim≤R.length∨jf ls sum N gv.length=false
 ·rw[if_pos hc1]
  refine bJ (md:=1) (rf:=[]) mixed ak AQ 3 [] Tryz.func103 (by rfl) (by rfl) (by rfl) ?_
  repeat'((conv=>whnf);first|(intro hq;(try simp only[vw]at hq);try first|exact absurd hq (by decide)|exfalso;omega)|apply aI|with_reducible exact vM rfl|exact⟨⟩|apply nM|apply fM)
  all_goals((try apply vM);(try simp only[vq]at*);try omega)
  all_goals(try first|exact hi|(exfalso;rename_i hq;have:=eR _ hq;rw[this]at hc1;simp at hc1;omega))
  all_goals skip
 ·rw[if_neg hc1]
  refine bJ (md:=1) (rf:=[]) mixed ak AQ 3 [] Tryz.func103 (by rfl) (by rfl) (by rfl) ?_
  repeat'((conv=>whnf);first|(intro hq;(try simp only[vw]at hq);try first|exact absurd hq (by decide)|exfalso;omega)|apply aI|with_reducible exact vM rfl|exact⟨⟩|apply nM|apply fM)
  all_goals((try apply vM);(try simp only[vq]at*);try omega)
  all_goals(try first|exact hi|(rw[tk];omega)|omega|(exfalso;omega)|(exfalso;rename_i hq;exact hc1 (.inr (eR _ hq))))
  repeat'((conv=>whnf);first|(intro hq;(try simp only[vw]at hq);try first|exact absurd hq (by decide)|exfalso;omega)|apply aI|with_reducible exact vM rfl|exact⟨⟩|apply nM|apply fM)
  all_goals((try apply vM);(try simp only[vq]at*);try omega)
  all_goals(rw[List.length_append,List.length_cons,List.length_nil];try omega)
noncomputable def ac8 (f:Nat):CPT:=aA 103 (eT [] (Dw f)) abb
theorem vT {f:Nat} (h:qC f):aY Tryz.prog (ac8 f):=aj (dI [] (FX h)) AQ
theorem Sq {l:List Int} (h:InM l) {x:Int} (hx:0≤x∧x≤31):Ah (mk l) x=decide (x∈l):=by
 unfold Ah
 rw[Ou h hx]
 by_cases hm:x∈l<;>simp[hm]
theorem Sr {l:List Int} {x:Int} (h:x∉l):dM (l++[x]) x=l:=by
 unfold dM
 rw[List.filter_append,List.filter_eq_self.2 (fun y hy=>by simp;rintro rfl;exact h hy)]
 simp
theorem PE {f:Nat} (ih:qC f):qC (f+1):=by
 intro c ls sum gv lim N U R h hlim hR hI
 have hcp:=vT ih
 have hgl:=h.gl
 have hNl:=hI.n.len
 have hc:=h.c1
 have hU:=gu hI.u
 have hfl:=hI.fl
 have tk:List.take (gv.length-0) (List.drop 0 N)=N:=dA (by omega)
 have e0:((gv.length-(f+1):Nat):Int)+1=((gv.length-f:Nat):Int):=by omega
 obtain⟨i,hi0⟩:∃i,gv.length-(f+1)=i:=⟨_,rfl⟩
 have hii:i<gv.length:=by omega
 have hi:dz c ls sum gv∧FU c (List.take (gv.length-0) (List.drop 0 N))∧0≤(i:Int)∧(i:Int)≤16:=⟨h,by rw[tk];exact hI.n,by omega,by omega⟩
 have eR:∀b,jf ls sum (List.take (gv.length-0) (List.drop 0 N)) (i:Int)=b→jf ls sum N i=b:=fun b hb=>by rwa [tk]at hb
 have hI':SrI c gv f N U:=⟨hI.n,hI.u,by omega,fun j h1 h2 h3=>hI.z j (by omega) h2 h3⟩
 unfold jF
 rw[hi0]at e0⊢
 by_cases hc1:lim≤R.length∨jf ls sum N i=false
 ·rw[if_pos hc1]
  refine bJ (md:=1) (rf:=[]) mixed ak (vT ih) 3 [] Tryz.func103 (by rfl) (by rfl) (by rfl) ?_
  repeat'((conv=>whnf);first|(intro hq;(try simp only[vw]at hq);try first|exact absurd hq (by decide)|exfalso;omega)|apply aI|with_reducible exact vM rfl|exact⟨⟩|apply nM|apply fM)
  all_goals((try apply vM);(try simp only[vq]at*);try omega)
  all_goals(try first|exact hi|(exfalso;omega)|(exfalso;have:=eR true (by assumption);rw[this]at hc1;simp at hc1;omega))
  all_goals skip
 rw[if_neg hc1]
 by_cases hg:0<gv.getD i 0
 ·rw[if_pos hg]
  refine bJ (md:=1) (rf:=[]) mixed ak (vT ih) 3 [] Tryz.func103 (by rfl) (by rfl) (by rfl) ?_
  repeat'((conv=>whnf);first|apply Exists.intro (U)|(intro hq;(try simp only[vw]at hq);try first|exact absurd hq (by decide)|exfalso;omega)|apply aI|with_reducible exact vM rfl|exact⟨⟩|apply nM|apply fM)
  all_goals((try apply vM);(try simp only[vq]at*);try omega)
  all_goals(try first|exact hi|(exfalso;omega)|(exfalso;rename_i hq;exact hc1 (.inr (eR _ hq)))|exact⟨rfl,rfl,rfl,e0,h,hlim,hR,hI'⟩|exact⟨e0,h,hlim,hR,hI'⟩|(exfalso;exact hq hg))
 rw[if_neg hg]
 refine bJ (md:=1) (rf:=[]) mixed ak (vT ih) 3 [] Tryz.func103 (by rfl) (by rfl) (by rfl) ?_
 repeat'((conv=>whnf);first|(intro hq;(try simp only[vw]at hq);try first|exact absurd hq (by decide)|exfalso;omega)|apply aI|with_reducible exact vM rfl|exact⟨⟩|apply nM|apply fM)
 all_goals((try apply vM);(try simp only[vq]at*);try omega)
 all_goals(try first|exact hi|(exfalso;omega)|(exfalso;rename_i hq;exact hc1 (.inr (eR _ hq)))|(exfalso;exact hg hq))
 conv=>whnf
 have hz:=hI.z i (by omega) hii (by have:=h.gr _ (eO (d:=0) hii);omega)
 have hs0:∀v:Int,(N.set i v).set i 0=N:=fun v=>by
  rw[List.set_set]
  refine List.ext_getElem (by simp) fun j h1 h2=>?_
  rw[List.getElem_set]
  split
  ·rename_i e;subst e
   rw[List.getD_eq_getElem?_getD,List.getElem?_eq_getElem (by omega)]at hz
   exact hz.symm
  ·rfl
 obtain⟨F,hF⟩:∃F:List (List Int)→Nat→List (List Int),F=fun R (x:Nat)=>if((x:Int)+1)∈U then R else jF lim ls sum gv f R (N.set i ((x:Int)+1)) (U++[(x:Int)+1]):=⟨_,rfl⟩
 have hFs:∀x,(List.range (x+1)).foldl F R=F ((List.range x).foldl F R) x:=fun x=>by rw[List.range_succ,List.foldl_append];rfl
 have hFl:∀x,((List.range x).foldl F R).length≤256:=fun x=>FV _ _ hR fun R x hR=>by
  rw[hF];simp only
  split
  ·exact hR
  ·exact FW (by omega) _ _ _ _ hR
 rw[←hF]
 refine aM (X:=Nat) (fun x=>x≤gv.length) (fun x=>[(4,.int .i64 ((x:Int)+1))]) (fun x=>[(0,.cells (srC c ls sum gv lim (.rsl 1 0 gv.length) ((mk U:Nat):Int) (.isl (.rows .i64 ((List.range x).foldl F R)) (.own 2))) false),(2,.tok 1 ((List.range x).foldl F R).length)]) (fun x=>gv.length-x) 0 ⟨aK,mixed,ak,hcp,aQ⟩ (by rfl) (by omega) ?_ ?_
 ·repeat'((conv=>whnf);first|intro _|apply aI|with_reducible exact vM rfl|exact⟨⟩|apply nM|apply fM)
  all_goals((try apply vM);(try simp only[vq]at*);try omega)
  all_goals skip
 intro x hx
 by_cases hlt:x<gv.length
 ·have hx31:0≤(x:Int)+1∧(x:Int)+1≤31:=by omega
  have hhas:=Sq hI.u hx31
  have hRx:=hFl x
  have hFx:=hFs x
  by_cases hm:((x:Int)+1)∈U
  ·rw[decide_eq_true hm]at hhas
   have hstep:F ((List.range x).foldl F R) x=(List.range x).foldl F R:=by rw[hF];exact if_pos hm
   rw[hstep]at hFx
   repeat'((conv=>whnf);first|apply Exists.intro (U)|(intro hq;(try simp only[vw]at hq);try first|exact absurd hq (by decide)|exfalso;omega)|apply aI|with_reducible exact vM rfl|exact⟨⟩|apply nM|apply fM)
   all_goals((try apply vM);(try simp only[vq]at*);try omega)
   all_goals(try(exfalso;rw[hhas]at hq;cases hq;done))
   refine⟨x+1,[],⟨by omega,by omega⟩,?_⟩
   rw[hFx]
   repeat'((conv=>whnf);first|intro _|apply aI|with_reducible exact vM rfl|exact⟨⟩|apply nM|apply fM)
   all_goals((try apply vM);(try simp only[vq]at*);try omega)
   all_goals skip
  ·rw[decide_eq_false hm]at hhas
   have hstep:F ((List.range x).foldl F R) x=jF lim ls sum gv f ((List.range x).foldl F R) (N.set i ((x:Int)+1)) (U++[(x:Int)+1]):=by rw[hF];exact if_neg hm
   rw[hstep]at hFx
   have hor:=Li hI.u hx31
   have hU1:InM (U++[(x:Int)+1]):=fun y hy=>by
    rcases List.mem_append.1 hy with h|h
    ·exact hI.u y h
    ·simp at h;subst h;exact hx31
   have hdel:=qw hU1 hx31
   rw[Sr hm]at hdel
   have hU1l:=gu hU1
   have hI1:SrI c gv f (N.set i ((x:Int)+1)) (U++[(x:Int)+1]):=by
    refine⟨⟨by rw[List.length_set];exact hNl,fun y hy=>?_⟩,hU1,by omega,fun j h1 h2 h3=>?_⟩
    ·rcases List.mem_or_eq_of_mem_set hy with h|rfl
     ·exact hI.n.rng y h
     ·omega
    ·have:=hI.z j (by omega) h2 h3
     rw[List.getD_eq_getElem?_getD,List.getElem?_set_ne (by omega),←List.getD_eq_getElem?_getD];exact this
   have hsb:=kr ((x:Int)+1).toNat (by omega)
   have hR2:=FW (lim:=lim) (ls:=ls) (sum:=sum) (gv:=gv) (b:=256) (by omega) f _ (N.set i ((x:Int)+1)) (U++[(x:Int)+1]) hRx
   obtain⟨U1,hU1e⟩:∃U1,U1=U++[(x:Int)+1]:=⟨_,rfl⟩
   rw[←hU1e]at hor hU1 hdel hU1l hI1 hR2 hFx
   repeat'((conv=>whnf);first|apply Exists.intro (U1)|(intro hq;(try simp only[vw]at hq);try first|exact absurd hq (by decide)|exfalso;omega)|apply aI|with_reducible exact vM rfl|exact⟨⟩|apply nM|apply fM)
   all_goals((try apply vM);(try simp only[vq]at*);try omega)
   all_goals(try(exfalso;rw[hhas]at hq;cases hq;done))
   all_goals(try first|exact⟨hor,e0,h,hlim,hRx,hI1⟩|(rw[List.length_set];omega))
   refine⟨x+1,[],⟨by omega,by omega⟩,?_⟩
   rw[hFx]
   have hs1:=hs0 ((x:Int)+1)
   repeat'((conv=>whnf);first|intro _|apply aI|with_reducible exact vM rfl|exact⟨⟩|apply nM|apply fM)
   all_goals((try apply vM);(try simp only[vq]at*);try omega)
   all_goals first|exact hdel|exact hs1|skip
 ·have e:x=gv.length:=by omega
  subst e
  repeat'((conv=>whnf);first|(intro hq;(try simp only[vw]at hq);try first|exact absurd hq (by decide)|exfalso;omega)|apply aI|with_reducible exact vM rfl|exact⟨⟩|apply nM|apply fM)
  all_goals((try apply vM);(try simp only[vq]at*);try omega)
  all_goals skip
theorem Sv:∀f,qC f:=fun f=>by
 induction f with
 |zero=>exact PD
 |succ f ih=>exact PE ih
def zeN (l:List Int):Nat:=(l.filter fun x=>decide (x=0)).length
theorem Yp (l:List Int) (x:Int):zeN (l++[x])=if x=0 then zeN l+1 else zeN l:=by
 unfold zeN
 rw[List.filter_append,List.length_append]
 by_cases h:x=0
 ·subst h;rfl
 ·rw[if_neg h,List.filter_cons,if_neg (by simpa using h)];rfl
theorem abd (l:List Int):zeN l≤l.length:=List.length_filter_le _ _
def jg (lim:Int):Int:=if lim<0∨256<lim then 3 else 0
def fP (c:Int) (ls:List (List Int)) (sum:Int) (gv:List Int) (lim:Int):List (List Int) × Int:=
 if aJ [pzE c ls sum gv,jg lim]≠0 then([],aJ [pzE c ls sum gv,jg lim])else if 9<zeN gv then([],20)else(jF lim ls sum gv gv.length [] gv gv,0)
noncomputable def ac9 (n:Nat):CPT:=aA 22 (aB mM) (aA 88 (aB jP) (aA 89 (aB gq) (aA 102 (eT [] MI) (aA 103 (eT [] (Dw n)) noC))))
theorem Yq (n:Nat):aY Tryz.prog (ac9 n):=aj (au lX) (aj (au jD) (aj (au jC) (aj (dI [] Jy) (aj (dI [] (FX (Sv n))) aD))))
theorem PG (e:Int):Sup (bF [PV.nils,PV.int .i64 e]) (.tup [.isl (.rows .i64 []) .none,.int .i64 e]):=by all_goals(refine Sup.via ?_;repeat'((conv=>whnf);first|intro _|apply aI|with_reducible exact vM rfl|exact⟨⟩|apply nM|apply fM);all_goals((try apply vM);(try simp only[vq]at*);try omega);all_goals(try(simp[CL.sub];done)))
theorem qD (c:Int) (ls:List (List Int)) (sum:Int) (gv:List Int) (lim:Int) (h:bT ls) (hg:gv.length≤5000):aG Tryz.prog 39 [pzV c ls sum gv,.int .i64 lim] (.tup [.isl (.rows .i64 (fP c ls sum gv lim).1) .none,.int .i64 (fP c ls sum gv lim).2]):=by
 have hcp:=Yq gv.length
 have hA:lim<0→3=jg lim:=fun hl=>by unfold jg;rw[if_pos (.inl hl)]
 have hB:¬lim<0→(if 256<lim then 3 else 0)=jg lim:=fun hl=>by
  unfold jg
  by_cases h2:256<lim
  ·rw[if_pos h2,if_pos (.inr h2)]
  ·rw[if_neg h2,if_neg (by omega)]
 unfold fP
 by_cases he:aJ [pzE c ls sum gv,jg lim]=0
 case neg=>
  rw[if_pos he]
  have hk:∀x,x=jg lim→Sup (bF [PV.nils,PV.int .i64 (aJ [pzE c ls sum gv,x])]) (.tup [.isl (.rows .i64 []) .none,.int .i64 (aJ [pzE c ls sum gv,jg lim])]):=fun x hx=>by rw[hx];exact PG _
  have hk2:∀x,x=jg lim→aJ [pzE c ls sum gv,x]≠0:=fun x hx=>by rw[hx];exact he
  refine cB (md:=1) (rf:=[]) mixed ak hcp Tryz.func39 (by rfl) (by rfl) (by rfl) ?_
  repeat'((conv=>whnf);first|(intro hq;(try simp only[vw]at hq);try first|exact absurd hq (by decide)|exfalso;omega)|apply aI|with_reducible exact vM rfl|exact⟨⟩|apply nM|apply fM)
  all_goals((try apply vM);(try simp only[vq]at*);try omega)
  all_goals first|exact⟨h,hg⟩|exact hk _ (hB (by omega))|(rw[if_pos trivial];exact hk _ (hA (by omega)))|exact hk _ (hA (by omega))|(exfalso;exact ‹¬aJ [_,if 256<lim then 3 else 0]≠0› (hk2 _ (hB (by omega))))|(exfalso;exact ‹¬aJ [_,3]≠0› (hk2 _ (hA (by omega))))|skip
 rw[if_neg (by rw[he];simp)]
 obtain⟨h1,h2⟩:=FR he
 have hp:=dz.of h1
 have hgl:=hp.gl
 have hc:=hp.c1
 have hl:0≤lim∧lim≤256:=by
  unfold jg at h2
  by_cases e:lim<0∨256<lim
  ·rw[if_pos e]at h2;cases h2
  ·omega
 have hk2:∀x,x=jg lim→aJ [pzE c ls sum gv,x]=0:=fun x hx=>by rw[hx];exact he
 refine cB (md:=1) (rf:=[]) mixed ak hcp Tryz.func39 (by rfl) (by rfl) (by rfl) ?_
 repeat'((conv=>whnf);first|(intro hq;(try simp only[vw]at hq);try first|exact absurd hq (by decide)|exfalso;omega)|apply aI|with_reducible exact vM rfl|exact⟨⟩|apply nM|apply fM)
 all_goals((try apply vM);(try simp only[vq]at*);try omega)
 all_goals(try first|exact⟨h,hg⟩|(exfalso;omega)|(exfalso;exact ‹aJ [_,_]≠0› (hk2 _ (by unfold jg;(repeat' split)<;>first|rfl|(exfalso;omega)|(exfalso;exact absurd trivial ‹¬True›)))))
 conv=>whnf
 refine aM (X:=Nat) (fun k=>k≤gv.length) (fun k=>[(30,.int .i64 k),(7,.int .i64 (zeN (gv.take k):Nat))]) (fun k=>[]) (fun k=>gv.length-k) 0 ⟨aK,mixed,ak,hcp,aQ⟩ (by rfl) (by omega) ?_ ?_
 ·repeat'((conv=>whnf);first|intro _|apply aI|with_reducible exact vM rfl|exact⟨⟩|apply nM|apply fM)
  all_goals((try apply vM);(try simp only[vq]at*);try omega)
  all_goals skip
 intro k hk
 have hzl:=abd (gv.take k)
 rw[List.length_take]at hzl
 by_cases hlt:k<gv.length
 ·have hza:zeN (gv.take (k+1))=if gv.getD k 0=0 then zeN (gv.take k)+1 else zeN (gv.take k):=by rw[cZ hlt,Yp]
  repeat'((conv=>whnf);first|(intro hq;(try simp only[vw]at hq);try first|exact absurd hq (by decide)|exfalso;omega)|apply aI|with_reducible exact vM rfl|exact⟨⟩|apply nM|apply fM)
  all_goals((try apply vM);(try simp only[vq]at*);try omega)
  all_goals(try omega)
  ·refine⟨k+1,[],⟨by omega,by omega⟩,?_⟩
   rw[hza,if_pos ‹gv.getD k 0=0›]
   repeat'((conv=>whnf);first|intro _|apply aI|with_reducible exact vM rfl|exact⟨⟩|apply nM|apply fM)
   all_goals((try apply vM);(try simp only[vq]at*);try omega)
   all_goals skip
  ·refine⟨k+1,[],⟨by omega,by omega⟩,?_⟩
   rw[hza,if_neg ‹¬gv.getD k 0=0›]
   repeat'((conv=>whnf);first|intro _|apply aI|with_reducible exact vM rfl|exact⟨⟩|apply nM|apply fM)
   all_goals((try apply vM);(try simp only[vq]at*);try omega)
   all_goals skip
 have e:k=gv.length:=by omega
 subst e
 rw[List.take_length]at*
 by_cases hz9:9<zeN gv
 ·rw[if_pos hz9]
  repeat'((conv=>whnf);first|(intro hq;(try simp only[vw]at hq);try first|exact absurd hq (by decide)|exfalso;omega)|apply aI|with_reducible exact vM rfl|exact⟨⟩|apply nM|apply fM)
  all_goals((try apply vM);(try simp only[vq]at*);try omega)
  all_goals first|exact PG _|(exfalso;omega)|skip
 rw[if_neg hz9]
 repeat'((conv=>whnf);first|(intro hq;(try simp only[vw]at hq);try first|exact absurd hq (by decide)|exfalso;omega)|apply aI|with_reducible exact vM rfl|exact⟨⟩|apply nM|apply fM)
 all_goals((try apply vM);(try simp only[vq]at*);try omega)
 all_goals(try omega)
 conv=>whnf
 refine aM (X:=Nat) (fun k=>k≤gv.length) (fun k=>[(51,.int .i64 k)]) (fun k=>[(18,.cells (srC c ls sum gv lim (.rsl 14 0 gv.length) ((mk (gv.take k):Nat):Int) (.isl (.rows .i64 []) (.own 22))) false),(22,.tok 1 0)]) (fun k=>gv.length-k) 0 ⟨aK,mixed,ak,hcp,aQ⟩ (by rfl) (by omega) ?_ ?_
 ·repeat'((conv=>whnf);first|intro _|apply aI|with_reducible exact vM rfl|exact⟨⟩|apply nM|apply fM)
  all_goals((try apply vM);(try simp only[vq]at*);try omega)
  all_goals first|rfl|skip
 intro k hk
 have hInM:∀j,InM (gv.take j):=fun j y hy=>by have:=hp.gr y (List.mem_of_mem_take hy);omega
 have hmk:=gu (hInM k)
 by_cases hlt:k<gv.length
 ·have hx:=hp.gr (gv.getD k 0) (eO hlt)
  have hsb:=kr (gv.getD k 0).toNat (by omega)
  have hor:=Li (hInM k) (show 0≤gv.getD k 0∧gv.getD k 0≤31 by omega)
  rw[←cZ hlt]at hor
  repeat'((conv=>whnf);first|(intro hq;(try simp only[vw]at hq);try first|exact absurd hq (by decide)|exfalso;omega)|apply aI|with_reducible exact vM rfl|exact⟨⟩|apply nM|apply fM)
  all_goals((try apply vM);(try simp only[vq]at*);try omega)
  all_goals(try omega)
  refine⟨k+1,[],⟨by omega,by omega⟩,?_⟩
  repeat'((conv=>whnf);first|intro _|apply aI|with_reducible exact vM rfl|exact⟨⟩|apply nM|apply fM)
  all_goals((try apply vM);(try simp only[vq]at*);try omega)
  all_goals exact hor
 have e:k=gv.length:=by omega
 subst e
 rw[List.take_length]at*
 have e0:(0:Int)=((gv.length-gv.length:Nat):Int):=by omega
 have hI:SrI c gv gv.length gv gv:=⟨⟨by omega,fun x hx=>by have:=hp.gr x hx;omega⟩,fun x hx=>by have:=hp.gr x hx;omega,Nat.le_refl _,fun j _ _ h=>h⟩
 repeat'((conv=>whnf);first|apply Exists.intro (gv)|(intro hq;(try simp only[vw]at hq);try first|exact absurd hq (by decide)|exfalso;omega)|apply aI|with_reducible exact vM rfl|exact⟨⟩|apply nM|apply fM)
 all_goals((try apply vM);(try simp only[vq]at*);try omega)
 ·exact⟨e0,hp,hl.2,by omega,hI⟩
 ·exact Sup.of rfl
def abe (C1 C2:CT):CT:=fun args n H K=>∃b:Bool,match b with
 |true=>C1 args n H K
 |false=>C2 args n H K
theorem Yr {P:Program} {g:FuncId} {C1 C2:CT} (h1:COK P g C1) (h2:COK P g C2):COK P g (abe C1 C2):=by
 intro args n H K hk
 obtain⟨b,hk⟩:=hk
 cases b with
 |true=>exact h1 _ _ _ _ hk
 |false=>exact h2 _ _ _ _ hk
noncomputable def ada:CPT:=aA 102 (abe (eT [] MI) (aB Sm)) noC
theorem Jz:aY Tryz.prog ada:=aj (Yr (dI [] Jy) (au aa9)) aD
theorem Ia (c:Int) (ls:List (List Int)) (sum:Int) (gv:List Int) (hg:1≤gv.length∧gv.length≤1000000) (hl:ls.length≤5000) (hn:∀i,i<ls.length→1≤(ls.getD i []).length∧(ls.getD i []).length≤5000):
 jM Tryz.prog 124 [pzV c ls sum gv] [] [.agg [.int .i64 c,.isl (.rows .i64 ls) .none,.int .i64 sum,.rsl 0 0 gv.length]] [.cells (.ints .i64 gv) false]:=by
 refine bJ (md:=1) (rf:=[]) mixed ak Jz 0 [(2,0)] Tryz.func124 (by rfl) (by rfl) (by rfl) ?_
 repeat'((conv=>whnf);first|apply Exists.intro (true)|(intro hq;(try simp only[vw]at hq);try first|exact absurd hq (by decide)|exfalso;omega)|apply aI|with_reducible exact vM rfl|exact⟨⟩|apply nM|apply fM)
 all_goals((try apply vM);(try simp only[vq]at*);try omega)
 conv=>whnf
 refine aM (X:=Nat) (fun k=>k≤ls.length) (fun k=>[(20,.int .i64 k)]) (fun k=>[(6,.cells (.pv [.int .i64 c,.isl (.rows .i64 (ls.take k)) (.own 12),.int .i64 sum,.rsl 2 0 gv.length]) false),(12,.tok 1 k)]) (fun k=>ls.length-k) 0 ⟨aK,mixed,ak,Jz,aQ⟩ (by rfl) (by omega) ?_ ?_
 ·repeat'((conv=>whnf);first|intro _|apply aI|with_reducible exact vM rfl|exact⟨⟩|apply nM|apply fM)
  all_goals((try apply vM);(try simp only[vq]at*);try omega)
  all_goals skip
 intro k hk
 by_cases hlt:k<ls.length
 ·have hl1:=hn k hlt
  have e1:(ls.take k).length=k:=by rw[List.length_take];omega
  have e2:ls.take k++[ls.getD k []]=ls.take (k+1):=by
   rw[List.take_add_one,List.getD_eq_getElem?_getD,List.getElem?_eq_getElem hlt];rfl
  repeat'((conv=>whnf);first|apply Exists.intro (false)|(intro hq;(try simp only[vw]at hq);try first|exact absurd hq (by decide)|exfalso;omega)|apply aI|with_reducible exact vM rfl|exact⟨⟩|apply nM|apply fM)
  all_goals((try apply vM);(try simp only[vq]at*);try omega)
  all_goals(try(simp only[List.length_append,List.length_take,List.length_cons,List.length_nil];omega))
  all_goals(try omega)
  refine⟨k+1,[],⟨by omega,by omega⟩,?_⟩
  repeat'((conv=>whnf);first|intro _|apply aI|with_reducible exact vM rfl|exact⟨⟩|apply nM|apply fM)
  all_goals((try apply vM);(try simp only[vq]at*);try omega)
  all_goals(try(rw[e2]))
 ·have e:k=ls.length:=by omega
  subst e
  rw[List.take_length]
  repeat'((conv=>whnf);first|(intro hq;(try simp only[vw]at hq);try first|exact absurd hq (by decide)|exfalso;omega)|apply aI|with_reducible exact vM rfl|exact⟨⟩|apply nM|apply fM)
  all_goals((try apply vM);(try simp only[vq]at*);try omega)
  all_goals skip
theorem PI (L0:List Int) (hl:L0.length≤1000000):l8 Tryz.prog 231 [] [.ip (.pv [.isl (.ints .i64 L0) .none]) 0] 1 (L0.map (PV.int .i64)):=by
 refine kH (md:=1) (rf:=[]) mixed ak Tryz.func231 (by rfl) (by rfl) (by rfl) fun G go b hY=>⟨_,aD,?_⟩
 obtain⟨L,hL⟩:∃L,L=L0.map (PV.int .i64):=⟨_,rfl⟩
 have hlen:L.length=L0.length:=by simp[hL]
 have hget:∀i,i<L0.length→L[i]? =some (.int .i64 (L0.getD i 0)):=fun i hi=>by simp[hL,hi]
 rw[←hL]at hY⊢
 have W:Walk Tryz.prog none jS tab.get noC (rE b 1 G go L):=⟨aK,mixed,ak,aD,hY _ _⟩
 have stop:∀i,i<L0.length→GoTo go L i→go (L.take i++[.int .i64 (L0.getD i 0)])=false→L.take i++[.int .i64 (L0.getD i 0)]=gT go [] L:=fun i hi hg h=>by
  rw[dR (hget i hi)]at h⊢
  rw[uf (by omega) hg h]
 have cont:∀i,i<L0.length→GoTo go L i→go (L.take i++[.int .i64 (L0.getD i 0)])=true→GoTo go L (i+1):=fun i hi hg h=>hg.succ (by rw[←dR (hget i hi)];exact h)
 have done:GoTo go L L0.length→L.take L0.length=gT go [] L:=fun hg=>by rw[w9 (by omega) hg,←hlen];simp
 repeat'((conv=>whnf);first|intro _|apply aI|with_reducible exact vM rfl|exact⟨⟩|apply nM|apply fM)
 all_goals((try apply vM);(try simp only[vq]at*);try omega)
 conv=>whnf
 refine aM (X:=Nat) (fun k=>k≤L0.length∧GoTo go L k) (fun k=>[(7,.int .i64 k),(4,.any)]) (fun k=>[(0,.ext G (L.take k))]) (fun k=>L0.length-k) 0 W (by rfl) ⟨by omega,.zero⟩ ?_ ?_
 ·repeat'((conv=>whnf);first|intro _|apply aI|with_reducible exact vM rfl|exact⟨⟩|apply nM|apply fM)
  all_goals((try apply vM);(try simp only[vq]at*);try omega)
  all_goals simp
 intro k hk
 obtain⟨hk1,hk3⟩:=hk
 by_cases hlt:k<L0.length
 ·repeat'((conv=>whnf);first|intro _|apply aI|with_reducible exact vM rfl|exact⟨⟩|apply nM|apply fM)
  all_goals((try apply vM);(try simp only[vq]at*);try omega)
  ·exact Oi (hget k hlt) hk3
  ·exact stop k hlt hk3 (by simp_all)
  ·rename_i hgo
   refine⟨k+1,[],⟨⟨by omega,cont k hlt hk3 (by simpa using hgo)⟩,by omega⟩,?_⟩
   repeat'((conv=>whnf);first|intro _|apply aI|with_reducible exact vM rfl|exact⟨⟩|apply nM|apply fM)
   all_goals((try apply vM);(try simp only[vq]at*);try omega)
   exact dR (hget k hlt)
 ·have:L0.length=k:=by omega
  subst this
  repeat'((conv=>whnf);first|intro _|apply aI|with_reducible exact vM rfl|exact⟨⟩|apply nM|apply fM)
  all_goals((try apply vM);(try simp only[vq]at*);try omega)
  exact done hk3
def hsA (L:List Int):Nat→List (Nat × AO)
 |0=>[]
 |i+1=>[(0,.cells (.pv [.rsl 5 0 (i+1)]) false),(5,.cells (.ints .i64 (L.take (i+1))) false)]
theorem AU (L:List Int) (hl:1≤L.length∧L.length≤1000000):jM Tryz.prog 188 [.nils,.fn (.func 231) [] [.ip (.pv [.isl (.ints .i64 L) .none]) 0]] [] [.rsl 0 0 L.length] [.cells (.ints .i64 L) false]:=by
 refine bJ (md:=1) (rf:=[11]) mixed ak aD 0 [(5,0)] Tryz.func188 (by rfl) (by rfl) (by rfl) ?_
 repeat'((conv=>whnf);first|intro _|apply aI|with_reducible exact vM rfl|exact⟨⟩|apply nM|apply fM)
 all_goals((try apply vM);(try simp only[vq]at*);try omega)
 conv=>whnf
 refine iG aK mixed ak aD (fun r=>aQ) (fs:=[]) (cs:=[.ip (.pv [.isl (.ints .i64 L) .none]) 0]) (L.map (PV.int .i64)) (fun _=>true) (hsA L) (by rfl) (by rfl) (by rfl) (PI L hl.2) (by rfl) (by rfl) (by rfl) (by rfl) ?_ ?_ ?_
 ·repeat'((conv=>whnf);first|intro _|apply aI|with_reducible exact vM rfl|exact⟨⟩|apply nM|apply fM)
  all_goals((try apply vM);(try simp only[vq]at*);try omega)
 ·intro hall
  obtain⟨m,hm⟩:∃m,L.length=m+1:=⟨L.length-1,by omega⟩
  have ht:L.take (m+1)=L:=by rw[←hm,List.take_length]
  rw[List.length_map,hm]
  repeat'((conv=>whnf);first|intro _|apply aI|with_reducible exact vM rfl|exact⟨⟩|apply nM|apply fM)
  all_goals((try apply vM);(try simp only[vq]at*);try omega)
  all_goals(try rw[ht])
 ·intro i x hx hall lp
  have hx':i<L.length∧x=.int .i64 (L.getD i 0):=by
   rw[List.getElem?_map]at hx
   cases h:L[i]? with
   |none=>rw[h]at hx;cases hx
   |some y=>
    rw[h]at hx;cases hx
    have:=(List.getElem?_eq_some_iff.1 h).1
    exact⟨this,by rw[List.getD_eq_getElem?_getD,h];rfl⟩
  obtain⟨hi,rfl⟩:=hx'
  cases i with
  |zero=>
   have e1:[L.getD 0 0]=L.take 1:=by
    cases L with
    |nil=>simp at hi
    |cons a r=>rfl
   repeat'((conv=>whnf);first|intro _|apply aI|with_reducible exact vM rfl|exact⟨⟩|apply nM|apply fM)
   all_goals((try apply vM);(try simp only[vq]at*);try omega)
   refine⟨[(2,5)],?_⟩
   repeat'((conv=>whnf);first|intro _|apply aI|with_reducible exact vM rfl|exact⟨⟩|apply nM|apply fM)
   all_goals((try apply vM);(try simp only[vq]at*);try omega)
   all_goals(try(rw[e1]))
  |succ i=>
   have e1:(L.take (i+1)).length=i+1:=by rw[List.length_take];omega
   have e2:List.take (i+1-0) (List.drop 0 (List.take (i+1) L))++[L.getD (i+1) 0]=L.take (i+1+1):=by
    rw[List.drop_zero,Nat.sub_zero,List.take_take,Nat.min_self,List.take_add_one (i:=i+1),List.getD_eq_getElem?_getD,List.getElem?_eq_getElem hi];rfl
   repeat'((conv=>whnf);first|intro _|apply aI|with_reducible exact vM rfl|exact⟨⟩|apply nM|apply fM)
   all_goals((try apply vM);(try simp only[vq]at*);try omega)
   all_goals(try(rw[List.length_take];omega))
   refine⟨[(2,5)],?_⟩
   repeat'((conv=>whnf);first|intro _|apply aI|with_reducible exact vM rfl|exact⟨⟩|apply nM|apply fM)
   all_goals((try apply vM);(try simp only[vq]at*);try omega)
   all_goals(try(rw[e2]))
def MJ:LSp:=fun xs objs K=>match xs,objs with
 | [.nils,.fn (.func f) [] [.ip (.pv [.isl (.ints .i64 L) .none]) 0]],[]=>VC (f=231∧1≤L.length∧L.length≤1000000)∧K [.rsl 0 0 L.length] [.cells (.ints .i64 L) false]
 |_,_=>False
theorem Yt:LOK Tryz.prog 188 MJ:=by
 intro xs objs K hk
 unfold MJ at hk
 split at hk
 ·obtain⟨⟨rfl,h⟩,hk⟩:=hk
  exact⟨_,_,hk,AU _ h⟩
 ·exact hk.elim
def FY:LSp:=fun xs objs K=>match xs,objs with
 | [.fn (.func f) [] [.ip (.pv [.isl (.ints .i64 L) .none]) 0]],[]=>VC (f=231∧1≤L.length∧L.length≤1000000)∧K [.rsl 0 0 L.length] [.cells (.ints .i64 L) false]
 |_,_=>False
noncomputable def adb:CPT:=aA 188 (eT [] MJ) noC
theorem Yu:aY Tryz.prog adb:=aj (dI [] Yt) aD
theorem FZ (L:List Int) (hl:1≤L.length∧L.length≤1000000):jM Tryz.prog 148 [.fn (.func 231) [] [.ip (.pv [.isl (.ints .i64 L) .none]) 0]] [] [.rsl 0 0 L.length] [.cells (.ints .i64 L) false]:=by
 refine bJ (md:=1) (rf:=[]) mixed ak Yu 0 [(0,0)] Tryz.func148 (by rfl) (by rfl) (by rfl) ?_
 repeat'((conv=>whnf);first|intro _|apply aI|with_reducible exact vM rfl|exact⟨⟩|apply nM|apply fM)
 all_goals((try apply vM);(try simp only[vq]at*);try omega)
 all_goals trace_state
theorem Sw:LOK Tryz.prog 148 FY:=by
 intro xs objs K hk
 unfold FY at hk
 split at hk
 ·obtain⟨⟨rfl,h⟩,hk⟩:=hk
  exact⟨_,_,hk,FZ _ h⟩
 ·exact hk.elim
theorem Yv:COK Tryz.prog 219 y7:=NZ (enters' Tryz.func219 (by rfl) (by rfl)) Go.Proofs.Tryz.slices_Sort_int
noncomputable def ade:CPT:=aA 148 (eT [] FY) (aA 219 y7 noC)
theorem Yw:aY Tryz.prog ade:=aj (dI [] Sw) (aj Yv aD)
theorem Ib (L:List Int) (hl:1≤L.length∧L.length≤1000000):aG Tryz.prog 204 [.fn (.func 231) [] [.ip (.pv [.isl (.ints .i64 L) .none]) 0]] (.isl (.ints .i64 (dV L)) .none):=by
 have e:=jv L
 refine av (md:=1) (rf:=[]) mixed ak Yw Tryz.func204 (by rfl) (by rfl) (by rfl) ?_
 repeat'((conv=>whnf);first|intro _|apply aI|with_reducible exact vM rfl|exact⟨⟩|apply nM|apply fM)
 all_goals((try apply vM);(try simp only[vq]at*);try omega)
 all_goals(refine Sup.via ?_;repeat'((conv=>whnf);first|intro _|apply aI|with_reducible exact vM rfl|exact⟨⟩|apply nM|apply fM);all_goals((try apply vM);(try simp only[vq]at*);try omega);all_goals(try(simp[CL.sub];done)))
 all_goals(simp only[CL.sub,List.drop_zero,Nat.sub_zero];rw[List.take_of_length_le (by omega)])
def AV:PSp:=fun xs K=>match xs with
 | [.fn (.func f) [] [.ip (.pv [.isl (.ints .i64 L) .none]) 0]]=>VC (f=231∧1≤L.length∧L.length≤1000000)∧K (.isl (.ints .i64 (dV L)) .none)
 |_=>False
theorem PK:POK Tryz.prog 204 AV:=by
 intro xs K hk
 unfold AV at hk
 split at hk
 ·obtain⟨⟨rfl,h⟩,hk⟩:=hk
  exact⟨_,hk,Ib _ h⟩
 ·exact hk.elim
theorem Ic (l:CL):aG Tryz.prog 205 [.isl l .none] (.fn (.func 231) [] [.ip (.pv [.isl l .none]) 0]):=by
 refine av (md:=1) (rf:=[]) mixed ak aD Tryz.func205 (by rfl) (by rfl) (by rfl) ?_
 repeat'((conv=>whnf);first|intro _|apply aI|with_reducible exact vM rfl|exact⟨⟩|apply nM|apply fM)
 all_goals((try apply vM);(try simp only[vq]at*);try omega)
 all_goals exact Sup.of rfl
def AX:PSp:=fun xs K=>match xs with
 | [.isl c .none]=>K (.fn (.func 231) [] [.ip (.pv [.isl c .none]) 0])
 |_=>False
theorem PL:POK Tryz.prog 205 AX:=by
 intro xs K hk
 unfold AX at hk
 split at hk
 ·exact⟨_,hk,Ic _⟩
 ·exact hk.elim
def kY (l:List Int):Bool:=(List.range l.length).all fun i=>decide ((dV l).getD i 0=(i:Int)+1)
theorem Ce {l:List Int} (h:∀i,i<l.length→(dV l).getD i 0=(i:Int)+1):kY l=true:=List.all_eq_true.2 fun i hi=>by simpa using h i (by simpa using hi)
theorem MK {l:List Int} {i:Nat} (hi:i<l.length) (hh:(dV l).getD i 0≠(i:Int)+1):kY l=false:=by
 refine Bool.eq_false_iff.2 fun e=>hh ?_
 simpa using List.all_eq_true.1 e i (by simpa using hi)
noncomputable def adf:CPT:=aA 204 (aB AV) (aA 205 (aB AX) noC)
theorem JA:aY Tryz.prog adf:=aj (au PK) (aj (au PL) aD)
theorem MN (l:List Int) (hl:1≤l.length∧l.length≤1000000):aG Tryz.prog 167 [.isl (.ints .i64 l) .none] (.bp (kY l)):=by
 have e:=jv l
 refine av (md:=1) (rf:=[]) mixed ak JA Tryz.func167 (by rfl) (by rfl) (by rfl) ?_
 repeat'((conv=>whnf);first|intro _|apply aI|with_reducible exact vM rfl|exact⟨⟩|apply nM|apply fM)
 all_goals((try apply vM);(try simp only[vq]at*);try omega)
 conv=>whnf
 refine aM (X:=Nat) (fun i=>i≤l.length∧∀j,j<i→(dV l).getD j 0=(j:Int)+1) (fun i=>[(9,.int .i64 i),(3,.any),(4,.any)]) (fun i=>[]) (fun i=>l.length-i) 0 ⟨aK,mixed,ak,JA,aQ⟩ (by rfl) ⟨by omega,fun j hj=>by omega⟩ ?_ ?_
 ·repeat'((conv=>whnf);first|intro _|apply aI|with_reducible exact vM rfl|exact⟨⟩|apply nM|apply fM)
  all_goals((try apply vM);(try simp only[vq]at*);try omega)
 intro i hi
 obtain⟨hi,hall⟩:=hi
 by_cases hlt:i<l.length
 ·repeat'((conv=>whnf);first|intro _|apply aI|with_reducible exact vM rfl|exact⟨⟩|apply nM|apply fM)
  all_goals((try apply vM);(try simp only[vq]at*);try omega)
  ·rename_i hq
   rw[MK hlt hq]
   all_goals(refine Sup.via ?_;repeat'((conv=>whnf);first|intro _|apply aI|with_reducible exact vM rfl|exact⟨⟩|apply nM|apply fM);all_goals((try apply vM);(try simp only[vq]at*);try omega);all_goals(try(simp[CL.sub];done)))
  ·rename_i hq
   have hq:=Classical.not_not.1 hq
   refine⟨i+1,[],⟨⟨by omega,fun j hj=>?_⟩,by omega⟩,?_⟩
   ·by_cases e:j=i
    ·subst e;exact hq
    ·exact hall j (by omega)
   repeat'((conv=>whnf);first|intro _|apply aI|with_reducible exact vM rfl|exact⟨⟩|apply nM|apply fM)
   all_goals((try apply vM);(try simp only[vq]at*);try omega)
 ·have:l.length=i:=by omega
  subst this
  repeat'((conv=>whnf);first|intro _|apply aI|with_reducible exact vM rfl|exact⟨⟩|apply nM|apply fM)
  all_goals((try apply vM);(try simp only[vq]at*);try omega)
  rw[Ce hall]
  all_goals(refine Sup.via ?_;repeat'((conv=>whnf);first|intro _|apply aI|with_reducible exact vM rfl|exact⟨⟩|apply nM|apply fM);all_goals((try apply vM);(try simp only[vq]at*);try omega);all_goals(try(simp[CL.sub];done)))
def F3:PSp:=fun xs K=>match xs with
 | [.isl (.ints .i64 l) .none]=>VC (1≤l.length∧l.length≤1000000)∧K (.bp (kY l))
 |_=>False
theorem Sy:POK Tryz.prog 167 F3:=by
 intro xs K h
 unfold F3 at h
 split at h
 ·exact⟨_,h.2,MN _ h.1.get⟩
 ·exact h.elim
def cfE (l:List Int):Int:=aJ [if l.length=0 then 12 else 0,if 256<l.length then 5 else 0,rQ l]
noncomputable def adg:CPT:=aA 193 (aB nO) (aA 195 (aB gq) (aA 203 (aB rR) noC))
theorem Yx:aY Tryz.prog adg:=aj (au pq) (aj (au oD) (aj (au zo) aD))
theorem Yy (l:List Int) (hl:l.length≤1000000):aG Tryz.prog 166 [.isl (.ints .i64 l) .none] (.int .i64 (cfE l)):=by
 unfold cfE
 refine av (md:=1) (rf:=[]) mixed ak Yx Tryz.func166 (by rfl) (by rfl) (by rfl) ?_
 repeat'((conv=>whnf);first|(intro hq;(try simp only[vw]at hq);try first|exact absurd hq (by decide)|exfalso;omega)|apply aI|with_reducible exact vM rfl|exact⟨⟩|apply nM|apply fM)
 all_goals((try apply vM);(try simp only[vq]at*);try omega)
 all_goals first|omega|(refine Sup.of (congrArg (PV.int .i64) ?_);(repeat' split)<;>first|rfl|(exfalso;omega))|skip
def cfP:PSp:=fun xs K=>match xs with
 | [.isl (.ints .i64 l) .none]=>VC (l.length≤1000000)∧K (.int .i64 (cfE l))
 |_=>False
theorem abY:POK Tryz.prog 166 cfP:=by
 intro xs K h
 unfold cfP at h
 split at h
 ·exact⟨_,h.2,Yy _ h.1.get⟩
 ·exact h.elim
noncomputable def adh:CPT:=aA 166 (aB cfP) (aA 167 (aB F3) noC)
theorem JB:aY Tryz.prog adh:=aj (au abY) (aj (au Sy) aD)
def iL (l:List Int):Bool × Int:=if cfE l≠0 then(false,cfE l)else(kY l,0)
theorem CQ (l:List Int) (hl:l.length≤1000000):aG Tryz.prog 121 [.isl (.ints .i64 l) .none] (.tup [.bp (iL l).1,.int .i64 (iL l).2]):=by
 unfold iL
 by_cases he:cfE l=0
 ·have h1:1≤l.length:=by
   by_cases e:l.length=0
   ·unfold cfE at he;rw[if_pos e]at he;simp[aJ]at he
   ·omega
  rw[if_neg (by rw[he];simp)]
  refine av (md:=1) (rf:=[]) mixed ak JB Tryz.func121 (by rfl) (by rfl) (by rfl) ?_
  repeat'((conv=>whnf);first|(intro hq;(try simp only[vw]at hq);try first|exact absurd hq (by decide)|exfalso;omega)|apply aI|with_reducible exact vM rfl|exact⟨⟩|apply nM|apply fM)
  all_goals((try apply vM);(try simp only[vq]at*);try omega)
  all_goals first|exact hl|exact⟨h1,hl⟩|exact Sup.of rfl|(exfalso;exact hq he)|skip
 ·rw[if_pos he]
  refine av (md:=1) (rf:=[]) mixed ak JB Tryz.func121 (by rfl) (by rfl) (by rfl) ?_
  repeat'((conv=>whnf);first|(intro hq;(try simp only[vw]at hq);try first|exact absurd hq (by decide)|exfalso;omega)|apply aI|with_reducible exact vM rfl|exact⟨⟩|apply nM|apply fM)
  all_goals((try apply vM);(try simp only[vq]at*);try omega)
  all_goals first|exact hl|exact aa8 _ _|(exfalso;exact hq he)|skip
def uT:PSp:=fun xs K=>match xs with
 | [.isl (.ints .i64 l) .none]=>VC (l.length≤1000000)∧K (.tup [.bp (iL l).1,.int .i64 (iL l).2])
 |_=>False
theorem Ie:POK Tryz.prog 121 uT:=by
 intro xs K h
 unfold uT at h
 split at h
 ·exact⟨_,h.2,CQ _ h.1.get⟩
 ·exact h.elim
theorem F4 {l:List Int} (h:kY l=true):dV l=(List.range l.length).map fun i:Nat=>(i:Int)+1:=by
 refine List.ext_getElem (by rw[jv];simp) fun i h1 h2=>?_
 have hi:i<l.length:=by rw[jv]at h1;exact h1
 have:=List.all_eq_true.1 h i (List.mem_range.2 hi)
 rw[decide_eq_true_eq,List.getD_eq_getElem?_getD,List.getElem?_eq_getElem h1]at this
 rw[show(dV l)[i]=(i:Int)+1 from this]
 simp
theorem vU {l:List Int} (h:kY l=true):∀x∈l,1≤x∧x≤l.length:=fun x hx=>by
 have hp:x∈dV l:=(List.mergeSort_perm l _).mem_iff.2 hx
 rw[F4 h,List.mem_map]at hp
 obtain⟨i,hi,rfl⟩:=hp
 have:=List.mem_range.1 hi
 omega
theorem PN {l:List Int} (h:kY l=true):l.Nodup:=by
 have hp:(dV l).Perm l:=List.mergeSort_perm l _
 rw[F4 h]at hp
 refine hp.nodup_iff.1 ?_
 rw[List.Nodup,List.pairwise_map]
 exact List.nodup_range.imp fun hne e=>hne (by omega)
def lY (gv nv:List Int):Prop:=gv.length=nv.length∧∀i,i<nv.length→gv.getD i 0=0∨gv.getD i 0=nv.getD i 0
theorem lY.set0 {gv nv:List Int} (h:lY gv nv) (y:Nat):lY (gv.set y 0) nv:=by
 refine⟨by rw[List.length_set];exact h.1,fun i hi=>?_⟩
 rw[List.getD_eq_getElem?_getD,List.getElem?_set]
 split
 ·left;split<;>rfl
 ·rw[←List.getD_eq_getElem?_getD];exact h.2 i hi
theorem lY.set1 {gv nv:List Int} (h:lY gv nv) (y:Nat):lY (gv.set y (nv.getD y 0)) nv:=by
 refine⟨by rw[List.length_set];exact h.1,fun i hi=>?_⟩
 rw[List.getD_eq_getElem?_getD,List.getElem?_set]
 split
 ·rename_i e;subst e;right;rw[if_pos (by have:=h.1;omega)];rfl
 ·rw[←List.getD_eq_getElem?_getD];exact h.2 i hi
theorem lY.refl (nv:List Int):lY nv nv:=⟨rfl,fun i _=>.inr rfl⟩
theorem PO {c:Int} {ls:List (List Int)} (hb:fT c ls=0):dz c ls 0 (List.replicate c.toNat 0):=by
 unfold fT at hb
 simp only[aJ]at hb
 have hsy:iJ c ls=0:=by
  by_cases e:iJ c ls=0
  ·exact e
  ·rw[if_neg e]at hb;exact absurd hb e
 rw[if_pos hsy]at hb
 have hc16:¬16<c:=fun e=>by rw[if_pos e]at hb;simp at hb
 rw[if_neg hc16,if_pos rfl]at hb
 have hls:ls.length≠0:=fun e=>by rw[if_pos e]at hb;simp at hb
 unfold iJ at hsy
 have hcr:¬(c<1∨256<c):=fun e=>by rw[if_pos e]at hsy;cases hsy
 rw[if_neg hcr]at hsy
 have hln:¬128<ls.length:=fun e=>by rw[if_pos e]at hsy;cases hsy
 rw[if_neg hln]at hsy
 have hlE:=iU hsy
 refine⟨by omega,by omega,fun i hi=>?_,by omega,by rw[List.length_replicate];omega,fun x hx=>?_,fun i j hij hj hpos e=>?_⟩
 ·have hL:=hlE i hi
  unfold iI at hL
  have hne:¬(ls.getD i []).length=0:=fun e=>by rw[if_pos e]at hL;cases hL
  rw[if_neg hne]at hL
  have hst:cu (bP c (ls.getD i [])) (ls.getD i []).length=0:=by
   by_cases e:cu (bP c (ls.getD i [])) (ls.getD i []).length=0
   ·exact e
   ·rw[if_pos e]at hL;exact hL
  have hst:=iU hst
  have hk:∀k,k<(ls.getD i []).length→(0≤(ls.getD i []).getD k 0∧(ls.getD i []).getD k 0<c)∧(0<k→(ls.getD i []).getD (k-1) 0<(ls.getD i []).getD k 0):=fun k hk=>by
   have:=hst k hk
   unfold bP at this
   have h1:¬((ls.getD i []).getD k 0<0∨c≤(ls.getD i []).getD k 0):=fun e=>by rw[if_pos e]at this;cases this
   rw[if_neg h1]at this
   refine⟨by omega,fun h0=>?_⟩
   have h2:¬(0<k∧(ls.getD i []).getD k 0≤(ls.getD i []).getD (k-1) 0):=fun e=>by rw[if_pos e]at this;cases this
   omega
  have hr:∀x∈ls.getD i [],0≤x∧x<c:=fun x hx=>by
   obtain⟨k,h1,rfl⟩:=(dP _ x).1 hx
   exact(hk k h1).1
  have hp:=wM fun k h0 h1=>(hk k h1).2 h0
  have:=FL hp hr (by omega)
  exact⟨by omega,by omega,hr,hp⟩
 ·rw[(List.mem_replicate.1 hx).2];omega
 ·rw[List.length_replicate]at hj
  rw[List.getD_eq_getElem?_getD,List.getElem?_replicate,if_pos hj]at hpos
  simp at hpos
theorem abf {c:Int} {ls:List (List Int)} {sum:Int} {gv nv:List Int} (hb:fT c ls=0) (hl:(nv.length:Int)=c) (hn:kY nv=true) (hs: -999999999≤sum∧sum≤999999999) (h:lY gv nv):dz c ls sum gv:=by
 have h0:=PO hb
 have hr:=vU hn
 have hd:=PN hn
 have hgl:=h.1
 refine⟨h0.c1,h0.ll,h0.ln,hs,by omega,fun x hx=>?_,fun i j hij hj hpos e=>?_⟩
 ·have hc:=h0.c1
  obtain⟨i,hi,rfl⟩:=(dP _ x).1 hx
  rcases h.2 i (by omega)with e|e
  ·rw[e];omega
  ·have:=hr (nv.getD i 0) (eO (by omega))
   rw[e];omega
 ·have e1:gv.getD j 0=nv.getD j 0:=by
   rcases h.2 j (by omega)with e'|e'
   ·omega
   ·exact e'
  have e2:gv.getD i 0=nv.getD i 0:=by
   rcases h.2 i (by omega)with e'|e'
   ·omega
   ·exact e'
  rw[e1,e2]at e
  have:=List.pairwise_iff_getElem.1 hd i j (by omega) (by omega) hij
  rw[List.getD_eq_getElem?_getD,List.getD_eq_getElem?_getD,List.getElem?_eq_getElem (show i<nv.length by omega),List.getElem?_eq_getElem (show j<nv.length by omega)]at e
  exact this e
end Go.Eng.YtcechbdgokjmgaaGreatDoor
