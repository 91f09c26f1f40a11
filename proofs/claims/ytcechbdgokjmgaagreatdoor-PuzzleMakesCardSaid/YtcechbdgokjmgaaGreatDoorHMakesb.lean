/- Contracts of functions of the program: what each returns. Their conditions stand in them. -/
import Derived.Test.YtcechbdgokjmgaaGreatDoorHMakesa
open Array renaming length_toList→agS
open Bool renaming and_eq_true→agE,not_eq_true'→ajn,or_false→ajo
open Classical renaming propDecidable→ai4,not_not→aha
open Int renaming toNat→aiI,one_mul→ais,toNat_natCast→ahl
open List renaming length_map→aif,mem_cons_self→aic,mem_cons_of_mem→ahX,all_eq_true→ahP,mem_map→ai5,isPrefixOf→ai6,toArray→ai7,size_toArray→ah4,length_drop→ai8,take_add_one→aij,getElem?_eq_getElem→agy,getD_eq_getElem?_getD→agt,take→aiW,take_length→ail,mem_cons→ahG,getElem_mem→aiG,drop→aiX,map_append→aik,length_take→ag6,length_append→ahx,length_cons→agb,length_nil→af7,range→agr,ext_getElem→aja,getElem_set→ajb,getElem_map→ajc,getElem_range→ajd,take_of_length_le→aje,range_succ→ajf,flatMap_append→ajg,filter_append→ajh,filter_cons→aji,filter_nil→ajj,map_cons→aie,append_assoc→ajk,append_nil→aib,map_flatMap→ajl,mem_flatMap→ajm,mem_range→ah5,mem_filter→aiw,getElem?_map→ahe,pairwise_map→ajp,mem_append→agu,mem_singleton→ai0,drop_zero→aiY,filter_eq_self→ajq,replicate→agD,pairwise_iff_getElem→ajr,getElem?_set_ne→agU,getElem_set_ne→ajs,set_cons_succ→ajt,length_filter_le→ai1,getElem_of_mem→agx,foldl_append→aiF,length_set→agT,mergeSort_perm→aju,getElem?_set→agR,length_replicate→ajv
open Nat renaming lt_succ_iff_lt_or_eq→ai9,le_refl→agh,sub_zero→aiZ
namespace Go.Eng.YtcechbdgokjmgaaGreatDoor
open Go.Proofs Go.RowKit
set_option linter.unusedSimpArgs false
set_option linter.unusedVariables false
set_option maxHeartbeats 0
set_option maxRecDepth 100000
abbrev kMi:ByteArray:=⟨#[45]⟩
abbrev kZe:ByteArray:=⟨#[48]⟩
def dgI (x:Int):Bool:=decide (48≤x)&&decide (x≤57)
structure FmB (z:ByteArray):Prop where
 n0:0<z.size
 n9:z.size≤9
 z0:z.size=1∨((z.data.getD 0 0).toNat:Int)≠48
def BL (z:ByteArray):Prop:=FmB z∧(dI z).all dgI=true
noncomputable instance (z:ByteArray):Decidable (BL z):=ai4 _
def OG (s:ByteArray) (sg:Bool):Prop:=preB s kMi=true∧(sg=false∨kN s kMi=kZe)
noncomputable instance (s:ByteArray) (sg:Bool):Decidable (OG s sg):=ai4 _
noncomputable def fK (s:ByteArray) (sg:Bool):Option Int:=if BL (kN s kMi)∧¬OG s sg then Go.Lib.atoi s.data.toList else none
theorem GV (z:ByteArray):(dI z).length=z.size:=by unfold dI;rw[aif,agS];rfl
theorem GX:∀(l:List UInt8) (acc:Nat),(∀b∈l,48≤b.toNat∧b.toNat≤57)→∃n,Go.Lib.decFrom acc l=some n:=by
 intro l;induction l with
 |nil=>intro acc _;exact⟨acc,rfl⟩
 |cons b r ih=>
  intro acc h;have hb:=h b (aic ..);have hd:∃d,Go.Lib.digitVal b=some d:=by
   unfold Go.Lib.digitVal;rw[if_pos hb];exact⟨_,rfl⟩
  obtain⟨d,hd⟩:=hd;unfold Go.Lib.decFrom;rw[hd];exact ih _ fun x hx=>h x (ahX _ hx)
theorem decNat_some {l:List UInt8} (hl:l≠[]) (h:∀b∈l,48≤b.toNat∧b.toNat≤57):∃n,Go.Lib.decNat l=some n:=by
 unfold Go.Lib.decNat;rw[if_neg (by simpa using hl)]
 exact GX l 0 h
theorem aau {z:ByteArray} (h:BL z):z.data.toList≠[]∧∀b∈z.data.toList,48≤b.toNat∧b.toNat≤57:=by
 obtain⟨h1,h2⟩:=h;refine⟨fun e=>?_,fun b hb=>?_⟩
 ·have:=h1.n0
  rw[←GV]at this;unfold dI at this;rw[e]at this;exact absurd this (by decide)
 ·rw[ahP]at h2
  have:=h2 (b.toNat:Int) (ai5.2 ⟨b,hb,rfl⟩);unfold dgI at this;rw[agE,decide_eq_true_eq,decide_eq_true_eq]at this;omega
theorem UQ {s:ByteArray} (h:BL (kN s kMi)):∃n,Go.Lib.atoi s.data.toList=some n:=by
 have hd:=aau h;unfold kN Go.Lib.trimPrefix at hd;cases hl:s.data.toList with
 |nil=>rw[hl]at hd;exact absurd rfl hd.1
 |cons b r=>
  rw[hl]at hd;unfold Go.Lib.atoi;by_cases e:b=45
  ·subst e
   rw[if_pos (by simp[Go.Lib.hasPrefix,ai6])]at hd
   obtain⟨n,hn⟩:=decNat_some (l:=r) hd.1 hd.2;exact⟨-(n:Int),by simp[hn]⟩
  ·have hp:¬Go.Lib.hasPrefix (b::r) kMi.data.toList=true:=by
    simp[Go.Lib.hasPrefix,ai6];exact fun e'=>e e'.symm
   rw[if_neg hp]at hd;have hb:=hd.2 b (aic ..);obtain⟨n,hn⟩:=decNat_some (l:=b::r) hd.1 hd.2;have e43:b≠43:=fun e'=>by subst e';exact absurd hb.1 (by decide)
   exact⟨(n:Int),by simp[hn,e,e43]⟩
theorem UR {s p:ByteArray}:s.size≤(kN s p).size+p.size:=by
 have e1:s.size=s.data.toList.length:=by rw[agS];rfl
 have e2:p.size=p.data.toList.length:=by rw[agS];rfl
 have e3:(kN s p).size=(Go.Lib.trimPrefix s.data.toList p.data.toList).length:=by
  show(ai7 _).size=_;rw[ah4]
 rw[e1,e2,e3];unfold Go.Lib.trimPrefix;split
 ·rw[ai8];omega
 ·omega
def GY (o:Option Int):PV:=match o with
 |none=>.tup [.int .i64 0,.bp false]
 |some n=>.tup [.int .i64 n,.bp true]
noncomputable def aeu:CPT:=aA 229 (aB Uu) (aA 230 (aB NS) noC)
theorem iA:aV Tryz.prog aeu:=ak (au adg) (ak (au ZL) aC)
theorem mg:Sup (bG [PV.int .i64 0,PV.bool false]) (GY none):=⟨fun hr=>by
 cases hr with
 |tup _ _ vs hl hh=>
  refine .tup _ _ _ hl fun i hi=>?_;have:=hh i hi;obtain rfl|rfl:i=0∨i=1:=by simp at hi;omega
  ·exact this
  ·simp only[aD]at this⊢
   generalize vs.getD 1 undef=v1 at this
   cases this;exact .bp _ _⟩
theorem xg (n:Int):Sup (bG [PV.int .i64 n,PV.bool true]) (GY (some n)):=⟨fun hr=>by
 cases hr with
 |tup _ _ vs hl hh=>
  refine .tup _ _ _ hl fun i hi=>?_;have:=hh i hi;obtain rfl|rfl:i=0∨i=1:=by simp at hi;omega
  ·exact this
  ·simp only[aD]at this⊢
   generalize vs.getD 1 undef=v1 at this
   cases this;exact .bp _ _⟩
theorem UU (s:ByteArray) (sg:Bool) (hs:s.size≤1000000):aF Tryz.prog 202 [.str s,.bp sg] (GY (fK s sg)):=by
 have hcs:(kN s kMi).size≤1000000:=by
  have e3:(kN s kMi).size=(Go.Lib.trimPrefix s.data.toList kMi.data.toList).length:=by
   show(ai7 _).size=_;rw[ah4]
  have e1:s.size=s.data.toList.length:=by rw[agS];rfl
  rw[e3];unfold Go.Lib.trimPrefix;split
  ·rw[ai8];omega
  ·omega
 have hcz:=UR (s:=s) (p:=kMi);have hbl:=GV (kN s kMi);obtain⟨z,hz⟩:∃z,kN s kMi=z:=⟨_,rfl⟩;by_cases hF:FmB z
 case neg=>
  rw[show fK s sg=none by unfold fK;rw[hz,if_neg (fun e=>hF e.1.1)]]
  rw[hz]at hcs hcz hbl;by_cases h0:z.size=0
  ·skip
   refine av (md:=1) (rf:=[]) mixed aj iA Tryz.func202 (by rfl) (by rfl) (by rfl) ?_
   repeat'((conv=>whnf);first|(intro hq;(try simp only[vw]at hq);try first|exact absurd hq (by decide)|exfalso;omega)|apply aI|with_reducible exact vM rfl|exact⟨⟩|apply nM|apply fM)
   all_goals((try apply vM);(try simp only[vq]at*);try omega)
   all_goals(try rw[hz]at*)
   all_goals(try omega)
   all_goals(conv=>whnf)
   all_goals(refine aJ (X:=Nat) (fun i=>i≤z.size) (fun i=>[(39,.int .i64 i),(8,.bp false)]) (fun i=>[]) (fun i=>z.size-i) 0 ⟨aG,mixed,aj,iA,aM⟩ (by rfl) (by omega) ?_ ?_)
   ·repeat'((conv=>whnf);first|intro _|apply aI|with_reducible exact vM rfl|exact⟨⟩|apply nM|apply fM)
    all_goals((try apply vM);(try simp only[vq]at*);try omega)
    all_goals(try exact decide_eq_false (fun e=>e hz0.2))
   intro i hi;by_cases hlt:i<z.size
   ·repeat'((conv=>whnf);first|(intro hq;(try simp only[vw]at hq);try first|exact absurd hq (by decide)|exfalso;omega)|apply aI|with_reducible exact vM rfl|exact⟨⟩|apply nM|apply fM)
    all_goals((try apply vM);(try simp only[vq]at*);try omega)
    all_goals(try omega)
    all_goals refine⟨i+1,[],⟨by omega,by omega⟩,?_⟩
    all_goals repeat'((conv=>whnf);first|intro _|apply aI|with_reducible exact vM rfl|exact⟨⟩|apply nM|apply fM)
    all_goals all_goals((try apply vM);(try simp only[vq]at*);try omega)
   have e:i=z.size:=by omega
   subst e
   repeat'((conv=>whnf);first|(intro hq;(try simp only[vw]at hq);try first|exact absurd hq (by decide)|exfalso;omega)|apply aI|with_reducible exact vM rfl|exact⟨⟩|apply nM|apply fM)
   all_goals((try apply vM);(try simp only[vq]at*);try omega)
   all_goals first|omega|exact mg|skip
  by_cases h9:9<z.size
  ·skip
   refine av (md:=1) (rf:=[]) mixed aj iA Tryz.func202 (by rfl) (by rfl) (by rfl) ?_
   repeat'((conv=>whnf);first|(intro hq;(try simp only[vw]at hq);try first|exact absurd hq (by decide)|exfalso;omega)|apply aI|with_reducible exact vM rfl|exact⟨⟩|apply nM|apply fM)
   all_goals((try apply vM);(try simp only[vq]at*);try omega)
   all_goals(try rw[hz]at*)
   all_goals(try omega)
   all_goals(conv=>whnf)
   all_goals(refine aJ (X:=Nat) (fun i=>i≤z.size) (fun i=>[(39,.int .i64 i),(8,.bp false)]) (fun i=>[]) (fun i=>z.size-i) 0 ⟨aG,mixed,aj,iA,aM⟩ (by rfl) (by omega) ?_ ?_)
   ·repeat'((conv=>whnf);first|intro _|apply aI|with_reducible exact vM rfl|exact⟨⟩|apply nM|apply fM)
    all_goals((try apply vM);(try simp only[vq]at*);try omega)
    all_goals(try exact decide_eq_false (fun e=>e hz0.2))
   intro i hi;by_cases hlt:i<z.size
   ·repeat'((conv=>whnf);first|(intro hq;(try simp only[vw]at hq);try first|exact absurd hq (by decide)|exfalso;omega)|apply aI|with_reducible exact vM rfl|exact⟨⟩|apply nM|apply fM)
    all_goals((try apply vM);(try simp only[vq]at*);try omega)
    all_goals(try omega)
    all_goals refine⟨i+1,[],⟨by omega,by omega⟩,?_⟩
    all_goals repeat'((conv=>whnf);first|intro _|apply aI|with_reducible exact vM rfl|exact⟨⟩|apply nM|apply fM)
    all_goals all_goals((try apply vM);(try simp only[vq]at*);try omega)
   have e:i=z.size:=by omega
   subst e
   repeat'((conv=>whnf);first|(intro hq;(try simp only[vw]at hq);try first|exact absurd hq (by decide)|exfalso;omega)|apply aI|with_reducible exact vM rfl|exact⟨⟩|apply nM|apply fM)
   all_goals((try apply vM);(try simp only[vq]at*);try omega)
   all_goals first|omega|exact mg|skip
  have hz0:z.size≠1∧((z.data.getD (aiI 0) 0).toNat:Int)=48:=by
   constructor
   ·exact fun e=>hF ⟨by omega,by omega,.inl e⟩
   ·exact aha.1 fun e=>hF ⟨by omega,by omega,.inr e⟩
  refine av (md:=1) (rf:=[]) mixed aj iA Tryz.func202 (by rfl) (by rfl) (by rfl) ?_
  repeat'((conv=>whnf);first|(intro hq;(try simp only[vw]at hq);try first|exact absurd hq (by decide)|exfalso;omega)|apply aI|with_reducible exact vM rfl|exact⟨⟩|apply nM|apply fM)
  all_goals((try apply vM);(try simp only[vq]at*);try omega)
  all_goals(try rw[hz]at*)
  all_goals(try omega)
  all_goals(conv=>whnf)
  all_goals(refine aJ (X:=Nat) (fun i=>i≤z.size) (fun i=>[(39,.int .i64 i),(8,.bp false)]) (fun i=>[]) (fun i=>z.size-i) 0 ⟨aG,mixed,aj,iA,aM⟩ (by rfl) (by omega) ?_ ?_)
  ·repeat'((conv=>whnf);first|intro _|apply aI|with_reducible exact vM rfl|exact⟨⟩|apply nM|apply fM)
   all_goals((try apply vM);(try simp only[vq]at*);try omega)
   all_goals(try exact decide_eq_false (fun e=>e hz0.2))
  intro i hi;by_cases hlt:i<z.size
  ·repeat'((conv=>whnf);first|(intro hq;(try simp only[vw]at hq);try first|exact absurd hq (by decide)|exfalso;omega)|apply aI|with_reducible exact vM rfl|exact⟨⟩|apply nM|apply fM)
   all_goals((try apply vM);(try simp only[vq]at*);try omega)
   all_goals(try omega)
   all_goals refine⟨i+1,[],⟨by omega,by omega⟩,?_⟩
   all_goals repeat'((conv=>whnf);first|intro _|apply aI|with_reducible exact vM rfl|exact⟨⟩|apply nM|apply fM)
   all_goals all_goals((try apply vM);(try simp only[vq]at*);try omega)
  have e:i=z.size:=by omega
  subst e
  repeat'((conv=>whnf);first|(intro hq;(try simp only[vw]at hq);try first|exact absurd hq (by decide)|exfalso;omega)|apply aI|with_reducible exact vM rfl|exact⟨⟩|apply nM|apply fM)
  all_goals((try apply vM);(try simp only[vq]at*);try omega)
  all_goals first|omega|exact mg|skip
 have hN:(dI z).all dgI=false→fK s sg=none:=fun e=>by
  unfold fK;rw[hz,if_neg];exact fun h=>by have:=h.1.2;rw[e]at this;exact absurd this (by decide)
 have hB1:preB s ⟨#[45]⟩=true→sg=false→fK s sg=none:=fun a b=>by
  unfold fK;rw[if_neg];exact fun h=>h.2 ⟨a,.inl b⟩
 have hB2:preB s ⟨#[45]⟩=true→z=⟨#[48]⟩→fK s sg=none:=fun a b=>by
  unfold fK;rw[if_neg];exact fun h=>h.2 ⟨a,.inr (hz.trans b)⟩
 obtain⟨n,hn⟩:∃n,(dI z).all dgI=true→Go.Lib.atoi s.data.toList=some n:=by
  by_cases e:(dI z).all dgI=true
  ·obtain⟨n,hn⟩:=UQ (s:=s) (by rw[hz];exact⟨hF,e⟩)
   exact⟨n,fun _=>hn⟩
  ·exact⟨0,fun h=>absurd h e⟩
 have hY1:(dI z).all dgI=true→preB s ⟨#[45]⟩=false→fK s sg=some n:=fun e a=>by
  unfold fK;rw[hz,if_pos ⟨⟨hF,e⟩,fun h=>by have h1:=h.1;rw[a]at h1;exact absurd h1 (by decide)⟩];exact hn e
 have hY2:(dI z).all dgI=true→sg=true→z≠⟨#[48]⟩→fK s sg=some n:=fun e a b=>by
  unfold fK;rw[hz,if_pos ⟨⟨hF,e⟩,fun h=>by
   rcases h.2 with h|h
   ·rw[a]at h;exact absurd h (by decide)
   ·exact b (hz.symm.trans h)⟩];exact hn e
 have hs18:s.size≤18:=by
  have:=hF.n9;have:kMi.size=1:=rfl;rw[hz]at hcz;omega
 rw[hz]at hcs hcz hbl;have h0:=hF.n0;have h9:=hF.n9;have hz0:z.size=1∨((z.data.getD (aiI 0) 0).toNat:Int)≠48:=hF.z0;have hdg:∀i,i<z.size→((dI z).take (i+1)).all dgI=(((dI z).take i).all dgI&&dgI ((dI z).getD i 0)):=fun i hi=>by
  rw[aij,List.all_append,agy (by omega),agt,agy (by omega)]
  simp
 by_cases h1:z.size=1
 ·skip
  refine av (md:=1) (rf:=[]) mixed aj iA Tryz.func202 (by rfl) (by rfl) (by rfl) ?_
  repeat'((conv=>whnf);first|(intro hq;(try simp only[vw]at hq);try first|exact absurd hq (by decide)|exfalso;omega)|apply aI|with_reducible exact vM rfl|exact⟨⟩|apply nM|apply fM)
  all_goals((try apply vM);(try simp only[vq]at*);try omega)
  all_goals(try rw[hz]at*)
  all_goals(try omega)
  conv=>whnf
  refine aJ (X:=Nat) (fun i=>i≤z.size) (fun i=>[(39,.int .i64 i),(8,.bp (((dI z).take i).all dgI))]) (fun i=>[]) (fun i=>z.size-i) 0 ⟨aG,mixed,aj,iA,aM⟩ (by rfl) (by omega) ?_ ?_
  ·repeat'((conv=>whnf);first|intro _|apply aI|with_reducible exact vM rfl|exact⟨⟩|apply nM|apply fM)
   all_goals((try apply vM);(try simp only[vq]at*);try omega)
   all_goals first|exact decide_eq_true hz1|skip
  intro i hi;by_cases hlt:i<z.size
  ·have hd:=hdg i hlt
   repeat'((conv=>whnf);first|(intro hq;(try simp only[vw]at hq);try first|exact absurd hq (by decide)|exfalso;omega)|apply aI|with_reducible exact vM rfl|exact⟨⟩|apply nM|apply fM)
   all_goals((try apply vM);(try simp only[vq]at*);try omega)
   all_goals(try omega)
   all_goals refine⟨i+1,[],⟨by omega,by omega⟩,?_⟩
   all_goals repeat'((conv=>whnf);first|intro _|apply aI|with_reducible exact vM rfl|exact⟨⟩|apply nM|apply fM)
   all_goals all_goals((try apply vM);(try simp only[vq]at*);try omega)
   all_goals(rw[hd])
   all_goals(clear hd)
   ·have hq2:(48:Int)≤(dI z).getD i 0:=hq
    show decide ((dI z).getD i 0≤57)=_;have ht:(aiW i (dI z)).all dgI=true:=by assumption
    rw[ht];generalize(dI z).getD i 0=x at hq2⊢
    show _=(true&&(decide (48≤x)&&decide (x≤57)));rw[decide_eq_true hq2];simp
   ·have hq2:¬(48:Int)≤(dI z).getD i 0:=hq
    generalize(dI z).getD i 0=x at hq2⊢
    unfold dgI;rw[decide_eq_false hq2];simp
   ·simp[*]
  have e:i=z.size:=by omega
  subst e;have ha:(dI z).take z.size=dI z:=by rw[←hbl,ail]
  rw[ha]
  repeat'((conv=>whnf);first|(intro hq;(try simp only[vw]at hq);try first|exact absurd hq (by decide)|exfalso;omega)|apply aI|with_reducible exact vM rfl|exact⟨⟩|apply nM|apply fM)
  all_goals((try apply vM);(try simp only[vq]at*);try omega)
  all_goals(try omega)
  all_goals first|(rw[hN (by assumption)];exact mg)|(rw[hB1 (by assumption) (by assumption)];exact mg)|(rw[hB2 (by assumption) (by assumption)];exact mg)|skip
  all_goals(conv=>whnf)
  all_goals repeat'((conv=>whnf);first|refine Exists.intro (n) ?_|(intro hq;(try simp only[vw]at hq);try first|exact absurd hq (by decide)|exfalso;omega)|apply aI|with_reducible exact vM rfl|exact⟨⟩|apply nM|apply fM)
  all_goals all_goals((try apply vM);(try simp only[vq]at*);try omega)
  all_goals first|(refine And.intro hs18 (hn ?_);assumption)|(rw[hY1 (by assumption) (by assumption)];exact xg n)|(rw[hY2 (by assumption) (by assumption) (by assumption)];exact xg n)
 ·have hz1:((z.data.getD (aiI 0) 0).toNat:Int)≠48:=by
   rcases hz0 with e|e
   ·exact absurd e h1
   ·exact e
  refine av (md:=1) (rf:=[]) mixed aj iA Tryz.func202 (by rfl) (by rfl) (by rfl) ?_
  repeat'((conv=>whnf);first|(intro hq;(try simp only[vw]at hq);try first|exact absurd hq (by decide)|exfalso;omega)|apply aI|with_reducible exact vM rfl|exact⟨⟩|apply nM|apply fM)
  all_goals((try apply vM);(try simp only[vq]at*);try omega)
  all_goals(try rw[hz]at*)
  all_goals(try omega)
  conv=>whnf
  refine aJ (X:=Nat) (fun i=>i≤z.size) (fun i=>[(39,.int .i64 i),(8,.bp (((dI z).take i).all dgI))]) (fun i=>[]) (fun i=>z.size-i) 0 ⟨aG,mixed,aj,iA,aM⟩ (by rfl) (by omega) ?_ ?_
  ·repeat'((conv=>whnf);first|intro _|apply aI|with_reducible exact vM rfl|exact⟨⟩|apply nM|apply fM)
   all_goals((try apply vM);(try simp only[vq]at*);try omega)
   all_goals first|exact decide_eq_true hz1|skip
  intro i hi;by_cases hlt:i<z.size
  ·have hd:=hdg i hlt
   repeat'((conv=>whnf);first|(intro hq;(try simp only[vw]at hq);try first|exact absurd hq (by decide)|exfalso;omega)|apply aI|with_reducible exact vM rfl|exact⟨⟩|apply nM|apply fM)
   all_goals((try apply vM);(try simp only[vq]at*);try omega)
   all_goals(try omega)
   all_goals refine⟨i+1,[],⟨by omega,by omega⟩,?_⟩
   all_goals repeat'((conv=>whnf);first|intro _|apply aI|with_reducible exact vM rfl|exact⟨⟩|apply nM|apply fM)
   all_goals all_goals((try apply vM);(try simp only[vq]at*);try omega)
   all_goals(rw[hd])
   all_goals(clear hd)
   ·have hq2:(48:Int)≤(dI z).getD i 0:=hq
    show decide ((dI z).getD i 0≤57)=_;have ht:(aiW i (dI z)).all dgI=true:=by assumption
    rw[ht];generalize(dI z).getD i 0=x at hq2⊢
    show _=(true&&(decide (48≤x)&&decide (x≤57)));rw[decide_eq_true hq2];simp
   ·have hq2:¬(48:Int)≤(dI z).getD i 0:=hq
    generalize(dI z).getD i 0=x at hq2⊢
    unfold dgI;rw[decide_eq_false hq2];simp
   ·simp[*]
  have e:i=z.size:=by omega
  subst e;have ha:(dI z).take z.size=dI z:=by rw[←hbl,ail]
  rw[ha]
  repeat'((conv=>whnf);first|(intro hq;(try simp only[vw]at hq);try first|exact absurd hq (by decide)|exfalso;omega)|apply aI|with_reducible exact vM rfl|exact⟨⟩|apply nM|apply fM)
  all_goals((try apply vM);(try simp only[vq]at*);try omega)
  all_goals(try omega)
  all_goals first|(rw[hN (by assumption)];exact mg)|(rw[hB1 (by assumption) (by assumption)];exact mg)|(rw[hB2 (by assumption) (by assumption)];exact mg)|skip
  all_goals(conv=>whnf)
  all_goals repeat'((conv=>whnf);first|refine Exists.intro (n) ?_|(intro hq;(try simp only[vw]at hq);try first|exact absurd hq (by decide)|exfalso;omega)|apply aI|with_reducible exact vM rfl|exact⟨⟩|apply nM|apply fM)
  all_goals all_goals((try apply vM);(try simp only[vq]at*);try omega)
  all_goals first|(refine And.intro hs18 (hn ?_);assumption)|(rw[hY1 (by assumption) (by assumption)];exact xg n)|(rw[hY2 (by assumption) (by assumption) (by assumption)];exact xg n)
def UW:PSp:=fun xs K=>match xs with
 | [.str s,.bp sg]=>VC (s.size≤1000000)∧((VC (fK s sg=none)→K (GY none))∧∀n,VC (fK s sg=some n)→K (GY (some n)))
 |_=>False
theorem adv:POK Tryz.prog 202 UW:=by
 intro xs K hk;unfold UW at hk;split at hk
 ·obtain⟨⟨h⟩,h1,h2⟩:=hk
  refine⟨_,?_,UU _ _ h⟩;cases e:fK _ _ with
  |none=>exact h1 ⟨e⟩
  |some n=>exact h2 n ⟨e⟩
 ·exact hk.elim
theorem GZ (c:UInt8):∀l:List UInt8,(∀x∈spl c l,x.length≤l.length)∧(spl c l).length≤l.length+1:=by
 intro l;induction l with
 |nil=>simp[spl]
 |cons x r ih=>
  unfold spl;split
  ·refine⟨fun y hy=>?_,by simp;exact ih.2⟩
   rcases ahG.1 hy with rfl|hy
   ·simp
   ·have:=ih.1 y hy;simp;omega
  ·cases h:spl c r with
   |nil=>exact absurd h (QV c r)
   |cons a t=>
    rw[h]at ih;refine⟨fun y hy=>?_,by have:=ih.2;simp at this⊢;omega⟩
    rcases ahG.1 hy with rfl|hy
    ·have:=ih.1 a (aic ..);simp;omega
    ·have:=ih.1 y (ahX _ hy);simp;omega
theorem vV {l:List ByteArray} {j:Nat} (h:j<l.length):l.getD j .empty∈l:=by
 rw[agt,agy h];exact aiG h
theorem Dp {c:UInt8} {s x:ByteArray} (h:x∈dJ c s):x.size≤s.size:=by
 obtain⟨l,hl,rfl⟩:=ai5.1 h;have:=(GZ c s.data.toList).1 l hl;rw[agS]at this;exact this
theorem yO (c:UInt8) (s:ByteArray):1≤(dJ c s).length∧(dJ c s).length≤s.size+1:=by
 unfold dJ;rw[aif];have h1:=(GZ c s.data.toList).2;rw[agS]at h1;exact⟨List.length_pos_iff.2 (QV c _),h1⟩
abbrev jm:ByteArray:=⟨#[115,117,109]⟩
noncomputable def numsL (sg:Bool) (ws:List ByteArray):List Int:=ws.map fun x=>(fK x sg).getD 0
def okW (sg:Bool) (ws:List ByteArray):Prop:=∀j,j<ws.length→(fK (ws.getD j .empty) sg).isSome=true
noncomputable instance (sg:Bool) (ws:List ByteArray):Decidable (okW sg ws):=ai4 _
noncomputable def cO (s w:ByteArray):Option (List Int):=
 if(dJ 32 s).getD 0 .empty=w∧okW (decide (w=jm)) ((dJ 32 s).drop 1)then some (numsL (decide (w=jm)) ((dJ 32 s).drop 1))else none
def G5 (o:Option (List Int)):PV:=match o with
 |none=>.tup [.nils,.bp false]
 |some l=>.tup [.isl (.ints .i64 l) .none,.bp true]
theorem Lh:Sup (bG [PV.nils,PV.bool false]) (G5 none):=⟨fun hr=>by
 cases hr with
 |tup _ _ vs hl hh=>
  refine .tup _ _ _ hl fun i hi=>?_;have:=hh i hi;obtain rfl|rfl:i=0∨i=1:=by simp at hi;omega
  ·exact this
  ·simp only[aD]at this⊢
   generalize vs.getD 1 undef=v1 at this
   cases this;exact .bp _ _⟩
theorem UY (l:List Int):Sup (bG [PV.isl (.ints .i64 l) .none,PV.bool true]) (G5 (some l)):=⟨fun hr=>by
 cases hr with
 |tup _ _ vs hl hh=>
  refine .tup _ _ _ hl fun i hi=>?_;have:=hh i hi;obtain rfl|rfl:i=0∨i=1:=by simp at hi;omega
  ·exact this
  ·simp only[aD]at this⊢
   generalize vs.getD 1 undef=v1 at this
   cases this;exact .bp _ _⟩
noncomputable def afs:CPT:=aA 113 (aB Ae) (aA 202 (aB UW) noC)
theorem BM:aV Tryz.prog afs:=ak (au Gv) (ak (au adv) aC)
theorem UZ (s w:ByteArray) (hs:s.size≤1000000):aF Tryz.prog 162 [.str s,.str w] (G5 (cO s w)):=by
 have hl:=yO 32 s;have hz:∀j,j<(dJ 32 s).length→((dJ 32 s).getD j .empty).size≤1000000:=fun j hj=>Nat.le_trans (Dp (vV hj)) hs;obtain⟨W,hW⟩:∃W,dJ 32 s=W:=⟨_,rfl⟩;rw[hW]at hl hz;by_cases hw:W.getD 0 .empty=w
 case neg=>
  rw[show cO s w=none by unfold cO;rw[hW,if_neg (fun e=>hw e.1)]]
  refine av (md:=1) (rf:=[]) mixed aj BM Tryz.func162 (by rfl) (by rfl) (by rfl) ?_
  repeat'((conv=>whnf);first|refine Exists.intro (32) ?_|(intro hq;(try simp only[vw]at hq);try first|exact absurd hq (by decide)|exfalso;omega)|apply aI|with_reducible exact vM rfl|exact⟨⟩|apply nM|apply fM)
  all_goals((try apply vM);(try simp only[vq]at*);try omega)
  all_goals(try rw[hW])
  all_goals(try omega)
  all_goals(rw[hW]at hq)
  all_goals first|exact Lh|exact absurd hw hq
 refine av (md:=1) (rf:=[]) mixed aj BM Tryz.func162 (by rfl) (by rfl) (by rfl) ?_
 repeat'((conv=>whnf);first|refine Exists.intro (32) ?_|(intro hq;(try simp only[vw]at hq);try first|exact absurd hq (by decide)|exfalso;omega)|apply aI|with_reducible exact vM rfl|exact⟨⟩|apply nM|apply fM)
 all_goals((try apply vM);(try simp only[vq]at*);try omega)
 all_goals(try rw[hW])
 all_goals(try omega)
 all_goals(rw[hW]at hq)
 all_goals(try exact absurd hw hq)
 conv=>whnf
 have hD1:(CL.strs W).sub (aiI 1) W.length=.strs (W.drop 1):=by
  show CL.strs ((W.drop 1).take (W.length-1))=_;rw[←ai8,ail]
 have hD2:aiW (W.length-aiI 1) (aiX (aiI 1) W)=W.drop 1:=by
  show(W.drop 1).take (W.length-1)=_;rw[←ai8,ail]
 have hz':∀j,j<(W.drop 1).length→((W.drop 1).getD j .empty).size≤1000000:=fun j hj=>by
  rw[ai8]at hj;have e:(W.drop 1).getD j .empty=W.getD (1+j) .empty:=by simp[agt,List.getElem?_drop,Nat.add_comm]
  rw[e];exact hz _ (by omega)
 have hl':(W.drop 1).length≤1000000:=by rw[ai8];omega
 have hno:∀j,j<(W.drop 1).length→fK ((W.drop 1).getD j .empty) (decide (w=jm))=none→cO s w=none:=fun j hj e=>by
  unfold cO;rw[hW,if_neg];exact fun h=>by have:=h.2 j hj;rw[e]at this;exact absurd this (by decide)
 have hyes:okW (decide (w=jm)) (W.drop 1)→cO s w=some (numsL (decide (w=jm)) (W.drop 1)):=fun h=>by
  unfold cO;rw[hW,if_pos ⟨hw,h⟩]
 simp only[hD1,hD2];generalize W.drop 1=R at hz' hl' hno hyes⊢
 clear hD1 hD2;have hap:∀i n,i<R.length→fK (R.getD i .empty) (decide (w=jm))=some n→numsL (decide (w=jm)) (R.take (i+1))=numsL (decide (w=jm)) (R.take i)++[n]:=fun i n hi e=>by
  unfold numsL;rw[aij,aik,agy hi];rw[agt,agy hi,Option.getD_some]at e;simp[e]
 have hnl:∀i,i≤R.length→(numsL (decide (w=jm)) (R.take i)).length=i:=fun i hi=>by unfold numsL;rw[aif,ag6];omega
 refine aJ (X:=Nat) (fun i=>i≤R.length∧∀j,j<i→(fK (R.getD j .empty) (decide (w=jm))).isSome=true) (fun i=>[(22,.int .i64 i),(7,.isl (.ints .i64 (numsL (decide (w=jm)) (R.take i))) (.own 5))]) (fun i=>[(5,.tok 1 (numsL (decide (w=jm)) (R.take i)).length)]) (fun i=>R.length-i) 0 ⟨aG,mixed,aj,BM,aM⟩ (by rfl) ⟨by omega,fun j hj=>absurd hj (by omega)⟩ ?_ ?_
 ·repeat'((conv=>whnf);first|intro _|apply aI|with_reducible exact vM rfl|exact⟨⟩|apply nM|apply fM)
  all_goals((try apply vM);(try simp only[vq]at*);try omega)
  all_goals rfl
 intro i ⟨hi,hS⟩;have hli:=hnl i hi;by_cases hlt:i<R.length
 ·repeat'((conv=>whnf);first|(intro hq;(try simp only[vw]at hq);try first|exact absurd hq (by decide)|exfalso;omega)|apply aI|with_reducible exact vM rfl|exact⟨⟩|apply nM|apply fM)
  all_goals((try apply vM);(try simp only[vq]at*);try omega)
  all_goals(try omega)
  all_goals(try replace hq:=VC.get hq)
  all_goals first|exact hz' _ hlt|(rw[hno i hlt hq];exact Lh)|(rw[ahx,agb,af7,hli];omega)|skip
  rename_i n _;refine⟨i+1,[],⟨⟨by omega,fun j hj=>?_⟩,by omega⟩,?_⟩
  ·rcases ai9.1 hj with h|rfl
   ·exact hS j h
   ·rw[show fK (R.getD j .empty) (decide (w=jm))=some n from hq];rfl
  rw[hap i n hlt hq,ahx]
  repeat'((conv=>whnf);first|intro _|apply aI|with_reducible exact vM rfl|exact⟨⟩|apply nM|apply fM)
  all_goals((try apply vM);(try simp only[vq]at*);try omega)
  all_goals skip
 have e:i=R.length:=by omega
 subst e;rw[ail]
 repeat'((conv=>whnf);first|(intro hq;(try simp only[vw]at hq);try first|exact absurd hq (by decide)|exfalso;omega)|apply aI|with_reducible exact vM rfl|exact⟨⟩|apply nM|apply fM)
 all_goals((try apply vM);(try simp only[vq]at*);try omega)
 all_goals(try omega)
 rw[hyes (fun j hj=>hS j hj)];exact UY _
def U0:PSp:=fun xs K=>match xs with
 | [.str s,.str w]=>VC (s.size≤1000000)∧((VC (cO s w=none)→K (G5 none))∧∀l,VC (cO s w=some l)→K (G5 (some l)))
 |_=>False
theorem adw:POK Tryz.prog 162 U0:=by
 intro xs K hk;unfold U0 at hk;split at hk
 ·obtain⟨⟨h⟩,h1,h2⟩:=hk
  refine⟨_,?_,UZ _ _ h⟩;cases e:cO _ _ with
  |none=>exact h1 ⟨e⟩
  |some n=>exact h2 n ⟨e⟩
 ·exact hk.elim
structure Rd where
 c:Int
 L:List (List Int)
 sum:Int
 gv:List Int
 line:Int
 done:Bool
abbrev G6:ByteArray:=⟨#[99,101,108,108,115]⟩
abbrev EP:ByteArray:=⟨#[108,105,110,101]⟩
abbrev vW:ByteArray:=⟨#[103,105,118,101,110]⟩
noncomputable def nxt (r:Rd) (s:ByteArray):Bool × Rd:=
 if r.line+1≤2 then
  match cO s (if r.line=0 then G6 else jm)with
  |none=>(false,{r with line:=r.line+1})
  |some l=>if l.length≠1 then(false,{r with line:=r.line+1})else if r.line=0 then(true,{r with line:=r.line+1,c:=l.getD 0 0})else(true,{r with line:=r.line+1,sum:=l.getD 0 0})
 else if r.done=true then(false,{r with line:=r.line+1})
 else match cO s EP with
  |some l=>(true,{r with line:=r.line+1,L:=r.L++[l]})
  |none=>match cO s vW with
   |some l=>(true,{r with line:=r.line+1,gv:=l,done:=true})
   |none=>(false,{r with line:=r.line+1,gv:=[],done:=false})
abbrev rdO (r:Rd):List AO:=[.cells (.pv [.int .i64 r.c,.isl (.rows .i64 r.L) (.own 1),.int .i64 r.sum,.isl (.ints .i64 r.gv) .none,.int .i64 r.line,.bp r.done]) false,.tok 1 r.L.length]
noncomputable def aft:CPT:=aA 162 (aB U0) noC
theorem jF:aV Tryz.prog aft:=ak (au adw) aC
theorem clash {o:Option (List Int)} {l:List Int} (a:o=some l) (b:o=none):False:=by rw[a]at b;cases b
theorem U2 (r:Rd) (s:ByteArray) (hs:s.size≤1000000) (hl:0≤r.line∧r.line≤1000000) (hL:r.L.length≤1000000):
 jM Tryz.prog 115 [.rp 0 0,.str s] (rdO r) [.bp (nxt r s).1] (rdO (nxt r s).2):=by
 obtain⟨c,L,sum,gv,line,done⟩:=r;have hl:0≤line∧line≤1000000:=hl;have hL:L.length≤1000000:=hL;unfold nxt;simp only;by_cases h0:line=0
 ·subst h0
  rw[if_pos (by decide),if_pos rfl]
  cases e:cO s G6 with
  |none=>
   refine bL (md:=1) (rf:=[]) mixed aj jF 2 [] Tryz.func115 (by rfl) (by rfl) (by rfl) ?_
   repeat'((conv=>whnf);first|(intro hq;(try simp only[vw]at hq);try first|exact absurd hq (by decide)|exfalso;omega)|apply aI|with_reducible exact vM rfl|exact⟨⟩|apply nM|apply fM)
   all_goals((try apply vM);(try simp only[vq]at*);try omega)
   all_goals(try(exfalso;omega))
   all_goals(try(exfalso;exact clash (VC.get ‹VC (cO s _=some _)›) e))
   all_goals(try(exfalso;exact clash e (VC.get ‹VC (cO s _=none)›)))
   all_goals first|rfl|omega|exact(by decide:(1:Nat)≤2)|exact(by decide:(2:Nat)≤2)|(rw[ahx,agb,af7];omega)|(rw[ahx,agb,af7])
  |some l=>
   by_cases h1:l.length=1
   ·simp only[h1,ne_eq,not_true_eq_false,if_false,if_true]
    refine bL (md:=1) (rf:=[]) mixed aj jF 2 [] Tryz.func115 (by rfl) (by rfl) (by rfl) ?_
    repeat'((conv=>whnf);first|(intro hq;(try simp only[vw]at hq);try first|exact absurd hq (by decide)|exfalso;omega)|apply aI|with_reducible exact vM rfl|exact⟨⟩|apply nM|apply fM)
    all_goals((try apply vM);(try simp only[vq]at*);try omega)
    all_goals(try(exfalso;omega))
    all_goals(try(exfalso;exact clash (VC.get ‹VC (cO s _=some _)›) e))
    all_goals(try(exfalso;exact clash e (VC.get ‹VC (cO s _=none)›)))
    all_goals(try(obtain rfl:=Option.some.inj ((VC.get ‹VC (cO s _=some _)›).symm.trans e)))
    all_goals first|rfl|omega|exact(by decide:(1:Nat)≤2)|exact(by decide:(2:Nat)≤2)|(rw[ahx,agb,af7];omega)|(rw[ahx,agb,af7])
   ·simp only[h1,ne_eq,not_false_eq_true,if_false,if_true]
    refine bL (md:=1) (rf:=[]) mixed aj jF 2 [] Tryz.func115 (by rfl) (by rfl) (by rfl) ?_
    repeat'((conv=>whnf);first|(intro hq;(try simp only[vw]at hq);try first|exact absurd hq (by decide)|exfalso;omega)|apply aI|with_reducible exact vM rfl|exact⟨⟩|apply nM|apply fM)
    all_goals((try apply vM);(try simp only[vq]at*);try omega)
    all_goals(try(exfalso;omega))
    all_goals(try(exfalso;exact clash (VC.get ‹VC (cO s _=some _)›) e))
    all_goals(try(exfalso;exact clash e (VC.get ‹VC (cO s _=none)›)))
    all_goals(try(obtain rfl:=Option.some.inj ((VC.get ‹VC (cO s _=some _)›).symm.trans e)))
    all_goals first|rfl|omega|exact(by decide:(1:Nat)≤2)|exact(by decide:(2:Nat)≤2)|(rw[ahx,agb,af7];omega)|(rw[ahx,agb,af7])
 by_cases h1:line=1
 ·subst h1
  rw[if_pos (by decide),if_neg (by decide)]
  cases e:cO s jm with
  |none=>
   refine bL (md:=1) (rf:=[]) mixed aj jF 2 [] Tryz.func115 (by rfl) (by rfl) (by rfl) ?_
   repeat'((conv=>whnf);first|(intro hq;(try simp only[vw]at hq);try first|exact absurd hq (by decide)|exfalso;omega)|apply aI|with_reducible exact vM rfl|exact⟨⟩|apply nM|apply fM)
   all_goals((try apply vM);(try simp only[vq]at*);try omega)
   all_goals(try(exfalso;omega))
   all_goals(try(exfalso;exact clash (VC.get ‹VC (cO s _=some _)›) e))
   all_goals(try(exfalso;exact clash e (VC.get ‹VC (cO s _=none)›)))
   all_goals first|rfl|omega|exact(by decide:(1:Nat)≤2)|exact(by decide:(2:Nat)≤2)|(rw[ahx,agb,af7];omega)|(rw[ahx,agb,af7])
  |some l=>
   by_cases h1:l.length=1
   ·simp only[h1,ne_eq,not_true_eq_false,if_false]
    rw[if_neg (by decide)]
    refine bL (md:=1) (rf:=[]) mixed aj jF 2 [] Tryz.func115 (by rfl) (by rfl) (by rfl) ?_
    repeat'((conv=>whnf);first|(intro hq;(try simp only[vw]at hq);try first|exact absurd hq (by decide)|exfalso;omega)|apply aI|with_reducible exact vM rfl|exact⟨⟩|apply nM|apply fM)
    all_goals((try apply vM);(try simp only[vq]at*);try omega)
    all_goals(try(exfalso;omega))
    all_goals(try(exfalso;exact clash (VC.get ‹VC (cO s _=some _)›) e))
    all_goals(try(exfalso;exact clash e (VC.get ‹VC (cO s _=none)›)))
    all_goals(try(obtain rfl:=Option.some.inj ((VC.get ‹VC (cO s _=some _)›).symm.trans e)))
    all_goals first|rfl|omega|exact(by decide:(1:Nat)≤2)|exact(by decide:(2:Nat)≤2)|(rw[ahx,agb,af7];omega)|(rw[ahx,agb,af7])
   ·simp only[h1,ne_eq,not_false_eq_true,if_true]
    refine bL (md:=1) (rf:=[]) mixed aj jF 2 [] Tryz.func115 (by rfl) (by rfl) (by rfl) ?_
    repeat'((conv=>whnf);first|(intro hq;(try simp only[vw]at hq);try first|exact absurd hq (by decide)|exfalso;omega)|apply aI|with_reducible exact vM rfl|exact⟨⟩|apply nM|apply fM)
    all_goals((try apply vM);(try simp only[vq]at*);try omega)
    all_goals(try(exfalso;omega))
    all_goals(try(exfalso;exact clash (VC.get ‹VC (cO s _=some _)›) e))
    all_goals(try(exfalso;exact clash e (VC.get ‹VC (cO s _=none)›)))
    all_goals(try(obtain rfl:=Option.some.inj ((VC.get ‹VC (cO s _=some _)›).symm.trans e)))
    all_goals first|rfl|omega|exact(by decide:(1:Nat)≤2)|exact(by decide:(2:Nat)≤2)|(rw[ahx,agb,af7];omega)|(rw[ahx,agb,af7])
 rw[if_neg (by omega)]
 cases done with
 |true=>
  rw[if_pos rfl];refine bL (md:=1) (rf:=[]) mixed aj jF 2 [] Tryz.func115 (by rfl) (by rfl) (by rfl) ?_
  repeat'((conv=>whnf);first|(intro hq;(try simp only[vw]at hq);try first|exact absurd hq (by decide)|exfalso;omega)|apply aI|with_reducible exact vM rfl|exact⟨⟩|apply nM|apply fM)
  all_goals((try apply vM);(try simp only[vq]at*);try omega)
  all_goals(try(exfalso;omega))
  all_goals first|rfl|omega|exact(by decide:(1:Nat)≤2)|exact(by decide:(2:Nat)≤2)|(rw[ahx,agb,af7];omega)|(rw[ahx,agb,af7])
 |false=>
  rw[if_neg (by decide)]
  cases e:cO s EP with
  |some l=>
   refine bL (md:=1) (rf:=[]) mixed aj jF 2 [] Tryz.func115 (by rfl) (by rfl) (by rfl) ?_
   repeat'((conv=>whnf);first|(intro hq;(try simp only[vw]at hq);try first|exact absurd hq (by decide)|exfalso;omega)|apply aI|with_reducible exact vM rfl|exact⟨⟩|apply nM|apply fM)
   all_goals((try apply vM);(try simp only[vq]at*);try omega)
   all_goals(try(exfalso;omega))
   all_goals(try(exfalso;exact clash (VC.get ‹VC (cO s _=some _)›) e))
   all_goals(try(exfalso;exact clash e (VC.get ‹VC (cO s _=none)›)))
   all_goals(try(obtain rfl:=Option.some.inj ((VC.get ‹VC (cO s _=some _)›).symm.trans e)))
   all_goals first|rfl|omega|exact(by decide:(1:Nat)≤2)|exact(by decide:(2:Nat)≤2)|(rw[ahx,agb,af7];omega)|(rw[ahx,agb,af7])
  |none=>
   cases e2:cO s vW with
   |none=>
    refine bL (md:=1) (rf:=[]) mixed aj jF 2 [] Tryz.func115 (by rfl) (by rfl) (by rfl) ?_
    repeat'((conv=>whnf);first|(intro hq;(try simp only[vw]at hq);try first|exact absurd hq (by decide)|exfalso;omega)|apply aI|with_reducible exact vM rfl|exact⟨⟩|apply nM|apply fM)
    all_goals((try apply vM);(try simp only[vq]at*);try omega)
    all_goals(try(exfalso;omega))
    all_goals(try(exfalso;exact clash (VC.get ‹VC (cO s _=some _)›) e))
    all_goals(try(exfalso;exact clash e (VC.get ‹VC (cO s _=none)›)))
    all_goals(try(exfalso;exact clash (VC.get ‹VC (cO s _=some _)›) e2))
    all_goals first|rfl|omega|exact(by decide:(1:Nat)≤2)|exact(by decide:(2:Nat)≤2)|(rw[ahx,agb,af7];omega)|(rw[ahx,agb,af7])
   |some l=>
    refine bL (md:=1) (rf:=[]) mixed aj jF 2 [] Tryz.func115 (by rfl) (by rfl) (by rfl) ?_
    repeat'((conv=>whnf);first|(intro hq;(try simp only[vw]at hq);try first|exact absurd hq (by decide)|exfalso;omega)|apply aI|with_reducible exact vM rfl|exact⟨⟩|apply nM|apply fM)
    all_goals((try apply vM);(try simp only[vq]at*);try omega)
    all_goals(try(exfalso;omega))
    all_goals(try(exfalso;exact clash (VC.get ‹VC (cO s _=some _)›) e))
    all_goals(try(exfalso;exact clash e (VC.get ‹VC (cO s _=none)›)))
    all_goals(try(exfalso;exact clash e2 (VC.get ‹VC (cO s vW=none)›)))
    all_goals(try(obtain rfl:=Option.some.inj ((VC.get ‹VC (cO s _=some _)›).symm.trans e2)))
    all_goals first|rfl|omega|exact(by decide:(1:Nat)≤2)|exact(by decide:(2:Nat)≤2)|(rw[ahx,agb,af7];omega)|(rw[ahx,agb,af7])
def U3:LSp:=fun xs objs K=>match xs,objs with
 | [.rp 0 0,.str s],[.cells (.pv [.int .i64 c,.isl (.rows .i64 L) (.own 1),.int .i64 sum,.isl (.ints .i64 gv) .none,.int .i64 line,.bp done]) false,.tok 1 m]=>
  VC (m=L.length∧s.size≤1000000∧(0≤line∧line≤1000000)∧L.length≤1000000)∧K [.bp (nxt ⟨c,L,sum,gv,line,done⟩ s).1] (rdO (nxt ⟨c,L,sum,gv,line,done⟩ s).2)
 |_,_=>False
theorem adx:LOK Tryz.prog 115 U3:=by
 intro xs objs K hk;unfold U3 at hk;split at hk
 ·obtain⟨⟨rfl,h1,h2,h3⟩,hk⟩:=hk
  exact⟨_,_,hk,U2 ⟨_,_,_,_,_,_⟩ _ h1 h2 h3⟩
 ·exact hk.elim
end Go.Eng.YtcechbdgokjmgaaGreatDoor
namespace Go.Eng.YtcechbdgokjmgaaGreatDoor
open Go.Proofs
set_option linter.unusedSimpArgs false
set_option linter.unusedVariables false
set_option maxHeartbeats 0
set_option maxRecDepth 100000
def pz:PSp:=fun xs K=>match xs with
 | [.str r]=>∃g:Int,VC (aQ r=g)∧K (.int .i64 g)
 |_=>False
theorem qP:POK Tryz.prog 101 pz:=by
 intro xs K hk;unfold pz at hk;split at hk
 ·obtain⟨g,⟨rfl⟩,hk⟩:=hk
  exact⟨_,hk,OE _⟩
 ·exact hk.elim
structure lD (c:Int) (ls:List (List Int)) (r:ByteArray) (y x k:Int):Prop where
 g:1≤aQ r
 y:0≤y∧y<c
 x:1≤x∧x≤c
 k:aQ r=2∨aQ r=3∨(0≤k∧k<ls.length)
abbrev bdO (c:Int) (ls:List (List Int)) (sum:Int) (gv:List Int) (s:St) (n:Nat):List AO:=[.cells (.pv [.int .i64 c,.isl (.rows .i64 ls) .none,.int .i64 sum,.isl (.ints .i64 gv) .none,.rsl 1 0 n,.rsl 2 0 n]) false,.cells (.ints .u32 (ms s.cs)) false,.cells (.bools s.ds) false]
noncomputable def afu:CPT:=aA 101 (aB pz) (aA 130 (aB qp) noC)
theorem lN:aV Tryz.prog afu:=ak (au qP) (ak (au qw) aC)
theorem og (cs:List (List Int)) (i:Nat) (l:List Int):(ms cs).set i (mk l:Nat)=ms (cs.set i l):=by unfold ms;rw[List.map_set]
def dlt (cs:List (List Int)) (x:Int) (i:Nat):List (List Int):=(agr cs.length).map fun j=>if j<i then dw (cs.getD j []) x else cs.getD j []
theorem pE (cs:List (List Int)) (x:Int) (i:Nat):(dlt cs x i).length=cs.length:=by simp[dlt]
theorem yP (cs:List (List Int)) (x:Int):dlt cs x 0=cs:=by
 refine aja (pE _ _ _) fun j h1 h2=>?_;simp[dlt,agt,h2]
theorem BN (cs:List (List Int)) (x:Int):dlt cs x cs.length=cs.map fun l=>dw l x:=by
 refine aja (by simp[pE]) fun j h1 h2=>?_
 have hj:j<cs.length:=by simpa using h2
 simp[dlt,agt,hj]
theorem G7 {cs:List (List Int)} {x:Int} {i:Nat} (h:i<cs.length):(dlt cs x i).getD i []=cs.getD i []:=by
 simp[dlt,agt,h]
theorem yQ {cs:List (List Int)} {x:Int} {i:Nat} (h:i<cs.length):(dlt cs x i).set i (dw (cs.getD i []) x)=dlt cs x (i+1):=by
 refine aja (by simp[pE]) fun j h1 h2=>?_
 rw[ajb];simp only[dlt,ajc,ajd];by_cases e:i=j
 ·subst e;rw[if_pos rfl,if_pos (by omega)]
 ·rw[if_neg e]
  by_cases hl:j<i
  ·rw[if_pos hl,if_pos (by omega)]
  ·rw[if_neg hl,if_neg (by omega)]
theorem OH (c:Int) (ls:List (List Int)) (sum:Int) (gv:List Int) (s:St) (n:Nat) (h:bB c ls sum s) (hn:n=s.cs.length) (r:ByteArray) (y x k:Int) (hd:lD c ls r y x k):
 jM Tryz.prog 128 [.rp 0 0,ddV r y x k] (bdO c ls sum gv s n) [] (bdO c ls sum gv (apl (aQ r).toNat s y x) n):=by
 have hc:=h.c1;have hy:=hd.y;have hx:=hd.x;have hxs:=h.at hy;have hm:(ms s.cs).getD y.toNat 0=(mk (s.cd y.toNat):Nat):=fG hxs.1;have hA:=(h.asc _ hxs.1).1;have hr:=qj hA;have hlen:=dR s.cs;have hcl:=h.cl;have hdl:=h.dl;have hte:=Aa;have hsb:=kU x.toNat (by omega)
 have hdel:=rF hA.inM (show 0≤x∧x≤31 by omega)
 have hone:(1:Int)*2 ^ x.toNat=((mk [x]:Nat):Int):=by rw[mk_one,ais];norm_cast
 have hm1:y.toNat+1≤(ms s.cs).length∧y.toNat+1≤s.ds.length∧y<n:=by omega
 obtain⟨rfl,hg⟩|⟨rfl,hg⟩|⟨rfl,hg⟩|⟨rfl,hg⟩|⟨rfl,hg⟩|hg:=nA r
 ·rw[hg,show apl (aiI 1) s y x=⟨(s.cs.map fun l=>dw l x).set y.toNat [x],s.ds.set y.toNat true⟩from rfl]
  refine bL (md:=1) (rf:=[]) mixed aj lN 3 [] Tryz.func128 (by rfl) (by rfl) (by rfl) ?_
  repeat'((conv=>whnf);first|refine Exists.intro (1) ?_|(intro hq;(try simp only[vw]at hq);try first|exact absurd hq (by decide)|exfalso;omega)|apply aI|with_reducible exact vM rfl|exact⟨⟩|apply nM|apply fM)
  all_goals((try apply vM);(try simp only[vq]at*);try omega)
  all_goals(try first|omega|(rw[hte];decide))
  conv=>whnf
  refine aJ (X:=Nat) (fun i=>i≤s.cs.length) (fun i=>[(30,.int .i64 i)]) (fun i=>[(1,.cells (.ints .u32 (ms (dlt s.cs x i))) false)]) (fun i=>s.cs.length-i) 0 ⟨aG,mixed,aj,lN,aM⟩ (by rfl) (by omega) ?_ ?_
  ·repeat'((conv=>whnf);first|intro _|apply aI|with_reducible exact vM rfl|exact⟨⟩|apply nM|apply fM)
   all_goals((try apply vM);(try simp only[vq]at*);try omega)
   all_goals(try rw[yP])
  intro i hi;have hl1:=dR (dlt s.cs x i);have hl2:=pE s.cs x i;by_cases hlt:i<s.cs.length
  ·have hAi:=(h.asc _ hlt).1
   have hmi:(ms (dlt s.cs x i)).getD i 0=(mk (s.cd i):Nat):=by rw[fG (by omega),G7 hlt];rfl
   have hdi:=rF hAi.inM (show 0≤x∧x≤31 by omega)
   repeat'((conv=>whnf);first|(intro hq;(try simp only[vw]at hq);try first|exact absurd hq (by decide)|exfalso;omega)|apply aI|with_reducible exact vM rfl|exact⟨⟩|apply nM|apply fM)
   all_goals((try apply vM);(try simp only[vq]at*);try omega)
   all_goals(try omega)
   refine⟨i+1,[],⟨by omega,by omega⟩,?_⟩
   repeat'((conv=>whnf);first|intro _|apply aI|with_reducible exact vM rfl|exact⟨⟩|apply nM|apply fM)
   all_goals((try apply vM);(try simp only[vq]at*);try omega)
   all_goals(rw[hmi,hdi,og];exact congrArg ms (yQ hlt))
  ·have:i=s.cs.length:=by omega
   subst this;rw[BN]at*
   repeat'((conv=>whnf);first|(intro hq;(try simp only[vw]at hq);try first|exact absurd hq (by decide)|exfalso;omega)|apply aI|with_reducible exact vM rfl|exact⟨⟩|apply nM|apply fM)
   all_goals((try apply vM);(try simp only[vq]at*);try omega)
   all_goals(try omega)
   all_goals(rw[hone];exact og _ _ _)
 ·rw[hg,show apl (aiI 2) s y x=⟨(s.cs.map fun l=>dw l x).set y.toNat [x],s.ds.set y.toNat true⟩from rfl]
  refine bL (md:=1) (rf:=[]) mixed aj lN 3 [] Tryz.func128 (by rfl) (by rfl) (by rfl) ?_
  repeat'((conv=>whnf);first|refine Exists.intro (2) ?_|(intro hq;(try simp only[vw]at hq);try first|exact absurd hq (by decide)|exfalso;omega)|apply aI|with_reducible exact vM rfl|exact⟨⟩|apply nM|apply fM)
  all_goals((try apply vM);(try simp only[vq]at*);try omega)
  all_goals(try first|omega|(rw[hte];decide))
  conv=>whnf
  refine aJ (X:=Nat) (fun i=>i≤s.cs.length) (fun i=>[(30,.int .i64 i)]) (fun i=>[(1,.cells (.ints .u32 (ms (dlt s.cs x i))) false)]) (fun i=>s.cs.length-i) 0 ⟨aG,mixed,aj,lN,aM⟩ (by rfl) (by omega) ?_ ?_
  ·repeat'((conv=>whnf);first|intro _|apply aI|with_reducible exact vM rfl|exact⟨⟩|apply nM|apply fM)
   all_goals((try apply vM);(try simp only[vq]at*);try omega)
   all_goals(try rw[yP])
  intro i hi;have hl1:=dR (dlt s.cs x i);have hl2:=pE s.cs x i;by_cases hlt:i<s.cs.length
  ·have hAi:=(h.asc _ hlt).1
   have hmi:(ms (dlt s.cs x i)).getD i 0=(mk (s.cd i):Nat):=by rw[fG (by omega),G7 hlt];rfl
   have hdi:=rF hAi.inM (show 0≤x∧x≤31 by omega)
   repeat'((conv=>whnf);first|(intro hq;(try simp only[vw]at hq);try first|exact absurd hq (by decide)|exfalso;omega)|apply aI|with_reducible exact vM rfl|exact⟨⟩|apply nM|apply fM)
   all_goals((try apply vM);(try simp only[vq]at*);try omega)
   all_goals(try omega)
   refine⟨i+1,[],⟨by omega,by omega⟩,?_⟩
   repeat'((conv=>whnf);first|intro _|apply aI|with_reducible exact vM rfl|exact⟨⟩|apply nM|apply fM)
   all_goals((try apply vM);(try simp only[vq]at*);try omega)
   all_goals(rw[hmi,hdi,og];exact congrArg ms (yQ hlt))
  ·have:i=s.cs.length:=by omega
   subst this;rw[BN]at*
   repeat'((conv=>whnf);first|(intro hq;(try simp only[vw]at hq);try first|exact absurd hq (by decide)|exfalso;omega)|apply aI|with_reducible exact vM rfl|exact⟨⟩|apply nM|apply fM)
   all_goals((try apply vM);(try simp only[vq]at*);try omega)
   all_goals(try omega)
   all_goals(rw[hone];exact og _ _ _)
 ·rw[hg,show apl (aiI 3) s y x=⟨(s.cs.map fun l=>dw l x).set y.toNat [x],s.ds.set y.toNat true⟩from rfl]
  refine bL (md:=1) (rf:=[]) mixed aj lN 3 [] Tryz.func128 (by rfl) (by rfl) (by rfl) ?_
  repeat'((conv=>whnf);first|refine Exists.intro (3) ?_|(intro hq;(try simp only[vw]at hq);try first|exact absurd hq (by decide)|exfalso;omega)|apply aI|with_reducible exact vM rfl|exact⟨⟩|apply nM|apply fM)
  all_goals((try apply vM);(try simp only[vq]at*);try omega)
  all_goals(try first|omega|(rw[hte];decide))
  conv=>whnf
  refine aJ (X:=Nat) (fun i=>i≤s.cs.length) (fun i=>[(30,.int .i64 i)]) (fun i=>[(1,.cells (.ints .u32 (ms (dlt s.cs x i))) false)]) (fun i=>s.cs.length-i) 0 ⟨aG,mixed,aj,lN,aM⟩ (by rfl) (by omega) ?_ ?_
  ·repeat'((conv=>whnf);first|intro _|apply aI|with_reducible exact vM rfl|exact⟨⟩|apply nM|apply fM)
   all_goals((try apply vM);(try simp only[vq]at*);try omega)
   all_goals(try rw[yP])
  intro i hi;have hl1:=dR (dlt s.cs x i);have hl2:=pE s.cs x i;by_cases hlt:i<s.cs.length
  ·have hAi:=(h.asc _ hlt).1
   have hmi:(ms (dlt s.cs x i)).getD i 0=(mk (s.cd i):Nat):=by rw[fG (by omega),G7 hlt];rfl
   have hdi:=rF hAi.inM (show 0≤x∧x≤31 by omega)
   repeat'((conv=>whnf);first|(intro hq;(try simp only[vw]at hq);try first|exact absurd hq (by decide)|exfalso;omega)|apply aI|with_reducible exact vM rfl|exact⟨⟩|apply nM|apply fM)
   all_goals((try apply vM);(try simp only[vq]at*);try omega)
   all_goals(try omega)
   refine⟨i+1,[],⟨by omega,by omega⟩,?_⟩
   repeat'((conv=>whnf);first|intro _|apply aI|with_reducible exact vM rfl|exact⟨⟩|apply nM|apply fM)
   all_goals((try apply vM);(try simp only[vq]at*);try omega)
   all_goals(rw[hmi,hdi,og];exact congrArg ms (yQ hlt))
  ·have:i=s.cs.length:=by omega
   subst this;rw[BN]at*
   repeat'((conv=>whnf);first|(intro hq;(try simp only[vw]at hq);try first|exact absurd hq (by decide)|exfalso;omega)|apply aI|with_reducible exact vM rfl|exact⟨⟩|apply nM|apply fM)
   all_goals((try apply vM);(try simp only[vq]at*);try omega)
   all_goals(try omega)
   all_goals(rw[hone];exact og _ _ _)
 ·rw[hg,show apl (aiI 4) s y x=⟨s.cs.set y.toNat (dw (s.cd y.toNat) x),s.ds⟩from rfl]
  refine bL (md:=1) (rf:=[]) mixed aj lN 3 [] Tryz.func128 (by rfl) (by rfl) (by rfl) ?_
  repeat'((conv=>whnf);first|refine Exists.intro (4) ?_|(intro hq;(try simp only[vw]at hq);try first|exact absurd hq (by decide)|exfalso;omega)|apply aI|with_reducible exact vM rfl|exact⟨⟩|apply nM|apply fM)
  all_goals((try apply vM);(try simp only[vq]at*);try omega)
  all_goals(try first|omega|(rw[hte];decide))
  all_goals(try rw[hm,hdel,og])
 ·rw[hg,show apl (aiI 5) s y x=⟨s.cs.set y.toNat (dw (s.cd y.toNat) x),s.ds⟩from rfl]
  refine bL (md:=1) (rf:=[]) mixed aj lN 3 [] Tryz.func128 (by rfl) (by rfl) (by rfl) ?_
  repeat'((conv=>whnf);first|refine Exists.intro (5) ?_|(intro hq;(try simp only[vw]at hq);try first|exact absurd hq (by decide)|exfalso;omega)|apply aI|with_reducible exact vM rfl|exact⟨⟩|apply nM|apply fM)
  all_goals((try apply vM);(try simp only[vq]at*);try omega)
  all_goals(try first|omega|(rw[hte];decide))
  all_goals(try rw[hm,hdel,og])
 have:=hd.g;omega
def dz (c:Int) (ls:List (List Int)) (r:ByteArray) (y x k:Int):Int:=
 if aQ r=0 then 13 else if y<0∨c≤y then 10 else if x<1∨c<x then 3 else if aQ r=2∨aQ r=3 then(if k≠ -1 then 10 else 0)else if k<0∨ls.length≤k∨y∉ls.getD k.toNat []then 10 else 0
noncomputable def afv:CPT:=aA 88 (aB jE) (aA 89 (aB gX) (aA 94 (aB Ak) (aA 101 (aB pz) (aA 130 (aB qp) noC))))
theorem lQ:aV Tryz.prog afv:=ak (au iX) (ak (au jZ) (ak (au BG) (ak (au qP) (ak (au qw) aC))))
theorem U4 (c:Int) (ls:List (List Int)) (sum:Int) (gv:List Int) (h:bH ls) (r:ByteArray) (y x k:Int):
 aF Tryz.prog 126 [pzV c ls sum gv,ddV r y x k] (.int .i64 (dz c ls r y x k)):=by
 have hte:=Aa;have h4:=fun i=>h.at' i;have h2:=h.len;by_cases hg:aQ r=0
 ·rw[show dz c ls r y x k=13 by unfold dz;rw[if_pos hg]]
  refine av (md:=1) (rf:=[]) mixed aj lQ Tryz.func126 (by rfl) (by rfl) (by rfl) ?_
  repeat'((conv=>whnf);first|refine Exists.intro (0) ?_|(intro hq;(try simp only[vw]at hq);try first|exact absurd hq (by decide)|exfalso;omega)|apply aI|with_reducible exact vM rfl|exact⟨⟩|apply nM|apply fM)
  all_goals((try apply vM);(try simp only[vq]at*);try omega)
  all_goals first|exact hg|(exfalso;simp[aL]at hq;done)|(exact Sup.of (by simp[bG,aL]))|skip
 by_cases hy:y<0∨c≤y
 ·rw[show dz c ls r y x k=10 by unfold dz;rw[if_neg hg,if_pos hy]]
  refine av (md:=1) (rf:=[]) mixed aj lQ Tryz.func126 (by rfl) (by rfl) (by rfl) ?_
  repeat'((conv=>whnf);first|refine Exists.intro (aQ r) ?_|(intro hq;(try simp only[vw]at hq);try first|exact absurd hq (by decide)|exfalso;omega)|apply aI|with_reducible exact vM rfl|exact⟨⟩|apply nM|apply fM)
  all_goals((try apply vM);(try simp only[vq]at*);try omega)
  all_goals(try rw[if_neg hg]at hq)
  all_goals(try rw[if_neg hg])
  all_goals first|(exfalso;simp_all[aL];done)|(exact Sup.of (by simp_all[bG,aL]))|skip
 by_cases hx:x<1∨c<x
 ·rw[show dz c ls r y x k=3 by unfold dz;rw[if_neg hg,if_neg hy,if_pos hx]]
  have hy1:¬y<0:=fun e=>hy (.inl e);have hy2:¬c≤y:=fun e=>hy (.inr e);clear hy;refine av (md:=1) (rf:=[]) mixed aj lQ Tryz.func126 (by rfl) (by rfl) (by rfl) ?_
  repeat'((conv=>whnf);first|refine Exists.intro (aQ r) ?_|(intro hq;(try simp only[vw]at hq);try first|exact absurd hq (by decide)|exfalso;omega)|apply aI|with_reducible exact vM rfl|exact⟨⟩|apply nM|apply fM)
  all_goals((try apply vM);(try simp only[vq]at*);try omega)
  all_goals(try rw[if_neg hg]at hq)
  all_goals(try rw[if_neg hg])
  all_goals first|(exfalso;simp_all[aL];done)|(exact Sup.of (by simp_all[bG,aL]))|skip
 have hy1:¬y<0:=fun e=>hy (.inl e);have hy2:¬c≤y:=fun e=>hy (.inr e);have hx1:¬x<1:=fun e=>hx (.inl e);have hx2:¬c<x:=fun e=>hx (.inr e);obtain⟨rfl,hgr⟩|⟨rfl,hgr⟩|⟨rfl,hgr⟩|⟨rfl,hgr⟩|⟨rfl,hgr⟩|hgr:=nA r
 ·rw[show dz c ls bM y x k=if k<0∨ls.length≤k∨y∉ls.getD k.toNat []then 10 else 0 by unfold dz;rw[if_neg (by rw[hgr];decide),if_neg hy,if_neg hx,if_neg (by rw[hgr];decide)]]
  clear hy hx hg;refine av (md:=1) (rf:=[]) mixed aj lQ Tryz.func126 (by rfl) (by rfl) (by rfl) ?_
  repeat'((conv=>whnf);first|refine Exists.intro (1) ?_|(intro hq;(try simp only[vw]at hq);try first|exact absurd hq (by decide)|exfalso;omega)|apply aI|with_reducible exact vM rfl|exact⟨⟩|apply nM|apply fM)
  all_goals((try apply vM);(try simp only[vq]at*);try omega)
  all_goals first|exact hgr|(rw[hte];decide)|(exfalso;simp_all[aL];done)|(have:=h4 k.toNat;omega)|skip
  all_goals(refine Sup.of (congrArg (PV.int .i64) ?_))
  ·rename_i h9
   by_cases hm:y∈ls.getD k.toNat []
   ·rw[if_neg (show¬(k<0∨ ↑ls.length≤k∨¬y∈ls.getD k.toNat [])from fun e=>by rcases e with e|e|e;exact h9 e;exact hq e;exact e hm),decide_eq_true hm];rfl
   ·rw[if_pos (show k<0∨ ↑ls.length≤k∨¬y∈ls.getD k.toNat []from .inr (.inr hm)),decide_eq_false hm];rfl
  ·rw[if_pos trivial,if_pos (.inr (.inl hq))]
  ·rw[if_pos trivial,if_pos (.inl hq)]
 ·rw[show dz c ls bV y x k=if k≠ -1 then 10 else 0 by unfold dz;rw[if_neg (by rw[hgr];decide),if_neg hy,if_neg hx,if_pos (by rw[hgr];decide)]]
  clear hy hx hg;refine av (md:=1) (rf:=[]) mixed aj lQ Tryz.func126 (by rfl) (by rfl) (by rfl) ?_
  repeat'((conv=>whnf);first|refine Exists.intro (2) ?_|(intro hq;(try simp only[vw]at hq);try first|exact absurd hq (by decide)|exfalso;omega)|apply aI|with_reducible exact vM rfl|exact⟨⟩|apply nM|apply fM)
  all_goals((try apply vM);(try simp only[vq]at*);try omega)
  all_goals first|exact hgr|(rw[hte];decide)|(exfalso;simp_all[aL];done)|(exact Sup.of (by simp[bG]))|skip
 ·rw[show dz c ls bW y x k=if k≠ -1 then 10 else 0 by unfold dz;rw[if_neg (by rw[hgr];decide),if_neg hy,if_neg hx,if_pos (by rw[hgr];decide)]]
  clear hy hx hg;refine av (md:=1) (rf:=[]) mixed aj lQ Tryz.func126 (by rfl) (by rfl) (by rfl) ?_
  repeat'((conv=>whnf);first|refine Exists.intro (3) ?_|(intro hq;(try simp only[vw]at hq);try first|exact absurd hq (by decide)|exfalso;omega)|apply aI|with_reducible exact vM rfl|exact⟨⟩|apply nM|apply fM)
  all_goals((try apply vM);(try simp only[vq]at*);try omega)
  all_goals first|exact hgr|(rw[hte];decide)|(exfalso;simp_all[aL];done)|(exact Sup.of (by simp[bG]))|skip
 ·rw[show dz c ls bT y x k=if k<0∨ls.length≤k∨y∉ls.getD k.toNat []then 10 else 0 by unfold dz;rw[if_neg (by rw[hgr];decide),if_neg hy,if_neg hx,if_neg (by rw[hgr];decide)]]
  clear hy hx hg;refine av (md:=1) (rf:=[]) mixed aj lQ Tryz.func126 (by rfl) (by rfl) (by rfl) ?_
  repeat'((conv=>whnf);first|refine Exists.intro (4) ?_|(intro hq;(try simp only[vw]at hq);try first|exact absurd hq (by decide)|exfalso;omega)|apply aI|with_reducible exact vM rfl|exact⟨⟩|apply nM|apply fM)
  all_goals((try apply vM);(try simp only[vq]at*);try omega)
  all_goals first|exact hgr|(rw[hte];decide)|(exfalso;simp_all[aL];done)|(have:=h4 k.toNat;omega)|skip
  all_goals(refine Sup.of (congrArg (PV.int .i64) ?_))
  ·rename_i h9
   by_cases hm:y∈ls.getD k.toNat []
   ·rw[if_neg (show¬(k<0∨ ↑ls.length≤k∨¬y∈ls.getD k.toNat [])from fun e=>by rcases e with e|e|e;exact h9 e;exact hq e;exact e hm),decide_eq_true hm];rfl
   ·rw[if_pos (show k<0∨ ↑ls.length≤k∨¬y∈ls.getD k.toNat []from .inr (.inr hm)),decide_eq_false hm];rfl
  ·rw[if_pos trivial,if_pos (.inr (.inl hq))]
  ·rw[if_pos trivial,if_pos (.inl hq)]
 ·rw[show dz c ls bU y x k=if k<0∨ls.length≤k∨y∉ls.getD k.toNat []then 10 else 0 by unfold dz;rw[if_neg (by rw[hgr];decide),if_neg hy,if_neg hx,if_neg (by rw[hgr];decide)]]
  clear hy hx hg;refine av (md:=1) (rf:=[]) mixed aj lQ Tryz.func126 (by rfl) (by rfl) (by rfl) ?_
  repeat'((conv=>whnf);first|refine Exists.intro (5) ?_|(intro hq;(try simp only[vw]at hq);try first|exact absurd hq (by decide)|exfalso;omega)|apply aI|with_reducible exact vM rfl|exact⟨⟩|apply nM|apply fM)
  all_goals((try apply vM);(try simp only[vq]at*);try omega)
  all_goals first|exact hgr|(rw[hte];decide)|(exfalso;simp_all[aL];done)|(have:=h4 k.toNat;omega)|skip
  all_goals(refine Sup.of (congrArg (PV.int .i64) ?_))
  ·rename_i h9
   by_cases hm:y∈ls.getD k.toNat []
   ·rw[if_neg (show¬(k<0∨ ↑ls.length≤k∨¬y∈ls.getD k.toNat [])from fun e=>by rcases e with e|e|e;exact h9 e;exact hq e;exact e hm),decide_eq_true hm];rfl
   ·rw[if_pos (show k<0∨ ↑ls.length≤k∨¬y∈ls.getD k.toNat []from .inr (.inr hm)),decide_eq_false hm];rfl
  ·rw[if_pos trivial,if_pos (.inr (.inl hq))]
  ·rw[if_pos trivial,if_pos (.inl hq)]
 exact absurd hgr hg
def U5:PSp:=fun xs K=>match xs with
 | [.agg [.int .i64 c,.isl (.rows .i64 ls) .none,.int .i64 sum,.isl (.ints .i64 gv) .none],.agg [.str r,.int .i64 y,.int .i64 x,.int .i64 k]]=>VC (bH ls)∧K (.int .i64 (dz c ls r y x k))
 |_=>False
theorem ady:POK Tryz.prog 126 U5:=by
 intro xs K h;unfold U5 at h;split at h
 ·exact⟨_,h.2,U4 _ _ _ _ h.1.get _ _ _ _⟩
 ·exact h.elim
theorem lD.of {c:Int} {ls:List (List Int)} {r:ByteArray} {y x k:Int} (h:dz c ls r y x k=0):lD c ls r y x k:=by
 unfold dz at h;by_cases h1:aQ r=0
 ·rw[if_pos h1]at h;cases h
 rw[if_neg h1]at h;by_cases h2:y<0∨c≤y
 ·rw[if_pos h2]at h;cases h
 rw[if_neg h2]at h;by_cases h3:x<1∨c<x
 ·rw[if_pos h3]at h;cases h
 rw[if_neg h3]at h;have hg:1≤aQ r:=by
  obtain⟨_,hg⟩|⟨_,hg⟩|⟨_,hg⟩|⟨_,hg⟩|⟨_,hg⟩|hg:=nA r;all_goals omega
 refine⟨hg,by omega,by omega,?_⟩
 by_cases h4:aQ r=2∨aQ r=3
 ·rcases h4 with h4|h4
  ·exact .inl h4
  ·exact .inr (.inl h4)
 rw[if_neg h4]at h;by_cases h5:k<0∨ls.length≤k∨y∉ls.getD k.toNat []
 ·rw[if_pos h5]at h;cases h
 ·refine .inr (.inr ?_)
  constructor
  ·exact Int.not_lt.1 fun e=>h5 (.inl e)
  ·exact Int.not_le.1 fun e=>h5 (.inr (.inl e))
theorem rQ {go:List PV→Bool} {L A B:List PV} {d:PV} (h:L=A++d::B) (hg:GoTo go L A.length):Nxt go L A d:=⟨A.length,by rw[h];simp,by rw[h];simp,by rw[h];simp,hg⟩
theorem vX {L A B:List PV} {d:PV} (h:L=A++d::B):L.take (A.length+1)=A++[d]:=by
 rw[h,List.take_append,aje (by omega)];simp
theorem qx {go:List PV→Bool} {L A B:List PV} {d:PV} (h:L=A++d::B) (hg:GoTo go L A.length) (ht:go (A++[d])=true):GoTo go L (A++[d]).length:=by
 rw[ahx];exact hg.succ (by rw[vX h];exact ht)
theorem qy {go:List PV→Bool} {L A B:List PV} {d:PV} (h:L=A++d::B) (hg:GoTo go L A.length) (ht:go (A++[d])=false):A++[d]=iL go [] L:=by
 rw[←vX h,vB (by rw[h];simp) hg (by rw[vX h];exact ht)]
theorem qz {go:List PV→Bool} {L:List PV} (hg:GoTo go L L.length):L=iL go [] L:=by rw[yu (agh _) hg]
theorem G8 {α:Type} (f:Nat→List α) {j:Nat}:∀{m:Nat},j<m→∃B,(agr m).flatMap f=(agr j).flatMap f++(f j++B):=by
 intro m;induction m with
 |zero=>intro h;omega
 |succ m ih=>
  intro h;rw[ajf,ajg];by_cases e:j=m
  ·subst e;exact⟨[],by simp⟩
  ·obtain⟨B,hB⟩:=ih (by omega)
   exact⟨B++[m].flatMap f,by rw[hB];simp⟩
theorem gP {α:Type} (f:Nat→List α) (j:Nat):(agr (j+1)).flatMap f=(agr j).flatMap f++f j:=by
 rw[ajf,ajg];simp
def lnG (g:Nat):Bool:=g==1||g==4||g==5
def dx (g:Nat) (nm:ByteArray) (s:St) (sum:Int) (l:List Int) (k:Int) (i t:Nat):List PV:=(((s.cd i).take t).filter fun x=>jst g s sum l i x).map fun x=>ddV nm i x k
def dK (g:Nat) (nm:ByteArray) (s:St) (sum:Int) (l:List Int) (k:Int) (i:Nat):List PV:=if s.dc i||(lnG g&&!decide ((i:Int)∈l))then []else dx g nm s sum l k i (s.cd i).length
def bD (g:Nat) (nm:ByteArray) (s:St) (sum:Int) (ls:List (List Int)) (k:Int) (n:Nat):List PV:=(agr n).flatMap fun i=>dK g nm s sum (ls.getD k.toNat []) k i
def bg (g:Nat) (nm:ByteArray) (s:St) (sum:Int) (ls:List (List Int)) (fr:Int) (m:Nat):List PV:=(agr m).flatMap fun j:Nat=>bD g nm s sum ls (fr+j) s.cs.length
theorem fV {g:Nat} {nm:ByteArray} {s:St} {sum:Int} {l:List Int} {k:Int} {i:Nat}:dx g nm s sum l k i 0=[]:=rfl
theorem fZ {g:Nat} {nm:ByteArray} {s:St} {sum:Int} {l:List Int} {k:Int} {i t:Nat} (h:t<(s.cd i).length):
 dx g nm s sum l k i (t+1)=dx g nm s sum l k i t++if jst g s sum l i ((s.cd i).getD t 0)then [ddV nm i ((s.cd i).getD t 0) k]else []:=by
 unfold dx;rw[bX h,ajh,aik,aji,ajj];split<;>simp
theorem OI {g:Nat} {nm:ByteArray} {s:St} {sum:Int} {l:List Int} {k:Int} {i t:Nat} (h:t<(s.cd i).length) (hj:jst g s sum l i ((s.cd i).getD t 0)=true):
 ∃B,dx g nm s sum l k i (s.cd i).length=dx g nm s sum l k i t++ddV nm i ((s.cd i).getD t 0) k::B:=by
 have e:(s.cd i).take (s.cd i).length=(s.cd i).take t++((s.cd i).getD t 0::(s.cd i).drop (t+1)):=by rw[ail,←drop_cons h,List.take_append_drop]
 unfold dx;rw[e,ajh,aik,aji,if_pos hj,aie];exact⟨_,rfl⟩
theorem oh {g:Nat} {nm:ByteArray} {s:St} {sum:Int} {ls:List (List Int)} {fr:Int} {m j i t:Nat} (hj:j<m) (hi:i<s.cs.length) (ht:t<(s.cd i).length)
 (hc:(s.dc i||(lnG g&&!decide ((i:Int)∈ls.getD (fr+j).toNat [])))=false) (hh:jst g s sum (ls.getD (fr+j).toNat []) i ((s.cd i).getD t 0)=true):
 ∃B,bg g nm s sum ls fr m=(bg g nm s sum ls fr j++bD g nm s sum ls (fr+j) i++dx g nm s sum (ls.getD (fr+j).toNat []) (fr+j) i t)++ddV nm i ((s.cd i).getD t 0) (fr+j)::B:=by
 obtain⟨B1,h1⟩:=G8 (fun j:Nat=>bD g nm s sum ls (fr+j) s.cs.length) hj;obtain⟨B2,h2⟩:=G8 (fun i=>dK g nm s sum (ls.getD (fr+j).toNat []) (fr+j) i) hi;obtain⟨B3,h3⟩:=OI (nm:=nm) (k:=fr+j) ht hh;have h4:dK g nm s sum (ls.getD (fr+j).toNat []) (fr+j) i=dx g nm s sum (ls.getD (fr+j).toNat []) (fr+j) i (s.cd i).length:=by
  unfold dK;rw[hc];rfl
 refine⟨B3++B2++B1,?_⟩;unfold bg;rw[h1];simp only[bD,h2,h4,h3,ajk,List.cons_append]
noncomputable def BO:CPT:=aA 94 (aB Ak) (aA 149 (aB Ag) (aA 172 (aB (nZ qc)) (aA 173 (aB (rP fun s y x=>tV s y)) (aA 174 (aB (rP l8)) (aA 175 (aB (nZ tX)) (aA 176 (aB (nZ qd)) noC))))))
theorem fA:aV Tryz.prog BO:=ak (au BG) (ak (au BF) (ak (au aao) (ak (au aap) (ak (au UM) (ak (au OA) (ak (au Ee) aC))))))
abbrev rlV (nm:ByteArray) (d l:Bool) (k:Nat):PV:=.ip (.pv [.str nm,.bool d,.bool l,kF k]) 0
theorem RJ (c:Int) (ls:List (List Int)) (sum:Int) (gv:List Int) (s:St) (h:bB c ls sum s):
 nK Tryz.prog 180 [] [.ip (.pv [.int .i64 0]) 0,.ip (.pv [.int .i64 ls.length]) 0,.ip (.pv [bdV c ls sum gv s]) 0,rlV bM true true 172] 1 (bg 1 bM s sum ls 0 ls.length):=by
 refine lq (md:=1) (rf:=[]) mixed aj Tryz.func180 (by rfl) (by rfl) (by rfl) fun G go b hY=>⟨_,fA,?_⟩
 obtain⟨L,hL⟩:∃L,L=bg 1 bM s sum ls 0 ls.length:=⟨_,rfl⟩;rw[←hL]at hY⊢;have W:Walk Tryz.prog none kL tab.get BO (tJ b 1 G go L):=⟨aG,mixed,aj,fA,hY _ _⟩;have hcl:=h.cl;have hdl:=h.dl;have hc1:=h.c1;have hms:=dR s.cs;have hll:=h.ll
 repeat'((conv=>whnf);first|intro _|apply aI|with_reducible exact vM rfl|exact⟨⟩|apply nM|apply fM)
 all_goals((try apply vM);(try simp only[vq]at*);try omega)
 conv=>whnf
 refine aJ (X:=Nat) (fun j=>j≤ls.length∧GoTo go L (bg 1 bM s sum ls 0 j).length) (fun j=>[(6,.rp 2 0)]) (fun j=>[(0,.ext G (bg 1 bM s sum ls 0 j)),(2,.cells (.pv [.int .i64 (0+(j:Int))]) false)]) (fun j=>ls.length-j) 0 W (by rfl) ⟨by omega,.zero⟩ ?_ ?_
 ·repeat'((conv=>whnf);first|intro _|apply aI|with_reducible exact vM rfl|exact⟨⟩|apply nM|apply fM)
  all_goals((try apply vM);(try simp only[vq]at*);try omega)
  all_goals rfl
 intro j ⟨hj,hgo⟩;by_cases hlt:j<ls.length
 ·have e2:bg 1 bM s sum ls 0 (j+1)=bg 1 bM s sum ls 0 j++bD 1 bM s sum ls (0+(j:Int)) s.cs.length:=by unfold bg;rw[gP]
  have hln:=h.ln j hlt;have hlen:=hln.len;have ejt:(0+(j:Int)).toNat=j:=by omega
  repeat'((conv=>whnf);first|(intro hq;(try simp only[vw]at hq);try first|exact absurd hq (by decide)|exfalso;omega)|apply aI|with_reducible exact vM rfl|exact⟨⟩|apply nM|apply fM)
  all_goals((try apply vM);(try simp only[vq]at*);try omega)
  conv=>whnf
  refine aJ (X:=Nat) (fun i=>i≤s.cs.length∧GoTo go L (bg 1 bM s sum ls 0 j++bD 1 bM s sum ls (0+(j:Int)) i).length) (fun i=>[(22,.int .i64 i)]) (fun i=>[(0,.ext G (bg 1 bM s sum ls 0 j++bD 1 bM s sum ls (0+(j:Int)) i))]) (fun i=>s.cs.length-i) 0 W (by rfl) ⟨by omega,by simpa [bD]using hgo⟩ ?_ ?_
  ·repeat'((conv=>whnf);first|intro _|apply aI|with_reducible exact vM rfl|exact⟨⟩|apply nM|apply fM)
   all_goals((try apply vM);(try simp only[vq]at*);try omega)
   all_goals(simp[bD])
  intro i ⟨hi,hgo2⟩;by_cases hlt2:i<s.cs.length
  ·have hm:(ms s.cs).getD i 0=(mk (s.cd i):Nat):=fG hlt2
   have hA:=(h.asc _ hlt2).1;have hAc:=(h.asc _ hlt2).2;have e1:bD 1 bM s sum ls (0+(j:Int)) (i+1)=bD 1 bM s sum ls (0+(j:Int)) i++dK 1 bM s sum (ls.getD (0+(j:Int)).toNat []) (0+(j:Int)) i:=by unfold bD;rw[gP]
   repeat'((conv=>whnf);first|(intro hq;(try simp only[vw]at hq);try first|exact absurd hq (by decide)|exfalso;omega)|apply aI|with_reducible exact vM rfl|exact⟨⟩|apply nM|apply fM)
   all_goals((try apply vM);(try simp only[vq]at*);try omega)
   all_goals(try first|omega|(rw[ejt];omega))
   ·have hce:dK 1 bM s sum (ls.getD (0+(j:Int)).toNat []) (0+(j:Int)) i=[]:=by unfold dK;rw[show decide ((i:Int)∈(ls.getD (0+(j:Int)).toNat []))=false by apply decide_eq_false;assumption];cases s.dc i<;>rfl
    rw[hce,aib]at e1;refine⟨i+1,[],⟨⟨by omega,by rw[e1];exact hgo2⟩,by omega⟩,?_⟩
    rw[e1]
    repeat'((conv=>whnf);first|intro _|apply aI|with_reducible exact vM rfl|exact⟨⟩|apply nM|apply fM)
    all_goals((try apply vM);(try simp only[vq]at*);try omega)
   ·have hcc:(s.dc i||(lnG 1&&!decide ((i:Int)∈(ls.getD (0+(j:Int)).toNat []))))=false:=by rw[show s.dc i=false by assumption,show decide ((i:Int)∈(ls.getD (0+(j:Int)).toNat []))=true by apply decide_eq_true;assumption];rfl
    have hce:dK 1 bM s sum (ls.getD (0+(j:Int)).toNat []) (0+(j:Int)) i=dx 1 bM s sum (ls.getD (0+(j:Int)).toNat []) (0+(j:Int)) i (s.cd i).length:=by unfold dK;rw[hcc];rfl
    rw[hce]at e1;have hsp:∀t,t<(s.cd i).length→jst 1 s sum (ls.getD (0+(j:Int)).toNat []) i ((s.cd i).getD t 0)=true→∃B,L=(bg 1 bM s sum ls 0 j++bD 1 bM s sum ls (0+(j:Int)) i++dx 1 bM s sum (ls.getD (0+(j:Int)).toNat []) (0+(j:Int)) i t)++ddV bM i ((s.cd i).getD t 0) (0+(j:Int))::B:=fun t ht hh=>by
     rw[hL];exact oh (g:=1) (nm:=bM) (s:=s) (sum:=sum) (ls:=ls) (fr:=0) (m:=ls.length) (j:=j) (i:=i) (t:=t) hlt hlt2 ht hcc hh
    have hpos:∀t,t≤(s.cd i).length→(∀t',t'<t→(!jst 1 s sum (ls.getD (0+(j:Int)).toNat []) i ((s.cd i).getD t' 0)||go ((bg 1 bM s sum ls 0 j++bD 1 bM s sum ls (0+(j:Int)) i++dx 1 bM s sum (ls.getD (0+(j:Int)).toNat []) (0+(j:Int)) i t')++[ddV bM i ((s.cd i).getD t' 0) (0+(j:Int))]))=true)→GoTo go L (bg 1 bM s sum ls 0 j++bD 1 bM s sum ls (0+(j:Int)) i++dx 1 bM s sum (ls.getD (0+(j:Int)).toNat []) (0+(j:Int)) i t).length:=by
     intro t;induction t with
     |zero=>intro _ _;rw[fV,aib];exact hgo2
     |succ t ih=>
      intro ht hall;have g0:=ih (by omega) fun t' h'=>hall t' (by omega)
      have g1:=hall t (by omega)
      rw[fZ (by omega)]
      split
      ·rename_i hh
       rw[hh]at g1;obtain⟨B,hB⟩:=hsp t (by omega) hh
       rw[←ajk];exact qx hB g0 (by simpa using g1)
      ·rw[aib];exact g0
    rw[hm];conv=>whnf
    refine ji aG mixed aj fA (fun r=>hY r _) (fs:=[]) (cs:=[.ip (.pv [.int .u32 (mk (s.cd i):Nat)]) 0]) ((s.cd i).map (PV.int .i64)) (fun t=>(!jst 1 s sum (ls.getD (0+(j:Int)).toNat []) i ((s.cd i).getD t 0)||go ((bg 1 bM s sum ls 0 j++bD 1 bM s sum ls (0+(j:Int)) i++dx 1 bM s sum (ls.getD (0+(j:Int)).toNat []) (0+(j:Int)) i t)++[ddV bM i ((s.cd i).getD t 0) (0+(j:Int))]))) (fun t=>[(0,.ext G (bg 1 bM s sum ls 0 j++bD 1 bM s sum ls (0+(j:Int)) i++dx 1 bM s sum (ls.getD (0+(j:Int)).toNat []) (0+(j:Int)) i t))]) (by rfl) (by rfl) (by rfl) (jY (s.cd i) hA) (by rfl) (by rfl) (by rfl) (by rfl) ?_ ?_ ?_
    ·repeat'((conv=>whnf);first|intro _|apply aI|with_reducible exact vM rfl|exact⟨⟩|apply nM|apply fM)
     all_goals((try apply vM);(try simp only[vq]at*);try omega)
     all_goals(rw[fV,aib])
    ·intro hall
     rw[aif]at hall⊢;have g9:=hpos _ (agh _) hall
     repeat'((conv=>whnf);first|intro _|apply aI|with_reducible exact vM rfl|exact⟨⟩|apply nM|apply fM)
     all_goals((try apply vM);(try simp only[vq]at*);try omega)
     refine⟨i+1,[],⟨⟨by omega,by rw[e1,←ajk];exact g9⟩,by omega⟩,?_⟩
     rw[e1,←ajk]
     repeat'((conv=>whnf);first|intro _|apply aI|with_reducible exact vM rfl|exact⟨⟩|apply nM|apply fM)
     all_goals((try apply vM);(try simp only[vq]at*);try omega)
    ·intro t x hx hall lp
     obtain⟨ht,rfl⟩:=o8 hx;have hxC:=bK ht;have hxr:=hA.rng _ hxC;have hxc:=hAc _ hxC;have g0:=hpos t (by omega) hall
     have hs1:=hsp t ht;have cs1:=fZ (g:=1) (nm:=bM) (s:=s) (sum:=sum) (l:=(ls.getD (0+(j:Int)).toNat [])) (k:=(0+(j:Int))) ht
     repeat'((conv=>whnf);first|refine Exists.intro (s) ?_|(intro hq;(try simp only[vw]at hq);try first|exact absurd hq (by decide)|exfalso;omega)|apply aI|with_reducible exact vM rfl|exact⟨⟩|apply nM|apply fM)
     all_goals((try apply vM);(try simp only[vq]at*);try omega)
     all_goals(try omega)
     ·exact⟨h,by omega,by omega,by omega⟩
     ·obtain⟨B,hB⟩:=hs1 (by assumption)
      exact rQ hB g0
     ·rw[show jst 1 s sum (ls.getD (0+(j:Int)).toNat []) i ((s.cd i).getD t 0)=true by assumption]
      assumption
     ·obtain⟨B,hB⟩:=hs1 (by assumption)
      exact qy hB g0 (by assumption)
     ·have q1:jst 1 s sum (ls.getD (0+(j:Int)).toNat []) i ((s.cd i).getD t 0)=true:=by assumption
      have q2:go ((bg 1 bM s sum ls 0 j++bD 1 bM s sum ls (0+(j:Int)) i++dx 1 bM s sum (ls.getD (0+(j:Int)).toNat []) (0+(j:Int)) i t)++[ddV bM i ((s.cd i).getD t 0) (0+(j:Int))])=true:=by assumption
      refine⟨[],?_⟩;rw[cs1,if_pos q1,←ajk]
      repeat'((conv=>whnf);first|intro _|apply aI|with_reducible exact vM rfl|exact⟨⟩|apply nM|apply fM)
      all_goals((try apply vM);(try simp only[vq]at*);try omega)
      all_goals(try first|(rw[q1,q2];rfl)|rfl)
     ·have q1:jst 1 s sum (ls.getD (0+(j:Int)).toNat []) i ((s.cd i).getD t 0)=false:=by assumption
      refine⟨[],?_⟩;rw[cs1,if_neg (by rw[q1];decide),aib]
      repeat'((conv=>whnf);first|intro _|apply aI|with_reducible exact vM rfl|exact⟨⟩|apply nM|apply fM)
      all_goals((try apply vM);(try simp only[vq]at*);try omega)
      all_goals(try(rw[q1];rfl))
   ·have hce:dK 1 bM s sum (ls.getD (0+(j:Int)).toNat []) (0+(j:Int)) i=[]:=by unfold dK;rw[show s.dc i=true from hq];rfl
    rw[hce,aib]at e1;refine⟨i+1,[],⟨⟨by omega,by rw[e1];exact hgo2⟩,by omega⟩,?_⟩
    rw[e1]
    repeat'((conv=>whnf);first|intro _|apply aI|with_reducible exact vM rfl|exact⟨⟩|apply nM|apply fM)
    all_goals((try apply vM);(try simp only[vq]at*);try omega)
  ·have:i=s.cs.length:=by omega
   subst this;rw[←e2]at hgo2⊢
   repeat'((conv=>whnf);first|(intro hq;(try simp only[vw]at hq);try first|exact absurd hq (by decide)|exfalso;omega)|apply aI|with_reducible exact vM rfl|exact⟨⟩|apply nM|apply fM)
   all_goals((try apply vM);(try simp only[vq]at*);try omega)
   refine⟨j+1,[(21,2)],⟨⟨by omega,hgo2⟩,by omega⟩,?_⟩
   repeat'((conv=>whnf);first|intro _|apply aI|with_reducible exact vM rfl|exact⟨⟩|apply nM|apply fM)
   all_goals((try apply vM);(try simp only[vq]at*);try omega)
 ·have:j=ls.length:=by omega
  subst this
  repeat'((conv=>whnf);first|(intro hq;(try simp only[vw]at hq);try first|exact absurd hq (by decide)|exfalso;omega)|apply aI|with_reducible exact vM rfl|exact⟨⟩|apply nM|apply fM)
  all_goals((try apply vM);(try simp only[vq]at*);try omega)
  rw[hL];rw[hL]at hgo;exact qz hgo
theorem RL (c:Int) (ls:List (List Int)) (sum:Int) (gv:List Int) (s:St) (h:bB c ls sum s):
 nK Tryz.prog 180 [] [.ip (.pv [.int .i64 (-1)]) 0,.ip (.pv [.int .i64 0]) 0,.ip (.pv [bdV c ls sum gv s]) 0,rlV bV true false 173] 1 (bg 2 bV s sum ls (-1) 1):=by
 refine lq (md:=1) (rf:=[]) mixed aj Tryz.func180 (by rfl) (by rfl) (by rfl) fun G go b hY=>⟨_,fA,?_⟩
 obtain⟨L,hL⟩:∃L,L=bg 2 bV s sum ls (-1) 1:=⟨_,rfl⟩;rw[←hL]at hY⊢;have W:Walk Tryz.prog none kL tab.get BO (tJ b 1 G go L):=⟨aG,mixed,aj,fA,hY _ _⟩;have hcl:=h.cl;have hdl:=h.dl;have hc1:=h.c1;have hms:=dR s.cs;have hll:=h.ll
 repeat'((conv=>whnf);first|intro _|apply aI|with_reducible exact vM rfl|exact⟨⟩|apply nM|apply fM)
 all_goals((try apply vM);(try simp only[vq]at*);try omega)
 conv=>whnf
 refine aJ (X:=Nat) (fun j=>j≤1∧GoTo go L (bg 2 bV s sum ls (-1) j).length) (fun j=>[(6,.rp 2 0)]) (fun j=>[(0,.ext G (bg 2 bV s sum ls (-1) j)),(2,.cells (.pv [.int .i64 ((-1)+(j:Int))]) false)]) (fun j=>1-j) 0 W (by rfl) ⟨by omega,.zero⟩ ?_ ?_
 ·repeat'((conv=>whnf);first|intro _|apply aI|with_reducible exact vM rfl|exact⟨⟩|apply nM|apply fM)
  all_goals((try apply vM);(try simp only[vq]at*);try omega)
  all_goals rfl
 intro j ⟨hj,hgo⟩;by_cases hlt:j<1
 ·have e2:bg 2 bV s sum ls (-1) (j+1)=bg 2 bV s sum ls (-1) j++bD 2 bV s sum ls ((-1)+(j:Int)) s.cs.length:=by unfold bg;rw[gP]
  repeat'((conv=>whnf);first|(intro hq;(try simp only[vw]at hq);try first|exact absurd hq (by decide)|exfalso;omega)|apply aI|with_reducible exact vM rfl|exact⟨⟩|apply nM|apply fM)
  all_goals((try apply vM);(try simp only[vq]at*);try omega)
  conv=>whnf
  refine aJ (X:=Nat) (fun i=>i≤s.cs.length∧GoTo go L (bg 2 bV s sum ls (-1) j++bD 2 bV s sum ls ((-1)+(j:Int)) i).length) (fun i=>[(22,.int .i64 i)]) (fun i=>[(0,.ext G (bg 2 bV s sum ls (-1) j++bD 2 bV s sum ls ((-1)+(j:Int)) i))]) (fun i=>s.cs.length-i) 0 W (by rfl) ⟨by omega,by simpa [bD]using hgo⟩ ?_ ?_
  ·repeat'((conv=>whnf);first|intro _|apply aI|with_reducible exact vM rfl|exact⟨⟩|apply nM|apply fM)
   all_goals((try apply vM);(try simp only[vq]at*);try omega)
   all_goals(simp[bD])
  intro i ⟨hi,hgo2⟩;by_cases hlt2:i<s.cs.length
  ·have hm:(ms s.cs).getD i 0=(mk (s.cd i):Nat):=fG hlt2
   have hA:=(h.asc _ hlt2).1;have hAc:=(h.asc _ hlt2).2;have e1:bD 2 bV s sum ls ((-1)+(j:Int)) (i+1)=bD 2 bV s sum ls ((-1)+(j:Int)) i++dK 2 bV s sum (ls.getD ((-1)+(j:Int)).toNat []) ((-1)+(j:Int)) i:=by unfold bD;rw[gP]
   repeat'((conv=>whnf);first|(intro hq;(try simp only[vw]at hq);try first|exact absurd hq (by decide)|exfalso;omega)|apply aI|with_reducible exact vM rfl|exact⟨⟩|apply nM|apply fM)
   all_goals((try apply vM);(try simp only[vq]at*);try omega)
   all_goals(try first|omega|(rw[ejt];omega))
   ·have hcc:(s.dc i||(lnG 2&&!decide ((i:Int)∈(ls.getD ((-1)+(j:Int)).toNat []))))=false:=by rw[show s.dc i=false from hq];rfl
    have hce:dK 2 bV s sum (ls.getD ((-1)+(j:Int)).toNat []) ((-1)+(j:Int)) i=dx 2 bV s sum (ls.getD ((-1)+(j:Int)).toNat []) ((-1)+(j:Int)) i (s.cd i).length:=by unfold dK;rw[hcc];rfl
    rw[hce]at e1;have hsp:∀t,t<(s.cd i).length→jst 2 s sum (ls.getD ((-1)+(j:Int)).toNat []) i ((s.cd i).getD t 0)=true→∃B,L=(bg 2 bV s sum ls (-1) j++bD 2 bV s sum ls ((-1)+(j:Int)) i++dx 2 bV s sum (ls.getD ((-1)+(j:Int)).toNat []) ((-1)+(j:Int)) i t)++ddV bV i ((s.cd i).getD t 0) ((-1)+(j:Int))::B:=fun t ht hh=>by
     rw[hL];exact oh (g:=2) (nm:=bV) (s:=s) (sum:=sum) (ls:=ls) (fr:=(-1)) (m:=1) (j:=j) (i:=i) (t:=t) hlt hlt2 ht hcc hh
    have hpos:∀t,t≤(s.cd i).length→(∀t',t'<t→(!jst 2 s sum (ls.getD ((-1)+(j:Int)).toNat []) i ((s.cd i).getD t' 0)||go ((bg 2 bV s sum ls (-1) j++bD 2 bV s sum ls ((-1)+(j:Int)) i++dx 2 bV s sum (ls.getD ((-1)+(j:Int)).toNat []) ((-1)+(j:Int)) i t')++[ddV bV i ((s.cd i).getD t' 0) ((-1)+(j:Int))]))=true)→GoTo go L (bg 2 bV s sum ls (-1) j++bD 2 bV s sum ls ((-1)+(j:Int)) i++dx 2 bV s sum (ls.getD ((-1)+(j:Int)).toNat []) ((-1)+(j:Int)) i t).length:=by
     intro t;induction t with
     |zero=>intro _ _;rw[fV,aib];exact hgo2
     |succ t ih=>
      intro ht hall;have g0:=ih (by omega) fun t' h'=>hall t' (by omega)
      have g1:=hall t (by omega)
      rw[fZ (by omega)]
      split
      ·rename_i hh
       rw[hh]at g1;obtain⟨B,hB⟩:=hsp t (by omega) hh
       rw[←ajk];exact qx hB g0 (by simpa using g1)
      ·rw[aib];exact g0
    rw[hm];conv=>whnf
    refine ji aG mixed aj fA (fun r=>hY r _) (fs:=[]) (cs:=[.ip (.pv [.int .u32 (mk (s.cd i):Nat)]) 0]) ((s.cd i).map (PV.int .i64)) (fun t=>(!jst 2 s sum (ls.getD ((-1)+(j:Int)).toNat []) i ((s.cd i).getD t 0)||go ((bg 2 bV s sum ls (-1) j++bD 2 bV s sum ls ((-1)+(j:Int)) i++dx 2 bV s sum (ls.getD ((-1)+(j:Int)).toNat []) ((-1)+(j:Int)) i t)++[ddV bV i ((s.cd i).getD t 0) ((-1)+(j:Int))]))) (fun t=>[(0,.ext G (bg 2 bV s sum ls (-1) j++bD 2 bV s sum ls ((-1)+(j:Int)) i++dx 2 bV s sum (ls.getD ((-1)+(j:Int)).toNat []) ((-1)+(j:Int)) i t))]) (by rfl) (by rfl) (by rfl) (jY (s.cd i) hA) (by rfl) (by rfl) (by rfl) (by rfl) ?_ ?_ ?_
    ·repeat'((conv=>whnf);first|intro _|apply aI|with_reducible exact vM rfl|exact⟨⟩|apply nM|apply fM)
     all_goals((try apply vM);(try simp only[vq]at*);try omega)
     all_goals(rw[fV,aib])
    ·intro hall
     rw[aif]at hall⊢;have g9:=hpos _ (agh _) hall
     repeat'((conv=>whnf);first|intro _|apply aI|with_reducible exact vM rfl|exact⟨⟩|apply nM|apply fM)
     all_goals((try apply vM);(try simp only[vq]at*);try omega)
     refine⟨i+1,[],⟨⟨by omega,by rw[e1,←ajk];exact g9⟩,by omega⟩,?_⟩
     rw[e1,←ajk]
     repeat'((conv=>whnf);first|intro _|apply aI|with_reducible exact vM rfl|exact⟨⟩|apply nM|apply fM)
     all_goals((try apply vM);(try simp only[vq]at*);try omega)
    ·intro t x hx hall lp
     obtain⟨ht,rfl⟩:=o8 hx;have hxC:=bK ht;have hxr:=hA.rng _ hxC;have hxc:=hAc _ hxC;have g0:=hpos t (by omega) hall
     have hs1:=hsp t ht;have cs1:=fZ (g:=2) (nm:=bV) (s:=s) (sum:=sum) (l:=(ls.getD ((-1)+(j:Int)).toNat [])) (k:=((-1)+(j:Int))) ht
     repeat'((conv=>whnf);first|refine Exists.intro (s) ?_|(intro hq;(try simp only[vw]at hq);try first|exact absurd hq (by decide)|exfalso;omega)|apply aI|with_reducible exact vM rfl|exact⟨⟩|apply nM|apply fM)
     all_goals((try apply vM);(try simp only[vq]at*);try omega)
     all_goals(try omega)
     ·exact⟨h,by omega,by omega⟩
     ·obtain⟨B,hB⟩:=hs1 (by assumption)
      exact rQ hB g0
     ·rw[show jst 2 s sum (ls.getD ((-1)+(j:Int)).toNat []) i ((s.cd i).getD t 0)=true by assumption]
      assumption
     ·obtain⟨B,hB⟩:=hs1 (by assumption)
      exact qy hB g0 (by assumption)
     ·have q1:jst 2 s sum (ls.getD ((-1)+(j:Int)).toNat []) i ((s.cd i).getD t 0)=true:=by assumption
      have q2:go ((bg 2 bV s sum ls (-1) j++bD 2 bV s sum ls ((-1)+(j:Int)) i++dx 2 bV s sum (ls.getD ((-1)+(j:Int)).toNat []) ((-1)+(j:Int)) i t)++[ddV bV i ((s.cd i).getD t 0) ((-1)+(j:Int))])=true:=by assumption
      refine⟨[],?_⟩;rw[cs1,if_pos q1,←ajk]
      repeat'((conv=>whnf);first|intro _|apply aI|with_reducible exact vM rfl|exact⟨⟩|apply nM|apply fM)
      all_goals((try apply vM);(try simp only[vq]at*);try omega)
      all_goals(try first|(rw[q1,q2];rfl)|rfl)
     ·have q1:jst 2 s sum (ls.getD ((-1)+(j:Int)).toNat []) i ((s.cd i).getD t 0)=false:=by assumption
      refine⟨[],?_⟩;rw[cs1,if_neg (by rw[q1];decide),aib]
      repeat'((conv=>whnf);first|intro _|apply aI|with_reducible exact vM rfl|exact⟨⟩|apply nM|apply fM)
      all_goals((try apply vM);(try simp only[vq]at*);try omega)
      all_goals(try(rw[q1];rfl))
   ·have hce:dK 2 bV s sum (ls.getD ((-1)+(j:Int)).toNat []) ((-1)+(j:Int)) i=[]:=by unfold dK;rw[show s.dc i=true from hq];rfl
    rw[hce,aib]at e1;refine⟨i+1,[],⟨⟨by omega,by rw[e1];exact hgo2⟩,by omega⟩,?_⟩
    rw[e1]
    repeat'((conv=>whnf);first|intro _|apply aI|with_reducible exact vM rfl|exact⟨⟩|apply nM|apply fM)
    all_goals((try apply vM);(try simp only[vq]at*);try omega)
  ·have:i=s.cs.length:=by omega
   subst this;rw[←e2]at hgo2⊢
   repeat'((conv=>whnf);first|(intro hq;(try simp only[vw]at hq);try first|exact absurd hq (by decide)|exfalso;omega)|apply aI|with_reducible exact vM rfl|exact⟨⟩|apply nM|apply fM)
   all_goals((try apply vM);(try simp only[vq]at*);try omega)
   refine⟨j+1,[(21,2)],⟨⟨by omega,hgo2⟩,by omega⟩,?_⟩
   repeat'((conv=>whnf);first|intro _|apply aI|with_reducible exact vM rfl|exact⟨⟩|apply nM|apply fM)
   all_goals((try apply vM);(try simp only[vq]at*);try omega)
 ·have:j=1:=by omega
  subst this
  repeat'((conv=>whnf);first|(intro hq;(try simp only[vw]at hq);try first|exact absurd hq (by decide)|exfalso;omega)|apply aI|with_reducible exact vM rfl|exact⟨⟩|apply nM|apply fM)
  all_goals((try apply vM);(try simp only[vq]at*);try omega)
  rw[hL];rw[hL]at hgo;exact qz hgo
theorem RN (c:Int) (ls:List (List Int)) (sum:Int) (gv:List Int) (s:St) (h:bB c ls sum s):
 nK Tryz.prog 180 [] [.ip (.pv [.int .i64 (-1)]) 0,.ip (.pv [.int .i64 0]) 0,.ip (.pv [bdV c ls sum gv s]) 0,rlV bW true false 174] 1 (bg 3 bW s sum ls (-1) 1):=by
 refine lq (md:=1) (rf:=[]) mixed aj Tryz.func180 (by rfl) (by rfl) (by rfl) fun G go b hY=>⟨_,fA,?_⟩
 obtain⟨L,hL⟩:∃L,L=bg 3 bW s sum ls (-1) 1:=⟨_,rfl⟩;rw[←hL]at hY⊢;have W:Walk Tryz.prog none kL tab.get BO (tJ b 1 G go L):=⟨aG,mixed,aj,fA,hY _ _⟩;have hcl:=h.cl;have hdl:=h.dl;have hc1:=h.c1;have hms:=dR s.cs;have hll:=h.ll
 repeat'((conv=>whnf);first|intro _|apply aI|with_reducible exact vM rfl|exact⟨⟩|apply nM|apply fM)
 all_goals((try apply vM);(try simp only[vq]at*);try omega)
 conv=>whnf
 refine aJ (X:=Nat) (fun j=>j≤1∧GoTo go L (bg 3 bW s sum ls (-1) j).length) (fun j=>[(6,.rp 2 0)]) (fun j=>[(0,.ext G (bg 3 bW s sum ls (-1) j)),(2,.cells (.pv [.int .i64 ((-1)+(j:Int))]) false)]) (fun j=>1-j) 0 W (by rfl) ⟨by omega,.zero⟩ ?_ ?_
 ·repeat'((conv=>whnf);first|intro _|apply aI|with_reducible exact vM rfl|exact⟨⟩|apply nM|apply fM)
  all_goals((try apply vM);(try simp only[vq]at*);try omega)
  all_goals rfl
 intro j ⟨hj,hgo⟩;by_cases hlt:j<1
 ·have e2:bg 3 bW s sum ls (-1) (j+1)=bg 3 bW s sum ls (-1) j++bD 3 bW s sum ls ((-1)+(j:Int)) s.cs.length:=by unfold bg;rw[gP]
  repeat'((conv=>whnf);first|(intro hq;(try simp only[vw]at hq);try first|exact absurd hq (by decide)|exfalso;omega)|apply aI|with_reducible exact vM rfl|exact⟨⟩|apply nM|apply fM)
  all_goals((try apply vM);(try simp only[vq]at*);try omega)
  conv=>whnf
  refine aJ (X:=Nat) (fun i=>i≤s.cs.length∧GoTo go L (bg 3 bW s sum ls (-1) j++bD 3 bW s sum ls ((-1)+(j:Int)) i).length) (fun i=>[(22,.int .i64 i)]) (fun i=>[(0,.ext G (bg 3 bW s sum ls (-1) j++bD 3 bW s sum ls ((-1)+(j:Int)) i))]) (fun i=>s.cs.length-i) 0 W (by rfl) ⟨by omega,by simpa [bD]using hgo⟩ ?_ ?_
  ·repeat'((conv=>whnf);first|intro _|apply aI|with_reducible exact vM rfl|exact⟨⟩|apply nM|apply fM)
   all_goals((try apply vM);(try simp only[vq]at*);try omega)
   all_goals(simp[bD])
  intro i ⟨hi,hgo2⟩;by_cases hlt2:i<s.cs.length
  ·have hm:(ms s.cs).getD i 0=(mk (s.cd i):Nat):=fG hlt2
   have hA:=(h.asc _ hlt2).1;have hAc:=(h.asc _ hlt2).2;have e1:bD 3 bW s sum ls ((-1)+(j:Int)) (i+1)=bD 3 bW s sum ls ((-1)+(j:Int)) i++dK 3 bW s sum (ls.getD ((-1)+(j:Int)).toNat []) ((-1)+(j:Int)) i:=by unfold bD;rw[gP]
   repeat'((conv=>whnf);first|(intro hq;(try simp only[vw]at hq);try first|exact absurd hq (by decide)|exfalso;omega)|apply aI|with_reducible exact vM rfl|exact⟨⟩|apply nM|apply fM)
   all_goals((try apply vM);(try simp only[vq]at*);try omega)
   all_goals(try first|omega|(rw[ejt];omega))
   ·have hcc:(s.dc i||(lnG 3&&!decide ((i:Int)∈(ls.getD ((-1)+(j:Int)).toNat []))))=false:=by rw[show s.dc i=false from hq];rfl
    have hce:dK 3 bW s sum (ls.getD ((-1)+(j:Int)).toNat []) ((-1)+(j:Int)) i=dx 3 bW s sum (ls.getD ((-1)+(j:Int)).toNat []) ((-1)+(j:Int)) i (s.cd i).length:=by unfold dK;rw[hcc];rfl
    rw[hce]at e1;have hsp:∀t,t<(s.cd i).length→jst 3 s sum (ls.getD ((-1)+(j:Int)).toNat []) i ((s.cd i).getD t 0)=true→∃B,L=(bg 3 bW s sum ls (-1) j++bD 3 bW s sum ls ((-1)+(j:Int)) i++dx 3 bW s sum (ls.getD ((-1)+(j:Int)).toNat []) ((-1)+(j:Int)) i t)++ddV bW i ((s.cd i).getD t 0) ((-1)+(j:Int))::B:=fun t ht hh=>by
     rw[hL];exact oh (g:=3) (nm:=bW) (s:=s) (sum:=sum) (ls:=ls) (fr:=(-1)) (m:=1) (j:=j) (i:=i) (t:=t) hlt hlt2 ht hcc hh
    have hpos:∀t,t≤(s.cd i).length→(∀t',t'<t→(!jst 3 s sum (ls.getD ((-1)+(j:Int)).toNat []) i ((s.cd i).getD t' 0)||go ((bg 3 bW s sum ls (-1) j++bD 3 bW s sum ls ((-1)+(j:Int)) i++dx 3 bW s sum (ls.getD ((-1)+(j:Int)).toNat []) ((-1)+(j:Int)) i t')++[ddV bW i ((s.cd i).getD t' 0) ((-1)+(j:Int))]))=true)→GoTo go L (bg 3 bW s sum ls (-1) j++bD 3 bW s sum ls ((-1)+(j:Int)) i++dx 3 bW s sum (ls.getD ((-1)+(j:Int)).toNat []) ((-1)+(j:Int)) i t).length:=by
     intro t;induction t with
     |zero=>intro _ _;rw[fV,aib];exact hgo2
     |succ t ih=>
      intro ht hall;have g0:=ih (by omega) fun t' h'=>hall t' (by omega)
      have g1:=hall t (by omega)
      rw[fZ (by omega)]
      split
      ·rename_i hh
       rw[hh]at g1;obtain⟨B,hB⟩:=hsp t (by omega) hh
       rw[←ajk];exact qx hB g0 (by simpa using g1)
      ·rw[aib];exact g0
    rw[hm];conv=>whnf
    refine ji aG mixed aj fA (fun r=>hY r _) (fs:=[]) (cs:=[.ip (.pv [.int .u32 (mk (s.cd i):Nat)]) 0]) ((s.cd i).map (PV.int .i64)) (fun t=>(!jst 3 s sum (ls.getD ((-1)+(j:Int)).toNat []) i ((s.cd i).getD t 0)||go ((bg 3 bW s sum ls (-1) j++bD 3 bW s sum ls ((-1)+(j:Int)) i++dx 3 bW s sum (ls.getD ((-1)+(j:Int)).toNat []) ((-1)+(j:Int)) i t)++[ddV bW i ((s.cd i).getD t 0) ((-1)+(j:Int))]))) (fun t=>[(0,.ext G (bg 3 bW s sum ls (-1) j++bD 3 bW s sum ls ((-1)+(j:Int)) i++dx 3 bW s sum (ls.getD ((-1)+(j:Int)).toNat []) ((-1)+(j:Int)) i t))]) (by rfl) (by rfl) (by rfl) (jY (s.cd i) hA) (by rfl) (by rfl) (by rfl) (by rfl) ?_ ?_ ?_
    ·repeat'((conv=>whnf);first|intro _|apply aI|with_reducible exact vM rfl|exact⟨⟩|apply nM|apply fM)
     all_goals((try apply vM);(try simp only[vq]at*);try omega)
     all_goals(rw[fV,aib])
    ·intro hall
     rw[aif]at hall⊢;have g9:=hpos _ (agh _) hall
     repeat'((conv=>whnf);first|intro _|apply aI|with_reducible exact vM rfl|exact⟨⟩|apply nM|apply fM)
     all_goals((try apply vM);(try simp only[vq]at*);try omega)
     refine⟨i+1,[],⟨⟨by omega,by rw[e1,←ajk];exact g9⟩,by omega⟩,?_⟩
     rw[e1,←ajk]
     repeat'((conv=>whnf);first|intro _|apply aI|with_reducible exact vM rfl|exact⟨⟩|apply nM|apply fM)
     all_goals((try apply vM);(try simp only[vq]at*);try omega)
    ·intro t x hx hall lp
     obtain⟨ht,rfl⟩:=o8 hx;have hxC:=bK ht;have hxr:=hA.rng _ hxC;have hxc:=hAc _ hxC;have g0:=hpos t (by omega) hall
     have hs1:=hsp t ht;have cs1:=fZ (g:=3) (nm:=bW) (s:=s) (sum:=sum) (l:=(ls.getD ((-1)+(j:Int)).toNat [])) (k:=((-1)+(j:Int))) ht
     repeat'((conv=>whnf);first|refine Exists.intro (s) ?_|(intro hq;(try simp only[vw]at hq);try first|exact absurd hq (by decide)|exfalso;omega)|apply aI|with_reducible exact vM rfl|exact⟨⟩|apply nM|apply fM)
     all_goals((try apply vM);(try simp only[vq]at*);try omega)
     all_goals(try omega)
     ·exact⟨h,by omega,by omega⟩
     ·obtain⟨B,hB⟩:=hs1 (by assumption)
      exact rQ hB g0
     ·rw[show jst 3 s sum (ls.getD ((-1)+(j:Int)).toNat []) i ((s.cd i).getD t 0)=true by assumption]
      assumption
     ·obtain⟨B,hB⟩:=hs1 (by assumption)
      exact qy hB g0 (by assumption)
     ·have q1:jst 3 s sum (ls.getD ((-1)+(j:Int)).toNat []) i ((s.cd i).getD t 0)=true:=by assumption
      have q2:go ((bg 3 bW s sum ls (-1) j++bD 3 bW s sum ls ((-1)+(j:Int)) i++dx 3 bW s sum (ls.getD ((-1)+(j:Int)).toNat []) ((-1)+(j:Int)) i t)++[ddV bW i ((s.cd i).getD t 0) ((-1)+(j:Int))])=true:=by assumption
      refine⟨[],?_⟩;rw[cs1,if_pos q1,←ajk]
      repeat'((conv=>whnf);first|intro _|apply aI|with_reducible exact vM rfl|exact⟨⟩|apply nM|apply fM)
      all_goals((try apply vM);(try simp only[vq]at*);try omega)
      all_goals(try first|(rw[q1,q2];rfl)|rfl)
     ·have q1:jst 3 s sum (ls.getD ((-1)+(j:Int)).toNat []) i ((s.cd i).getD t 0)=false:=by assumption
      refine⟨[],?_⟩;rw[cs1,if_neg (by rw[q1];decide),aib]
      repeat'((conv=>whnf);first|intro _|apply aI|with_reducible exact vM rfl|exact⟨⟩|apply nM|apply fM)
      all_goals((try apply vM);(try simp only[vq]at*);try omega)
      all_goals(try(rw[q1];rfl))
   ·have hce:dK 3 bW s sum (ls.getD ((-1)+(j:Int)).toNat []) ((-1)+(j:Int)) i=[]:=by unfold dK;rw[show s.dc i=true from hq];rfl
    rw[hce,aib]at e1;refine⟨i+1,[],⟨⟨by omega,by rw[e1];exact hgo2⟩,by omega⟩,?_⟩
    rw[e1]
    repeat'((conv=>whnf);first|intro _|apply aI|with_reducible exact vM rfl|exact⟨⟩|apply nM|apply fM)
    all_goals((try apply vM);(try simp only[vq]at*);try omega)
  ·have:i=s.cs.length:=by omega
   subst this;rw[←e2]at hgo2⊢
   repeat'((conv=>whnf);first|(intro hq;(try simp only[vw]at hq);try first|exact absurd hq (by decide)|exfalso;omega)|apply aI|with_reducible exact vM rfl|exact⟨⟩|apply nM|apply fM)
   all_goals((try apply vM);(try simp only[vq]at*);try omega)
   refine⟨j+1,[(21,2)],⟨⟨by omega,hgo2⟩,by omega⟩,?_⟩
   repeat'((conv=>whnf);first|intro _|apply aI|with_reducible exact vM rfl|exact⟨⟩|apply nM|apply fM)
   all_goals((try apply vM);(try simp only[vq]at*);try omega)
 ·have:j=1:=by omega
  subst this
  repeat'((conv=>whnf);first|(intro hq;(try simp only[vw]at hq);try first|exact absurd hq (by decide)|exfalso;omega)|apply aI|with_reducible exact vM rfl|exact⟨⟩|apply nM|apply fM)
  all_goals((try apply vM);(try simp only[vq]at*);try omega)
  rw[hL];rw[hL]at hgo;exact qz hgo
theorem RO (c:Int) (ls:List (List Int)) (sum:Int) (gv:List Int) (s:St) (h:bB c ls sum s):
 nK Tryz.prog 180 [] [.ip (.pv [.int .i64 0]) 0,.ip (.pv [.int .i64 ls.length]) 0,.ip (.pv [bdV c ls sum gv s]) 0,rlV bT false true 175] 1 (bg 4 bT s sum ls 0 ls.length):=by
 refine lq (md:=1) (rf:=[]) mixed aj Tryz.func180 (by rfl) (by rfl) (by rfl) fun G go b hY=>⟨_,fA,?_⟩
 obtain⟨L,hL⟩:∃L,L=bg 4 bT s sum ls 0 ls.length:=⟨_,rfl⟩;rw[←hL]at hY⊢;have W:Walk Tryz.prog none kL tab.get BO (tJ b 1 G go L):=⟨aG,mixed,aj,fA,hY _ _⟩;have hcl:=h.cl;have hdl:=h.dl;have hc1:=h.c1;have hms:=dR s.cs;have hll:=h.ll
 repeat'((conv=>whnf);first|intro _|apply aI|with_reducible exact vM rfl|exact⟨⟩|apply nM|apply fM)
 all_goals((try apply vM);(try simp only[vq]at*);try omega)
 conv=>whnf
 refine aJ (X:=Nat) (fun j=>j≤ls.length∧GoTo go L (bg 4 bT s sum ls 0 j).length) (fun j=>[(6,.rp 2 0)]) (fun j=>[(0,.ext G (bg 4 bT s sum ls 0 j)),(2,.cells (.pv [.int .i64 (0+(j:Int))]) false)]) (fun j=>ls.length-j) 0 W (by rfl) ⟨by omega,.zero⟩ ?_ ?_
 ·repeat'((conv=>whnf);first|intro _|apply aI|with_reducible exact vM rfl|exact⟨⟩|apply nM|apply fM)
  all_goals((try apply vM);(try simp only[vq]at*);try omega)
  all_goals rfl
 intro j ⟨hj,hgo⟩;by_cases hlt:j<ls.length
 ·have e2:bg 4 bT s sum ls 0 (j+1)=bg 4 bT s sum ls 0 j++bD 4 bT s sum ls (0+(j:Int)) s.cs.length:=by unfold bg;rw[gP]
  have hln:=h.ln j hlt;have hlen:=hln.len;have ejt:(0+(j:Int)).toNat=j:=by omega
  repeat'((conv=>whnf);first|(intro hq;(try simp only[vw]at hq);try first|exact absurd hq (by decide)|exfalso;omega)|apply aI|with_reducible exact vM rfl|exact⟨⟩|apply nM|apply fM)
  all_goals((try apply vM);(try simp only[vq]at*);try omega)
  conv=>whnf
  refine aJ (X:=Nat) (fun i=>i≤s.cs.length∧GoTo go L (bg 4 bT s sum ls 0 j++bD 4 bT s sum ls (0+(j:Int)) i).length) (fun i=>[(22,.int .i64 i)]) (fun i=>[(0,.ext G (bg 4 bT s sum ls 0 j++bD 4 bT s sum ls (0+(j:Int)) i))]) (fun i=>s.cs.length-i) 0 W (by rfl) ⟨by omega,by simpa [bD]using hgo⟩ ?_ ?_
  ·repeat'((conv=>whnf);first|intro _|apply aI|with_reducible exact vM rfl|exact⟨⟩|apply nM|apply fM)
   all_goals((try apply vM);(try simp only[vq]at*);try omega)
   all_goals(simp[bD])
  intro i ⟨hi,hgo2⟩;by_cases hlt2:i<s.cs.length
  ·have hm:(ms s.cs).getD i 0=(mk (s.cd i):Nat):=fG hlt2
   have hA:=(h.asc _ hlt2).1;have hAc:=(h.asc _ hlt2).2;have e1:bD 4 bT s sum ls (0+(j:Int)) (i+1)=bD 4 bT s sum ls (0+(j:Int)) i++dK 4 bT s sum (ls.getD (0+(j:Int)).toNat []) (0+(j:Int)) i:=by unfold bD;rw[gP]
   repeat'((conv=>whnf);first|(intro hq;(try simp only[vw]at hq);try first|exact absurd hq (by decide)|exfalso;omega)|apply aI|with_reducible exact vM rfl|exact⟨⟩|apply nM|apply fM)
   all_goals((try apply vM);(try simp only[vq]at*);try omega)
   all_goals(try first|omega|(rw[ejt];omega))
   ·have hce:dK 4 bT s sum (ls.getD (0+(j:Int)).toNat []) (0+(j:Int)) i=[]:=by unfold dK;rw[show decide ((i:Int)∈(ls.getD (0+(j:Int)).toNat []))=false by apply decide_eq_false;assumption];cases s.dc i<;>rfl
    rw[hce,aib]at e1;refine⟨i+1,[],⟨⟨by omega,by rw[e1];exact hgo2⟩,by omega⟩,?_⟩
    rw[e1]
    repeat'((conv=>whnf);first|intro _|apply aI|with_reducible exact vM rfl|exact⟨⟩|apply nM|apply fM)
    all_goals((try apply vM);(try simp only[vq]at*);try omega)
   ·have hcc:(s.dc i||(lnG 4&&!decide ((i:Int)∈(ls.getD (0+(j:Int)).toNat []))))=false:=by rw[show s.dc i=false by assumption,show decide ((i:Int)∈(ls.getD (0+(j:Int)).toNat []))=true by apply decide_eq_true;assumption];rfl
    have hce:dK 4 bT s sum (ls.getD (0+(j:Int)).toNat []) (0+(j:Int)) i=dx 4 bT s sum (ls.getD (0+(j:Int)).toNat []) (0+(j:Int)) i (s.cd i).length:=by unfold dK;rw[hcc];rfl
    rw[hce]at e1;have hsp:∀t,t<(s.cd i).length→jst 4 s sum (ls.getD (0+(j:Int)).toNat []) i ((s.cd i).getD t 0)=true→∃B,L=(bg 4 bT s sum ls 0 j++bD 4 bT s sum ls (0+(j:Int)) i++dx 4 bT s sum (ls.getD (0+(j:Int)).toNat []) (0+(j:Int)) i t)++ddV bT i ((s.cd i).getD t 0) (0+(j:Int))::B:=fun t ht hh=>by
     rw[hL];exact oh (g:=4) (nm:=bT) (s:=s) (sum:=sum) (ls:=ls) (fr:=0) (m:=ls.length) (j:=j) (i:=i) (t:=t) hlt hlt2 ht hcc hh
    have hpos:∀t,t≤(s.cd i).length→(∀t',t'<t→(!jst 4 s sum (ls.getD (0+(j:Int)).toNat []) i ((s.cd i).getD t' 0)||go ((bg 4 bT s sum ls 0 j++bD 4 bT s sum ls (0+(j:Int)) i++dx 4 bT s sum (ls.getD (0+(j:Int)).toNat []) (0+(j:Int)) i t')++[ddV bT i ((s.cd i).getD t' 0) (0+(j:Int))]))=true)→GoTo go L (bg 4 bT s sum ls 0 j++bD 4 bT s sum ls (0+(j:Int)) i++dx 4 bT s sum (ls.getD (0+(j:Int)).toNat []) (0+(j:Int)) i t).length:=by
     intro t;induction t with
     |zero=>intro _ _;rw[fV,aib];exact hgo2
     |succ t ih=>
      intro ht hall;have g0:=ih (by omega) fun t' h'=>hall t' (by omega)
      have g1:=hall t (by omega)
      rw[fZ (by omega)]
      split
      ·rename_i hh
       rw[hh]at g1;obtain⟨B,hB⟩:=hsp t (by omega) hh
       rw[←ajk];exact qx hB g0 (by simpa using g1)
      ·rw[aib];exact g0
    rw[hm];conv=>whnf
    refine ji aG mixed aj fA (fun r=>hY r _) (fs:=[]) (cs:=[.ip (.pv [.int .u32 (mk (s.cd i):Nat)]) 0]) ((s.cd i).map (PV.int .i64)) (fun t=>(!jst 4 s sum (ls.getD (0+(j:Int)).toNat []) i ((s.cd i).getD t 0)||go ((bg 4 bT s sum ls 0 j++bD 4 bT s sum ls (0+(j:Int)) i++dx 4 bT s sum (ls.getD (0+(j:Int)).toNat []) (0+(j:Int)) i t)++[ddV bT i ((s.cd i).getD t 0) (0+(j:Int))]))) (fun t=>[(0,.ext G (bg 4 bT s sum ls 0 j++bD 4 bT s sum ls (0+(j:Int)) i++dx 4 bT s sum (ls.getD (0+(j:Int)).toNat []) (0+(j:Int)) i t))]) (by rfl) (by rfl) (by rfl) (jY (s.cd i) hA) (by rfl) (by rfl) (by rfl) (by rfl) ?_ ?_ ?_
    ·repeat'((conv=>whnf);first|intro _|apply aI|with_reducible exact vM rfl|exact⟨⟩|apply nM|apply fM)
     all_goals((try apply vM);(try simp only[vq]at*);try omega)
     all_goals(rw[fV,aib])
    ·intro hall
     rw[aif]at hall⊢;have g9:=hpos _ (agh _) hall
     repeat'((conv=>whnf);first|intro _|apply aI|with_reducible exact vM rfl|exact⟨⟩|apply nM|apply fM)
     all_goals((try apply vM);(try simp only[vq]at*);try omega)
     refine⟨i+1,[],⟨⟨by omega,by rw[e1,←ajk];exact g9⟩,by omega⟩,?_⟩
     rw[e1,←ajk]
     repeat'((conv=>whnf);first|intro _|apply aI|with_reducible exact vM rfl|exact⟨⟩|apply nM|apply fM)
     all_goals((try apply vM);(try simp only[vq]at*);try omega)
    ·intro t x hx hall lp
     obtain⟨ht,rfl⟩:=o8 hx;have hxC:=bK ht;have hxr:=hA.rng _ hxC;have hxc:=hAc _ hxC;have g0:=hpos t (by omega) hall
     have hs1:=hsp t ht;have cs1:=fZ (g:=4) (nm:=bT) (s:=s) (sum:=sum) (l:=(ls.getD (0+(j:Int)).toNat [])) (k:=(0+(j:Int))) ht
     repeat'((conv=>whnf);first|refine Exists.intro (s) ?_|(intro hq;(try simp only[vw]at hq);try first|exact absurd hq (by decide)|exfalso;omega)|apply aI|with_reducible exact vM rfl|exact⟨⟩|apply nM|apply fM)
     all_goals((try apply vM);(try simp only[vq]at*);try omega)
     all_goals(try omega)
     ·exact⟨h,by omega,by omega,by omega⟩
     ·obtain⟨B,hB⟩:=hs1 (by assumption)
      exact rQ hB g0
     ·rw[show jst 4 s sum (ls.getD (0+(j:Int)).toNat []) i ((s.cd i).getD t 0)=true by assumption]
      assumption
     ·obtain⟨B,hB⟩:=hs1 (by assumption)
      exact qy hB g0 (by assumption)
     ·have q1:jst 4 s sum (ls.getD (0+(j:Int)).toNat []) i ((s.cd i).getD t 0)=true:=by assumption
      have q2:go ((bg 4 bT s sum ls 0 j++bD 4 bT s sum ls (0+(j:Int)) i++dx 4 bT s sum (ls.getD (0+(j:Int)).toNat []) (0+(j:Int)) i t)++[ddV bT i ((s.cd i).getD t 0) (0+(j:Int))])=true:=by assumption
      refine⟨[],?_⟩;rw[cs1,if_pos q1,←ajk]
      repeat'((conv=>whnf);first|intro _|apply aI|with_reducible exact vM rfl|exact⟨⟩|apply nM|apply fM)
      all_goals((try apply vM);(try simp only[vq]at*);try omega)
      all_goals(try first|(rw[q1,q2];rfl)|rfl)
     ·have q1:jst 4 s sum (ls.getD (0+(j:Int)).toNat []) i ((s.cd i).getD t 0)=false:=by assumption
      refine⟨[],?_⟩;rw[cs1,if_neg (by rw[q1];decide),aib]
      repeat'((conv=>whnf);first|intro _|apply aI|with_reducible exact vM rfl|exact⟨⟩|apply nM|apply fM)
      all_goals((try apply vM);(try simp only[vq]at*);try omega)
      all_goals(try(rw[q1];rfl))
   ·have hce:dK 4 bT s sum (ls.getD (0+(j:Int)).toNat []) (0+(j:Int)) i=[]:=by unfold dK;rw[show s.dc i=true from hq];rfl
    rw[hce,aib]at e1;refine⟨i+1,[],⟨⟨by omega,by rw[e1];exact hgo2⟩,by omega⟩,?_⟩
    rw[e1]
    repeat'((conv=>whnf);first|intro _|apply aI|with_reducible exact vM rfl|exact⟨⟩|apply nM|apply fM)
    all_goals((try apply vM);(try simp only[vq]at*);try omega)
  ·have:i=s.cs.length:=by omega
   subst this;rw[←e2]at hgo2⊢
   repeat'((conv=>whnf);first|(intro hq;(try simp only[vw]at hq);try first|exact absurd hq (by decide)|exfalso;omega)|apply aI|with_reducible exact vM rfl|exact⟨⟩|apply nM|apply fM)
   all_goals((try apply vM);(try simp only[vq]at*);try omega)
   refine⟨j+1,[(21,2)],⟨⟨by omega,hgo2⟩,by omega⟩,?_⟩
   repeat'((conv=>whnf);first|intro _|apply aI|with_reducible exact vM rfl|exact⟨⟩|apply nM|apply fM)
   all_goals((try apply vM);(try simp only[vq]at*);try omega)
 ·have:j=ls.length:=by omega
  subst this
  repeat'((conv=>whnf);first|(intro hq;(try simp only[vw]at hq);try first|exact absurd hq (by decide)|exfalso;omega)|apply aI|with_reducible exact vM rfl|exact⟨⟩|apply nM|apply fM)
  all_goals((try apply vM);(try simp only[vq]at*);try omega)
  rw[hL];rw[hL]at hgo;exact qz hgo
theorem RP (c:Int) (ls:List (List Int)) (sum:Int) (gv:List Int) (s:St) (h:bB c ls sum s):
 nK Tryz.prog 180 [] [.ip (.pv [.int .i64 0]) 0,.ip (.pv [.int .i64 ls.length]) 0,.ip (.pv [bdV c ls sum gv s]) 0,rlV bU false true 176] 1 (bg 5 bU s sum ls 0 ls.length):=by
 refine lq (md:=1) (rf:=[]) mixed aj Tryz.func180 (by rfl) (by rfl) (by rfl) fun G go b hY=>⟨_,fA,?_⟩
 obtain⟨L,hL⟩:∃L,L=bg 5 bU s sum ls 0 ls.length:=⟨_,rfl⟩;rw[←hL]at hY⊢;have W:Walk Tryz.prog none kL tab.get BO (tJ b 1 G go L):=⟨aG,mixed,aj,fA,hY _ _⟩;have hcl:=h.cl;have hdl:=h.dl;have hc1:=h.c1;have hms:=dR s.cs;have hll:=h.ll
 repeat'((conv=>whnf);first|intro _|apply aI|with_reducible exact vM rfl|exact⟨⟩|apply nM|apply fM)
 all_goals((try apply vM);(try simp only[vq]at*);try omega)
 conv=>whnf
 refine aJ (X:=Nat) (fun j=>j≤ls.length∧GoTo go L (bg 5 bU s sum ls 0 j).length) (fun j=>[(6,.rp 2 0)]) (fun j=>[(0,.ext G (bg 5 bU s sum ls 0 j)),(2,.cells (.pv [.int .i64 (0+(j:Int))]) false)]) (fun j=>ls.length-j) 0 W (by rfl) ⟨by omega,.zero⟩ ?_ ?_
 ·repeat'((conv=>whnf);first|intro _|apply aI|with_reducible exact vM rfl|exact⟨⟩|apply nM|apply fM)
  all_goals((try apply vM);(try simp only[vq]at*);try omega)
  all_goals rfl
 intro j ⟨hj,hgo⟩;by_cases hlt:j<ls.length
 ·have e2:bg 5 bU s sum ls 0 (j+1)=bg 5 bU s sum ls 0 j++bD 5 bU s sum ls (0+(j:Int)) s.cs.length:=by unfold bg;rw[gP]
  have hln:=h.ln j hlt;have hlen:=hln.len;have ejt:(0+(j:Int)).toNat=j:=by omega
  repeat'((conv=>whnf);first|(intro hq;(try simp only[vw]at hq);try first|exact absurd hq (by decide)|exfalso;omega)|apply aI|with_reducible exact vM rfl|exact⟨⟩|apply nM|apply fM)
  all_goals((try apply vM);(try simp only[vq]at*);try omega)
  conv=>whnf
  refine aJ (X:=Nat) (fun i=>i≤s.cs.length∧GoTo go L (bg 5 bU s sum ls 0 j++bD 5 bU s sum ls (0+(j:Int)) i).length) (fun i=>[(22,.int .i64 i)]) (fun i=>[(0,.ext G (bg 5 bU s sum ls 0 j++bD 5 bU s sum ls (0+(j:Int)) i))]) (fun i=>s.cs.length-i) 0 W (by rfl) ⟨by omega,by simpa [bD]using hgo⟩ ?_ ?_
  ·repeat'((conv=>whnf);first|intro _|apply aI|with_reducible exact vM rfl|exact⟨⟩|apply nM|apply fM)
   all_goals((try apply vM);(try simp only[vq]at*);try omega)
   all_goals(simp[bD])
  intro i ⟨hi,hgo2⟩;by_cases hlt2:i<s.cs.length
  ·have hm:(ms s.cs).getD i 0=(mk (s.cd i):Nat):=fG hlt2
   have hA:=(h.asc _ hlt2).1;have hAc:=(h.asc _ hlt2).2;have e1:bD 5 bU s sum ls (0+(j:Int)) (i+1)=bD 5 bU s sum ls (0+(j:Int)) i++dK 5 bU s sum (ls.getD (0+(j:Int)).toNat []) (0+(j:Int)) i:=by unfold bD;rw[gP]
   repeat'((conv=>whnf);first|(intro hq;(try simp only[vw]at hq);try first|exact absurd hq (by decide)|exfalso;omega)|apply aI|with_reducible exact vM rfl|exact⟨⟩|apply nM|apply fM)
   all_goals((try apply vM);(try simp only[vq]at*);try omega)
   all_goals(try first|omega|(rw[ejt];omega))
   ·have hce:dK 5 bU s sum (ls.getD (0+(j:Int)).toNat []) (0+(j:Int)) i=[]:=by unfold dK;rw[show decide ((i:Int)∈(ls.getD (0+(j:Int)).toNat []))=false by apply decide_eq_false;assumption];cases s.dc i<;>rfl
    rw[hce,aib]at e1;refine⟨i+1,[],⟨⟨by omega,by rw[e1];exact hgo2⟩,by omega⟩,?_⟩
    rw[e1]
    repeat'((conv=>whnf);first|intro _|apply aI|with_reducible exact vM rfl|exact⟨⟩|apply nM|apply fM)
    all_goals((try apply vM);(try simp only[vq]at*);try omega)
   ·have hcc:(s.dc i||(lnG 5&&!decide ((i:Int)∈(ls.getD (0+(j:Int)).toNat []))))=false:=by rw[show s.dc i=false by assumption,show decide ((i:Int)∈(ls.getD (0+(j:Int)).toNat []))=true by apply decide_eq_true;assumption];rfl
    have hce:dK 5 bU s sum (ls.getD (0+(j:Int)).toNat []) (0+(j:Int)) i=dx 5 bU s sum (ls.getD (0+(j:Int)).toNat []) (0+(j:Int)) i (s.cd i).length:=by unfold dK;rw[hcc];rfl
    rw[hce]at e1;have hsp:∀t,t<(s.cd i).length→jst 5 s sum (ls.getD (0+(j:Int)).toNat []) i ((s.cd i).getD t 0)=true→∃B,L=(bg 5 bU s sum ls 0 j++bD 5 bU s sum ls (0+(j:Int)) i++dx 5 bU s sum (ls.getD (0+(j:Int)).toNat []) (0+(j:Int)) i t)++ddV bU i ((s.cd i).getD t 0) (0+(j:Int))::B:=fun t ht hh=>by
     rw[hL];exact oh (g:=5) (nm:=bU) (s:=s) (sum:=sum) (ls:=ls) (fr:=0) (m:=ls.length) (j:=j) (i:=i) (t:=t) hlt hlt2 ht hcc hh
    have hpos:∀t,t≤(s.cd i).length→(∀t',t'<t→(!jst 5 s sum (ls.getD (0+(j:Int)).toNat []) i ((s.cd i).getD t' 0)||go ((bg 5 bU s sum ls 0 j++bD 5 bU s sum ls (0+(j:Int)) i++dx 5 bU s sum (ls.getD (0+(j:Int)).toNat []) (0+(j:Int)) i t')++[ddV bU i ((s.cd i).getD t' 0) (0+(j:Int))]))=true)→GoTo go L (bg 5 bU s sum ls 0 j++bD 5 bU s sum ls (0+(j:Int)) i++dx 5 bU s sum (ls.getD (0+(j:Int)).toNat []) (0+(j:Int)) i t).length:=by
     intro t;induction t with
     |zero=>intro _ _;rw[fV,aib];exact hgo2
     |succ t ih=>
      intro ht hall;have g0:=ih (by omega) fun t' h'=>hall t' (by omega)
      have g1:=hall t (by omega)
      rw[fZ (by omega)]
      split
      ·rename_i hh
       rw[hh]at g1;obtain⟨B,hB⟩:=hsp t (by omega) hh
       rw[←ajk];exact qx hB g0 (by simpa using g1)
      ·rw[aib];exact g0
    rw[hm];conv=>whnf
    refine ji aG mixed aj fA (fun r=>hY r _) (fs:=[]) (cs:=[.ip (.pv [.int .u32 (mk (s.cd i):Nat)]) 0]) ((s.cd i).map (PV.int .i64)) (fun t=>(!jst 5 s sum (ls.getD (0+(j:Int)).toNat []) i ((s.cd i).getD t 0)||go ((bg 5 bU s sum ls 0 j++bD 5 bU s sum ls (0+(j:Int)) i++dx 5 bU s sum (ls.getD (0+(j:Int)).toNat []) (0+(j:Int)) i t)++[ddV bU i ((s.cd i).getD t 0) (0+(j:Int))]))) (fun t=>[(0,.ext G (bg 5 bU s sum ls 0 j++bD 5 bU s sum ls (0+(j:Int)) i++dx 5 bU s sum (ls.getD (0+(j:Int)).toNat []) (0+(j:Int)) i t))]) (by rfl) (by rfl) (by rfl) (jY (s.cd i) hA) (by rfl) (by rfl) (by rfl) (by rfl) ?_ ?_ ?_
    ·repeat'((conv=>whnf);first|intro _|apply aI|with_reducible exact vM rfl|exact⟨⟩|apply nM|apply fM)
     all_goals((try apply vM);(try simp only[vq]at*);try omega)
     all_goals(rw[fV,aib])
    ·intro hall
     rw[aif]at hall⊢;have g9:=hpos _ (agh _) hall
     repeat'((conv=>whnf);first|intro _|apply aI|with_reducible exact vM rfl|exact⟨⟩|apply nM|apply fM)
     all_goals((try apply vM);(try simp only[vq]at*);try omega)
     refine⟨i+1,[],⟨⟨by omega,by rw[e1,←ajk];exact g9⟩,by omega⟩,?_⟩
     rw[e1,←ajk]
     repeat'((conv=>whnf);first|intro _|apply aI|with_reducible exact vM rfl|exact⟨⟩|apply nM|apply fM)
     all_goals((try apply vM);(try simp only[vq]at*);try omega)
    ·intro t x hx hall lp
     obtain⟨ht,rfl⟩:=o8 hx;have hxC:=bK ht;have hxr:=hA.rng _ hxC;have hxc:=hAc _ hxC;have g0:=hpos t (by omega) hall
     have hs1:=hsp t ht;have cs1:=fZ (g:=5) (nm:=bU) (s:=s) (sum:=sum) (l:=(ls.getD (0+(j:Int)).toNat [])) (k:=(0+(j:Int))) ht
     repeat'((conv=>whnf);first|refine Exists.intro (s) ?_|(intro hq;(try simp only[vw]at hq);try first|exact absurd hq (by decide)|exfalso;omega)|apply aI|with_reducible exact vM rfl|exact⟨⟩|apply nM|apply fM)
     all_goals((try apply vM);(try simp only[vq]at*);try omega)
     all_goals(try omega)
     ·exact⟨h,by omega,by omega,by omega⟩
     ·obtain⟨B,hB⟩:=hs1 (by assumption)
      exact rQ hB g0
     ·rw[show jst 5 s sum (ls.getD (0+(j:Int)).toNat []) i ((s.cd i).getD t 0)=true by assumption]
      assumption
     ·obtain⟨B,hB⟩:=hs1 (by assumption)
      exact qy hB g0 (by assumption)
     ·have q1:jst 5 s sum (ls.getD (0+(j:Int)).toNat []) i ((s.cd i).getD t 0)=true:=by assumption
      have q2:go ((bg 5 bU s sum ls 0 j++bD 5 bU s sum ls (0+(j:Int)) i++dx 5 bU s sum (ls.getD (0+(j:Int)).toNat []) (0+(j:Int)) i t)++[ddV bU i ((s.cd i).getD t 0) (0+(j:Int))])=true:=by assumption
      refine⟨[],?_⟩;rw[cs1,if_pos q1,←ajk]
      repeat'((conv=>whnf);first|intro _|apply aI|with_reducible exact vM rfl|exact⟨⟩|apply nM|apply fM)
      all_goals((try apply vM);(try simp only[vq]at*);try omega)
      all_goals(try first|(rw[q1,q2];rfl)|rfl)
     ·have q1:jst 5 s sum (ls.getD (0+(j:Int)).toNat []) i ((s.cd i).getD t 0)=false:=by assumption
      refine⟨[],?_⟩;rw[cs1,if_neg (by rw[q1];decide),aib]
      repeat'((conv=>whnf);first|intro _|apply aI|with_reducible exact vM rfl|exact⟨⟩|apply nM|apply fM)
      all_goals((try apply vM);(try simp only[vq]at*);try omega)
      all_goals(try(rw[q1];rfl))
   ·have hce:dK 5 bU s sum (ls.getD (0+(j:Int)).toNat []) (0+(j:Int)) i=[]:=by unfold dK;rw[show s.dc i=true from hq];rfl
    rw[hce,aib]at e1;refine⟨i+1,[],⟨⟨by omega,by rw[e1];exact hgo2⟩,by omega⟩,?_⟩
    rw[e1]
    repeat'((conv=>whnf);first|intro _|apply aI|with_reducible exact vM rfl|exact⟨⟩|apply nM|apply fM)
    all_goals((try apply vM);(try simp only[vq]at*);try omega)
  ·have:i=s.cs.length:=by omega
   subst this;rw[←e2]at hgo2⊢
   repeat'((conv=>whnf);first|(intro hq;(try simp only[vw]at hq);try first|exact absurd hq (by decide)|exfalso;omega)|apply aI|with_reducible exact vM rfl|exact⟨⟩|apply nM|apply fM)
   all_goals((try apply vM);(try simp only[vq]at*);try omega)
   refine⟨j+1,[(21,2)],⟨⟨by omega,hgo2⟩,by omega⟩,?_⟩
   repeat'((conv=>whnf);first|intro _|apply aI|with_reducible exact vM rfl|exact⟨⟩|apply nM|apply fM)
   all_goals((try apply vM);(try simp only[vq]at*);try omega)
 ·have:j=ls.length:=by omega
  subst this
  repeat'((conv=>whnf);first|(intro hq;(try simp only[vw]at hq);try first|exact absurd hq (by decide)|exfalso;omega)|apply aI|with_reducible exact vM rfl|exact⟨⟩|apply nM|apply fM)
  all_goals((try apply vM);(try simp only[vq]at*);try omega)
  rw[hL];rw[hL]at hgo;exact qz hgo
structure Dd where
 g:Nat
 y:Int
 x:Int
 k:Int
abbrev BP (d:Dd):PV:=ddV (nmG d.g) d.y d.x d.k
def frG (g:Nat):Int:=if lnG g then 0 else-1
def mG (g:Nat) (ls:List (List Int)):Nat:=if lnG g then ls.length else 1
def vY (g:Nat) (s:St) (sum:Int) (l:List Int) (k:Int) (i:Nat):List Dd:=
 if s.dc i||(lnG g&&!decide ((i:Int)∈l))then []else((s.cd i).filter fun x=>jst g s sum l i x).map fun x=>⟨g,i,x,k⟩
def jo (g:Nat) (s:St) (sum:Int) (ls:List (List Int)):List Dd:=
 (agr (mG g ls)).flatMap fun j:Nat=>(agr s.cs.length).flatMap fun i=>vY g s sum (ls.getD (frG g+(j:Int)).toNat []) (frG g+(j:Int)) i
theorem aav (g:Nat) (s:St) (sum:Int) (l:List Int) (k:Int) (i:Nat):dK g (nmG g) s sum l k i=(vY g s sum l k i).map BP:=by
 unfold dK vY;split
 ·rfl
 ·unfold dx;rw[ail,List.map_map];rfl
theorem aaw (g:Nat) (s:St) (sum:Int) (ls:List (List Int)):bg g (nmG g) s sum ls (frG g) (mG g ls)=(jo g s sum ls).map BP:=by
 unfold bg jo bD;rw[ajl];congr 1;funext j;rw[ajl];congr 1;funext i;exact aav _ _ _ _ _ _
theorem He {g:Nat} {s:St} {sum:Int} {ls:List (List Int)} {d:Dd}:d∈jo g s sum ls↔
 d.g=g∧(0≤d.y∧d.y<s.cs.length)∧(if lnG g then(0≤d.k∧d.k<ls.length)∧d.y∈ls.getD d.k.toNat []else d.k= -1)∧okJ g s sum (ls.getD d.k.toNat []) d.y d.x=true:=by
 unfold jo;rw[ajm];constructor
 ·rintro⟨j,hj,hd⟩
  rw[ajm]at hd;obtain⟨i,hi,hd⟩:=hd;have hj:=ah5.1 hj;have hi:=ah5.1 hi;unfold vY at hd;split at hd
  ·simp at hd
  ·rename_i hc
   obtain⟨x,hx,rfl⟩:=ai5.1 hd;obtain⟨hx,hJ⟩:=aiw.1 hx;have hc:(s.dc i||(lnG g&&!decide ((i:Int)∈ls.getD (frG g+(j:Int)).toNat [])))=false:=by
    cases h:(s.dc i||(lnG g&&!decide ((i:Int)∈ls.getD (frG g+(j:Int)).toNat [])))with
    |false=>rfl
    |true=>exact absurd h hc
   rw[Bool.or_eq_false_iff]at hc;refine⟨rfl,⟨by simp,by simp;omega⟩,?_,?_⟩
   ·cases hl:lnG g with
    |true=>
     rw[hl]at hc;simp only[mG,frG,hl,if_true]at hj⊢;refine⟨⟨by omega,by omega⟩,?_⟩
     have:=hc.2;simp only[frG,hl,if_true,Bool.true_and,Bool.not_eq_false',decide_eq_true_eq]at this;exact this
    |false=>
     simp only[mG,frG,hl]at hj⊢;simp at hj⊢;omega
   ·unfold okJ
    simp only[ahl];rw[hc.1,decide_eq_true hx,hJ];rfl
 ·rintro⟨h1,⟨h2,h3⟩,h4,h5⟩
  unfold okJ at h5;simp only[agE,ajn,decide_eq_true_eq]at h5;obtain⟨a1,a2,a3⟩:=h5;have e:((d.y.toNat:Nat):Int)=d.y:=by omega
  cases hl:lnG g with
  |true=>
   rw[hl]at h4;simp only[if_true]at h4;refine⟨d.k.toNat,ah5.2 (by simp only[mG,hl,if_true];omega),?_⟩
   rw[ajm];refine⟨d.y.toNat,ah5.2 (by omega),?_⟩
   have ek:(frG g+((d.k.toNat:Nat):Int))=d.k:=by simp only[frG,hl,if_true];omega
   rw[ek];unfold vY;rw[a1,hl,e,decide_eq_true h4.2];simp only[Bool.not_true,Bool.and_false,ajo];exact ai5.2 ⟨d.x,aiw.2 ⟨a2,a3⟩,by subst h1;rfl⟩
  |false=>
   rw[hl]at h4;simp only[Bool.false_eq_true,if_false]at h4;refine⟨0,ah5.2 (by simp[mG,hl]),?_⟩
   rw[ajm];refine⟨d.y.toNat,ah5.2 (by omega),?_⟩
   have ek:(frG g+((0:Nat):Int))=d.k:=by simp only[frG,hl];rw[h4];rfl
   rw[ek];unfold vY;rw[a1,hl,e];simp only[Bool.false_and,ajo];exact ai5.2 ⟨d.x,aiw.2 ⟨a2,a3⟩,by subst h1;rfl⟩
def gH (s:St) (sum:Int) (ls:List (List Int)):Nat→Option Dd
 |0=>none
 |n+1=>match gH s sum ls n with
  |some d=>some d
  |none=>(jo (n+1) s sum ls).head?
theorem Hf {s:St} {sum:Int} {ls:List (List Int)} {d:Dd}:∀{n:Nat},gH s sum ls n=some d→∃g,1≤g∧g≤n∧d∈jo g s sum ls:=by
 intro n;induction n with
 |zero=>intro h;cases h
 |succ n ih=>
  intro h;unfold gH at h;split at h
  ·rename_i d' h1
   cases h
   obtain⟨g,g1,g2,g3⟩:=ih h1;exact⟨g,g1,by omega,g3⟩
  ·exact⟨n+1,by omega,by omega,List.mem_of_head? h⟩
def U6 (g:Nat):Bool:=g≤3
def fnG:Nat→Nat
 |1=>172
 |2=>173
 |3=>174
 |4=>175
 |_=>176
def toG (g:Nat) (ls:List (List Int)):Int:=if lnG g then ls.length else 0
noncomputable def afw:CPT:=aA 130 (aB qp) noC
theorem aax:aV Tryz.prog afw:=ak (au qw) aC
abbrev itV (g:Nat) (c:Int) (ls:List (List Int)) (sum:Int) (gv:List Int) (s:St):PV:=.fn (.func 180) [] [.ip (.pv [.int .i64 (frG g)]) 0,.ip (.pv [.int .i64 (toG g ls)]) 0,.ip (.pv [bdV c ls sum gv s]) 0,rlV (nmG g) (U6 g) (lnG g) (fnG g)]
theorem U7 (g:Nat) (hg:1≤g∧g≤5) (c:Int) (ls:List (List Int)) (sum:Int) (gv:List Int) (s:St) (h:bB c ls sum s):
 nK Tryz.prog 180 [] [.ip (.pv [.int .i64 (frG g)]) 0,.ip (.pv [.int .i64 (toG g ls)]) 0,.ip (.pv [bdV c ls sum gv s]) 0,rlV (nmG g) (U6 g) (lnG g) (fnG g)] 1 ((jo g s sum ls).map BP):=by
 rw[←aaw];obtain rfl|rfl|rfl|rfl|rfl:g=1∨g=2∨g=3∨g=4∨g=5:=by omega
 ·exact RJ c ls sum gv s h
 ·exact RL c ls sum gv s h
 ·exact RN c ls sum gv s h
 ·exact RO c ls sum gv s h
 ·exact RP c ls sum gv s h
theorem U8 (c:Int) (ls:List (List Int)) (sum:Int) (gv:List Int) (s:St) (g:Nat) (hg:1≤g∧g≤5):aF Tryz.prog 134 [bdV c ls sum gv s,.int .i64 (g:Int)] (itV g c ls sum gv s):=by
 have hte:=Aa;obtain rfl|rfl|rfl|rfl|rfl:g=1∨g=2∨g=3∨g=4∨g=5:=by omega
 all_goals
  refine av (md:=1) (rf:=[]) mixed aj aax Tryz.func134 (by rfl) (by rfl) (by rfl) ?_
  repeat'((conv=>whnf);first|(intro hq;(try simp only[vw]at hq);try first|exact absurd hq (by decide)|exfalso;omega)|apply aI|with_reducible exact vM rfl|exact⟨⟩|apply nM|apply fM)
  all_goals((try apply vM);(try simp only[vq]at*);try omega)
  all_goals first|exact Sup.of rfl|(rw[hte];decide)|decide|skip
def OJ:PSp:=fun xs K=>match xs with
 | [.ip (.pv [.int .i64 c,.isl (.rows .i64 ls) .none,.int .i64 sum,.isl (.ints .i64 gv) .none,.isl (.ints .u32 M) .none,.isl (.bools D) .none]) 0,.int .i64 g]=>∃(s:St) (n:Nat),VC (M=ms s.cs∧D=s.ds∧g=n∧1≤n∧n≤5)∧K (itV n c ls sum gv s)
 |_=>False
theorem aay:POK Tryz.prog 134 OJ:=by
 intro xs K hk;unfold OJ at hk;split at hk
 ·obtain⟨s,n,⟨rfl,rfl,rfl,h⟩,hk⟩:=hk
  exact⟨_,hk,U8 _ _ _ _ s n h⟩
 ·exact hk.elim
noncomputable def afx:CPT:=aA 134 (aB OJ) noC
theorem BQ:aV Tryz.prog afx:=ak (au aay) aC
def OL (o:Option Dd):PV:=match o with
 |some d=>.tup [BP d,.bp true]
 |none=>.tup [ddV ug 0 0 0,.bp false]
theorem Li {s:St} {sum:Int} {ls:List (List Int)} {d:Dd} {i:Nat} (h0:gH s sum ls i=none) (h1:(jo (i+1) s sum ls).head? =some d):∀n,i+1≤n→gH s sum ls n=some d:=by
 intro n hn;induction n with
 |zero=>omega
 |succ n ih=>
  unfold gH;by_cases e:i=n
  ·subst e;rw[h0];exact h1
  ·rw[ih (by omega)]
theorem Ap (p:PV) (b:Bool):Sup (bG [p,PV.bool b]) (PV.tup [p,.bp b]):=⟨fun hr=>by
 cases hr with
 |tup _ _ vs hl hh=>
  refine .tup _ _ _ hl fun i hi=>?_;have:=hh i hi;obtain rfl|rfl:i=0∨i=1:=by simp at hi;omega
  ·exact this
  ·simp only[aD]at this⊢
   generalize vs.getD 1 undef=v1 at this
   cases this;exact .bp _ _⟩
theorem OM (c:Int) (ls:List (List Int)) (sum:Int) (gv:List Int) (s:St) (h:bB c ls sum s) (n:Nat) (hn:n≤5):aF Tryz.prog 92 [bdV c ls sum gv s,.int .i64 (n:Int)] (OL (gH s sum ls n)):=by
 refine av (md:=1) (rf:=[]) mixed aj BQ Tryz.func92 (by rfl) (by rfl) (by rfl) ?_
 repeat'((conv=>whnf);first|(intro hq;(try simp only[vw]at hq);try first|exact absurd hq (by decide)|exfalso;omega)|apply aI|with_reducible exact vM rfl|exact⟨⟩|apply nM|apply fM)
 all_goals((try apply vM);(try simp only[vq]at*);try omega)
 conv=>whnf
 refine aJ (X:=Nat) (fun i=>i≤n∧gH s sum ls i=none) (fun i=>[(6,.int .i64 ((i:Int)+1))]) (fun i=>[]) (fun i=>n-i) 0 ⟨aG,mixed,aj,BQ,aM⟩ (by rfl) ⟨by omega,rfl⟩ ?_ ?_
 ·repeat'((conv=>whnf);first|intro _|apply aI|with_reducible exact vM rfl|exact⟨⟩|apply nM|apply fM)
  all_goals((try apply vM);(try simp only[vq]at*);try omega)
 intro i ⟨hi,hok⟩;by_cases hlt:i<n
 ·repeat'((conv=>whnf);first|refine Exists.intro (s) ?_|refine Exists.intro (i+1) ?_|(intro hq;(try simp only[vw]at hq);try first|exact absurd hq (by decide)|exfalso;omega)|apply aI|with_reducible exact vM rfl|exact⟨⟩|apply nM|apply fM)
  all_goals((try apply vM);(try simp only[vq]at*);try omega)
  conv=>whnf
  refine ji aG mixed aj BQ (fun r=>aM) (fs:=[]) (cs:=[.ip (.pv [.int .i64 (frG (i+1))]) 0,.ip (.pv [.int .i64 (toG (i+1) ls)]) 0,.ip (.pv [bdV c ls sum gv s]) 0,rlV (nmG (i+1)) (U6 (i+1)) (lnG (i+1)) (fnG (i+1))]) ((jo (i+1) s sum ls).map BP) (fun _=>false) (fun _=>[]) (by rfl) (by rfl) (by rfl) (U7 (i+1) (by omega) c ls sum gv s h) (by rfl) (by rfl) (by rfl) (by rfl) ?_ ?_ ?_
  ·repeat'((conv=>whnf);first|intro _|apply aI|with_reducible exact vM rfl|exact⟨⟩|apply nM|apply fM)
   all_goals((try apply vM);(try simp only[vq]at*);try omega)
  ·intro hall
   have hE:jo (i+1) s sum ls=[]:=by
    cases hL:jo (i+1) s sum ls with
    |nil=>rfl
    |cons d l=>rw[hL]at hall;exact absurd (hall 0 (by simp)) (by decide)
   repeat'((conv=>whnf);first|(intro hq;(try simp only[vw]at hq);try first|exact absurd hq (by decide)|exfalso;omega)|apply aI|with_reducible exact vM rfl|exact⟨⟩|apply nM|apply fM)
   all_goals((try apply vM);(try simp only[vq]at*);try omega)
   refine⟨i+1,[],⟨⟨by omega,?_⟩,by omega⟩,?_⟩
   ·unfold gH;rw[hok,hE];rfl
   repeat'((conv=>whnf);first|intro _|apply aI|with_reducible exact vM rfl|exact⟨⟩|apply nM|apply fM)
   all_goals((try apply vM);(try simp only[vq]at*);try omega)
  ·intro t x hx hall lp
   have ht:t=0:=by
    rcases Nat.eq_zero_or_pos t with h0|h0
    ·exact h0
    ·exact absurd (hall 0 h0) (by decide)
   subst ht;rw[ahe]at hx;cases hL:jo (i+1) s sum ls with
   |nil=>rw[hL]at hx;cases hx
   |cons d l=>
    rw[hL]at hx;cases hx
    rw[Li hok (by rw[hL];rfl) n (by omega)]
    repeat'((conv=>whnf);first|(intro hq;(try simp only[vw]at hq);try first|exact absurd hq (by decide)|exfalso;omega)|apply aI|with_reducible exact vM rfl|exact⟨⟩|apply nM|apply fM)
    all_goals((try apply vM);(try simp only[vq]at*);try omega)
    exact Ap _ _
 ·have:i=n:=by omega
  subst this;rw[hok]
  repeat'((conv=>whnf);first|(intro hq;(try simp only[vw]at hq);try first|exact absurd hq (by decide)|exfalso;omega)|apply aI|with_reducible exact vM rfl|exact⟨⟩|apply nM|apply fM)
  all_goals((try apply vM);(try simp only[vq]at*);try omega)
  exact Ap _ _
def xq:PSp:=fun xs K=>match xs with
 | [.ip (.pv [.int .i64 c,.isl (.rows .i64 ls) .none,.int .i64 sum,.isl (.ints .i64 gv) .none,.isl (.ints .u32 M) .none,.isl (.bools D) .none]) 0,.int .i64 g]=>∃(s:St) (o:Option Dd),VC (M=ms s.cs∧D=s.ds∧(0≤g∧g≤5)∧bB c ls sum s∧gH s sum ls g.toNat=o)∧K (OL o)
 |_=>False
theorem Dq:POK Tryz.prog 92 xq:=by
 intro xs K hk;unfold xq at hk;split at hk
 ·obtain⟨s,o,⟨rfl,rfl,hg,h,rfl⟩,hk⟩:=hk
  rename_i g;obtain⟨n,rfl⟩:∃n:Nat,g=n:=⟨g.toNat,by omega⟩
  rw[ahl]at hk;exact⟨_,hk,OM _ _ _ _ s h n (by omega)⟩
 ·exact hk.elim
structure cZ (c:Int) (ls:List (List Int)) (sum:Int) (gv:List Int):Prop where
 c1:1≤c∧c≤16
 ll:1≤ls.length∧ls.length≤128
 ln:∀i,i<ls.length→adn c (ls.getD i [])
 sm: -999999999≤sum∧sum≤999999999
 gl:(gv.length:Int)=c
 gr:∀x∈gv,0≤x∧x≤c
 gd:∀i j,i<j→j<gv.length→0<gv.getD j 0→gv.getD i 0≠gv.getD j 0
def frL (c:Int) (l:List Int):List Int:=((agr c.toNat).map fun i:Nat=>(i:Int)+1).filter fun y=>!decide (y∈l)
theorem xu {c:Int} {l:List Int} {x:Int} (hc:0≤c):x∈frL c l↔(1≤x∧x≤c)∧x∉l:=by
 unfold frL;rw[aiw,ai5];constructor
 ·rintro⟨⟨i,hi,rfl⟩,h⟩
  have:=ah5.1 hi;exact⟨by omega,by simpa using h⟩
 ·rintro⟨h,h2⟩
  exact⟨⟨(x-1).toNat,ah5.2 (by omega),by omega⟩,by simpa using h2⟩
theorem Lj {c:Int} {l:List Int} (hc:1≤c∧c≤16):Asc (frL c l):=by
 refine⟨?_,fun x hx=>?_⟩
 ·unfold frL
  refine List.Pairwise.filter _ ?_;rw[ajp];exact List.Pairwise.imp (fun h=>by omega) List.pairwise_lt_range
 ·have:=(xu (by omega)).1 hx;omega
theorem aaz (c:Int) (l:List Int) (x:Int):dw (frL c l) x=frL c (l++[x]):=by
 unfold dw frL;rw[List.filter_filter];congr 1
 funext y
 simp[agu,Bool.and_comm]
theorem U9 {c:Int} {l:List Int} {x:Int} (h:x≤0):frL c (l++[x])=frL c l:=by
 unfold frL;refine List.filter_congr fun y hy=>?_;obtain⟨i,_,rfl⟩:=ai5.1 hy;have:¬((i:Int)+1=x):=by omega
 simp[this]
def jJ (c:Int) (gv:List Int) (l:List Int):List (List Int):=l.map fun x=>if 0<x then [x]else frL c gv
def jq (l:List Int):List Bool:=l.map fun x=>decide (0<x)
def bgn (c:Int) (gv:List Int):St:=⟨jJ c gv gv,jq gv⟩
theorem rR {c:Int} {ls:List (List Int)} {sum:Int} {gv:List Int} (h:cZ c ls sum gv):bB c ls sum (bgn c gv):=by
 have hc:=h.c1;have hg:=h.gl;have hat:∀i,i<gv.length→(bgn c gv).cd i=if 0<gv.getD i 0 then [gv.getD i 0]else frL c gv:=fun i hi=>by
  simp[bgn,jJ,St.cd,agt,hi]
 have hdt:∀i,i<gv.length→(bgn c gv).dc i=decide (0<gv.getD i 0):=fun i hi=>by
  simp[bgn,jq,St.dc,agt,hi]
 have hl:(bgn c gv).cs.length=gv.length:=by simp[bgn,jJ]
 refine⟨hc,h.ll,h.ln,h.sm,by rw[hl];exact hg,by simp[bgn,jq];exact hg,fun i hi=>?_,fun i hi hd=>?_⟩
 ·rw[hl]at hi
  rw[hat i hi];have hm:=h.gr _ (bK hi);split
  ·exact⟨.one (by omega),fun x hx=>by rw[ai0.1 hx];omega⟩
  ·exact⟨Lj hc,fun x hx=>((xu (by omega)).1 hx).1.2⟩
 ·rw[hl]at hi
  rw[hdt i hi,decide_eq_true_eq]at hd;rw[hat i hi,if_pos hd];rfl
theorem bP {α:Type} {l:List α} {i:Nat} (h:l.length=i):aiW (i-0) (aiX 0 l)=l:=by rw[aiY,aiZ,←h,ail]
theorem OO (c:Int) (ls:List (List Int)) (sum:Int) (gv:List Int) (h:cZ c ls sum gv):
 jM Tryz.prog 86 [pzV c ls sum gv] [] [.rp 0 0] (bdO c ls sum gv (bgn c gv) gv.length):=by
 have hc:=h.c1;have hg:=h.gl;have hsb:=kU (c+1).toNat (by omega)
 have ham:=yN hc;have hfr0:((agr c.toNat).map fun i:Nat=>(i:Int)+1)=frL c []:=by unfold frL;simp;rw[ajq.2 (fun _ _=>rfl)]
 rw[hfr0]at ham;refine bL (md:=1) (rf:=[53,61]) mixed aj aC 0 [(1,0),(20,1),(21,2)] Tryz.func86 (by rfl) (by rfl) (by rfl) ?_
 repeat'((conv=>whnf);first|(intro hq;(try simp only[vw]at hq);try first|exact absurd hq (by decide)|exfalso;omega)|apply aI|with_reducible exact vM rfl|exact⟨⟩|apply nM|apply fM)
 all_goals((try apply vM);(try simp only[vq]at*);try omega)
 all_goals(try omega)
 conv=>whnf
 refine aJ (X:=Nat) (fun i=>i≤gv.length) (fun i=>[(22,.int .i64 i),(4,.int .u32 (mk (frL c (gv.take i)):Nat))]) (fun i=>[]) (fun i=>gv.length-i) 0 ⟨aG,mixed,aj,aC,aM⟩ (by rfl) (by omega) ?_ ?_
 ·repeat'((conv=>whnf);first|intro _|apply aI|with_reducible exact vM rfl|exact⟨⟩|apply nM|apply fM)
  all_goals((try apply vM);(try simp only[vq]at*);try omega)
  all_goals exact ham
 intro i hi;by_cases hlt:i<gv.length
 ·have hx:=h.gr _ (bK hlt)
  have hsx:=kU (gv.getD i 0).toNat (by omega)
  have hdel:=rF (Lj (l:=gv.take i) hc).inM (show 0≤gv.getD i 0∧gv.getD i 0≤31 by omega)
  rw[aaz,←bX hlt]at hdel
  repeat'((conv=>whnf);first|(intro hq;(try simp only[vw]at hq);try first|exact absurd hq (by decide)|exfalso;omega)|apply aI|with_reducible exact vM rfl|exact⟨⟩|apply nM|apply fM)
  all_goals((try apply vM);(try simp only[vq]at*);try omega)
  all_goals(try omega)
  ·refine⟨i+1,[],⟨by omega,by omega⟩,?_⟩
   repeat'((conv=>whnf);first|intro _|apply aI|with_reducible exact vM rfl|exact⟨⟩|apply nM|apply fM)
   all_goals((try apply vM);(try simp only[vq]at*);try omega)
   all_goals exact hdel
  ·refine⟨i+1,[],⟨by omega,by omega⟩,?_⟩
   rw[bX hlt,U9 (by omega)]
   repeat'((conv=>whnf);first|intro _|apply aI|with_reducible exact vM rfl|exact⟨⟩|apply nM|apply fM)
   all_goals((try apply vM);(try simp only[vq]at*);try omega)
 ·have:i=gv.length:=by omega
  subst this;rw[ail]
  repeat'((conv=>whnf);first|(intro hq;(try simp only[vw]at hq);try first|exact absurd hq (by decide)|exfalso;omega)|apply aI|with_reducible exact vM rfl|exact⟨⟩|apply nM|apply fM)
  all_goals((try apply vM);(try simp only[vq]at*);try omega)
  conv=>whnf
  refine F9 (X:=Nat) (fun i=>1≤i∧i≤gv.length) (fun i=>[(36,.int .i64 i)]) (fun i=>[(1,.cells (.pv [.int .i64 c,.isl (.rows .i64 ls) .none,.int .i64 sum,.isl (.ints .i64 gv) .none,.rsl 20 0 i,.rsl 21 0 i]) false),(20,.cells (.ints .u32 (ms (jJ c gv (gv.take i)))) false),(21,.cells (.bools (jq (gv.take i))) false)]) (fun i=>gv.length-i) gv.length ⟨aG,mixed,aj,aC,aM⟩ (by rfl) ?_ ?_
  ·have hx:0≤gv.getD (aiI 0) 0∧gv.getD (aiI 0) 0≤c:=h.gr _ (bK (show 0<gv.length by omega))
   have hsx:=kU (gv.getD (aiI 0) 0).toNat (by omega)
   have e0:gv.take 1=[gv.getD (aiI 0) 0]:=bX (l:=gv) (i:=0) (by omega)
   have ec:∀q:List Int,(if 0<gv.getD (aiI 0) 0 then [gv.getD (aiI 0) 0]else frL c gv)=q→ms (jJ c gv (gv.take 1))=[((mk q:Nat):Int)]:=fun q hq=>by rw[e0,←hq];rfl
   have ed:jq (gv.take 1)=[decide (0<gv.getD (aiI 0) 0)]:=by rw[e0];rfl
   have hone:(1:Int)*2 ^ (gv.getD (aiI 0) 0).toNat=((mk [gv.getD (aiI 0) 0]:Nat):Int):=by rw[mk_one,ais];norm_cast
   repeat'((conv=>whnf);first|(intro hq;(try simp only[vw]at hq);try first|exact absurd hq (by decide)|exfalso;omega)|apply aI|with_reducible exact vM rfl|exact⟨⟩|apply nM|apply fM)
   all_goals((try apply vM);(try simp only[vq]at*);try omega)
   all_goals(try omega)
   ·refine⟨1,[(3,20),(5,21)],⟨⟨by omega,by omega⟩,by omega⟩,?_⟩
    rw[ec _ (if_pos hq),ed]
    repeat'((conv=>whnf);first|intro _|apply aI|with_reducible exact vM rfl|exact⟨⟩|apply nM|apply fM)
    all_goals((try apply vM);(try simp only[vq]at*);try omega)
    all_goals first|(rw[hone];done)|(rw[hone])|skip
   ·refine⟨1,[(3,20),(5,21)],⟨⟨by omega,by omega⟩,by omega⟩,?_⟩
    rw[ec _ (if_neg hq),ed]
    repeat'((conv=>whnf);first|intro _|apply aI|with_reducible exact vM rfl|exact⟨⟩|apply nM|apply fM)
    all_goals((try apply vM);(try simp only[vq]at*);try omega)
  ·intro i ⟨hi1,hi2⟩
   have hbl:(ms (jJ c gv (gv.take i))).length=i∧(jq (gv.take i)).length=i:=by
    constructor
    ·rw[dR];unfold jJ;rw[aif,ag6];omega
    ·unfold jq;rw[aif,ag6];omega
   by_cases hlt:i<gv.length
   ·have hx:=h.gr _ (bK hlt)
    have hsx:=kU (gv.getD i 0).toNat (by omega)
    have e0:=bX hlt;have ec:∀q:List Int,(if 0<gv.getD i 0 then [gv.getD i 0]else frL c gv)=q→ms (jJ c gv (gv.take (i+1)))=ms (jJ c gv (gv.take i))++[((mk q:Nat):Int)]:=fun q hq=>by
     rw[e0,←hq];unfold jJ ms;rw[aik,aik];rfl
    have ed:jq (gv.take (i+1))=jq (gv.take i)++[decide (0<gv.getD i 0)]:=by rw[e0];unfold jq;rw[aik];rfl
    have hone:(1:Int)*2 ^ (gv.getD i 0).toNat=((mk [gv.getD i 0]:Nat):Int):=by rw[mk_one,ais];norm_cast
    repeat'((conv=>whnf);first|(intro hq;(try simp only[vw]at hq);try first|exact absurd hq (by decide)|exfalso;omega)|apply aI|with_reducible exact vM rfl|exact⟨⟩|apply nM|apply fM)
    all_goals((try apply vM);(try simp only[vq]at*);try omega)
    all_goals(try omega)
    ·refine⟨i+1,[(3,20),(5,21)],⟨⟨by omega,by omega⟩,by omega⟩,?_⟩
     rw[ec _ (if_pos hq),ed]
     repeat'((conv=>whnf);first|intro _|apply aI|with_reducible exact vM rfl|exact⟨⟩|apply nM|apply fM)
     all_goals((try apply vM);(try simp only[vq]at*);try omega)
     all_goals first|rw[bP hbl.1,hone]|rw[bP hbl.2]
    ·refine⟨i+1,[(3,20),(5,21)],⟨⟨by omega,by omega⟩,by omega⟩,?_⟩
     rw[ec _ (if_neg hq),ed]
     repeat'((conv=>whnf);first|intro _|apply aI|with_reducible exact vM rfl|exact⟨⟩|apply nM|apply fM)
     all_goals((try apply vM);(try simp only[vq]at*);try omega)
     all_goals first|rw[bP hbl.1]|rw[bP hbl.2]
   ·have:i=gv.length:=by omega
    subst this;rw[ail]at*
    repeat'((conv=>whnf);first|(intro hq;(try simp only[vw]at hq);try first|exact absurd hq (by decide)|exfalso;omega)|apply aI|with_reducible exact vM rfl|exact⟨⟩|apply nM|apply fM)
    all_goals((try apply vM);(try simp only[vq]at*);try omega)
    all_goals skip
def Aq:LSp:=fun xs objs K=>match xs,objs with
 | [.agg [.int .i64 c,.isl (.rows .i64 ls) .none,.int .i64 sum,.isl (.ints .i64 gv) .none]],[]=>VC (cZ c ls sum gv)∧K [.rp 0 0] (bdO c ls sum gv (bgn c gv) gv.length)
 |_,_=>False
theorem Hg:LOK Tryz.prog 86 Aq:=by
 intro xs objs K hk;unfold Aq at hk;split at hk
 ·exact⟨_,_,hk.2,OO _ _ _ _ hk.1.get⟩
 ·exact hk.elim
theorem JY {l:List Int} {k i:Nat} (hk:k<i) (hi:i≤l.length):l.getD k 0∈l.take i:=by
 rw[dA];exact⟨k,by rw[ag6];omega,by simp[agt,List.getElem?_take,hk]⟩
theorem aaA {c:Int} {ls:List (List Int)} {sum:Int} {gv:List Int}:ru c ls sum gv=if fu c ls≠0 then fu c ls else if sum< -999999999∨999999999<sum then 3 else if(gv.length:Int)≠c then 2 else 0:=by
 unfold ru;simp only[aL]
 (repeat' split)<;>simp_all
def qA (p:List Int) (i:Nat):Int:=if p.getD i 0<0∨p.length≤p.getD i 0∨p.getD i 0∈p.take i then 14 else 0
def j5 (e1:Int) (p:List Int):Int:=if 256<p.length then e1 else dD (qA p) p.length
def jP (p:List Int) (i:Nat):List Bool:=(agr p.length).map fun x:Nat=>decide ((x:Int)∈p.take i)
theorem Dr (p:List Int) (i:Nat):(jP p i).length=p.length:=by simp[jP]
theorem Hl (p:List Int) (i:Nat) (x:Int) (h:0≤x∧x<p.length):(jP p i).getD x.toNat false=decide (x∈p.take i):=by
 have:x.toNat<p.length:=by omega
 simp[jP,agt,this,show max x 0=x by omega]
theorem Ar (p:List Int):agD p.length false=jP p 0:=by
 refine aja (by simp[jP]) fun j h1 h2=>by simp[jP]
theorem Au (p:List Int) (i:Nat) (hi:i<p.length) (h:0≤p.getD i 0∧p.getD i 0<p.length):(jP p i).set (p.getD i 0).toNat true=jP p (i+1):=by
 refine aja (by simp[jP]) fun j h1 h2=>?_
 rw[ajb];have hj:j<p.length:=by simpa [jP]using h1
 simp only[jP,ajc,ajd,uH p _ i hi];by_cases e:(p.getD i 0).toNat=j
 ·rw[if_pos e];exact(decide_eq_true (.inr (by omega))).symm
 ·rw[if_neg e]
  have:¬((j:Int)=p.getD i 0):=by omega
  simp only[this,or_false]
theorem RQ (p:List Int) (hp:p.length≤5000):aF Tryz.prog 123 [.isl (.ints .i64 p) .none] (.int .i64 (j5 5 p)):=by
 unfold j5;refine av (md:=1) (rf:=[]) mixed aj aC Tryz.func123 (by rfl) (by rfl) (by rfl) ?_
 repeat'((conv=>whnf);first|(intro hq;(try simp only[vw]at hq);try first|exact absurd hq (by decide)|exfalso;omega)|apply aI|with_reducible exact vM rfl|exact⟨⟩|apply nM|apply fM)
 all_goals((try apply vM);(try simp only[vq]at*);try omega)
 ·rw[if_pos (by omega)];exact Sup.of rfl
 ·exact .inl trivial
 rw[if_neg (by omega)]
 conv=>whnf
 refine aJ (X:=Nat) (fun i=>i≤p.length∧∀j,j<i→qA p j=0) (fun i=>[(14,.int .i64 i)]) (fun i=>[(0,.cells (.bools (jP p i)) false)]) (fun i=>p.length-i) 0 ⟨aG,mixed,aj,aC,aM⟩ (by rfl) ⟨by omega,fun j hj=>by omega⟩ ?_ ?_
 ·repeat'((conv=>whnf);first|intro _|apply aI|with_reducible exact vM rfl|exact⟨⟩|apply nM|apply fM)
  all_goals((try apply vM);(try simp only[vq]at*);try omega)
  all_goals exact Ar p
 intro i ⟨hi,hok⟩;have hsl:=Dr p i;by_cases hlt:i<p.length
 ·have eS:qA p i=if p.getD i 0<0∨p.length≤p.getD i 0∨p.getD i 0∈p.take i then 14 else 0:=rfl
  have eA:=Hl p i (p.getD i 0);have fin:∀e,qA p i=e→e≠0→dD (qA p) p.length=e:=fun e a1 a2=>(fB hlt (by rw[a1];exact a2) hok).trans a1
  repeat'((conv=>whnf);first|(intro hq;(try simp only[vw]at hq);try first|exact absurd hq (by decide)|exfalso;omega)|apply aI|with_reducible exact vM rfl|exact⟨⟩|apply nM|apply fM)
  all_goals((try apply vM);(try simp only[vq]at*);try omega)
  all_goals(try(rw[hsl];omega))
  ·rw[eA (by omega),decide_eq_true_eq]at hq
   refine Sup.of (congrArg (PV.int .i64) (fin _ ?_ (by omega)).symm)
   rw[eS,if_pos (.inr (.inr hq))]
  ·rw[eA (by omega),decide_eq_false_iff_not]at hq
   refine⟨i+1,[],⟨⟨by omega,fun j hj=>?_⟩,by omega⟩,?_⟩
   ·by_cases e:j=i
    ·subst e;rw[eS,if_neg (by rintro(h|h|h);omega;omega;exact hq h)]
    ·exact hok j (by omega)
   repeat'((conv=>whnf);first|intro _|apply aI|with_reducible exact vM rfl|exact⟨⟩|apply nM|apply fM)
   all_goals((try apply vM);(try simp only[vq]at*);try omega)
   all_goals exact Au p i hlt (by omega)
  ·refine Sup.of (congrArg (PV.int .i64) (fin _ ?_ (by omega)).symm)
   rw[eS,if_pos (.inr (.inl hq))]
  ·refine Sup.of (congrArg (PV.int .i64) (fin _ ?_ (by omega)).symm)
   rw[eS,if_pos (.inl hq)]
 ·have:p.length=i:=by omega
  rw[fU (n:=p.length) (by rw[this];exact hok)]
  repeat'((conv=>whnf);first|(intro hq;(try simp only[vw]at hq);try first|exact absurd hq (by decide)|exfalso;omega)|apply aI|with_reducible exact vM rfl|exact⟨⟩|apply nM|apply fM)
  all_goals((try apply vM);(try simp only[vq]at*);try omega)
  exact Sup.of rfl
theorem OP (p:List Int) (hp:p.length≤5000):aF Tryz.prog 56 [.isl (.ints .i64 p) .none] (.int .i64 (j5 5 p)):=by
 unfold j5;refine av (md:=1) (rf:=[]) mixed aj aC Tryz.func56 (by rfl) (by rfl) (by rfl) ?_
 repeat'((conv=>whnf);first|(intro hq;(try simp only[vw]at hq);try first|exact absurd hq (by decide)|exfalso;omega)|apply aI|with_reducible exact vM rfl|exact⟨⟩|apply nM|apply fM)
 all_goals((try apply vM);(try simp only[vq]at*);try omega)
 ·rw[if_pos (by omega)];exact Sup.of rfl
 ·exact .inl trivial
 rw[if_neg (by omega)]
 conv=>whnf
 refine aJ (X:=Nat) (fun i=>i≤p.length∧∀j,j<i→qA p j=0) (fun i=>[(4,.int .i64 i)]) (fun i=>[(0,.cells (.bools (jP p i)) false)]) (fun i=>p.length-i) 0 ⟨aG,mixed,aj,aC,aM⟩ (by rfl) ⟨by omega,fun j hj=>by omega⟩ ?_ ?_
 ·repeat'((conv=>whnf);first|intro _|apply aI|with_reducible exact vM rfl|exact⟨⟩|apply nM|apply fM)
  all_goals((try apply vM);(try simp only[vq]at*);try omega)
  all_goals exact Ar p
 intro i ⟨hi,hok⟩;have hsl:=Dr p i;by_cases hlt:i<p.length
 ·have eS:qA p i=if p.getD i 0<0∨p.length≤p.getD i 0∨p.getD i 0∈p.take i then 14 else 0:=rfl
  have eA:=Hl p i (p.getD i 0);have fin:∀e,qA p i=e→e≠0→dD (qA p) p.length=e:=fun e a1 a2=>(fB hlt (by rw[a1];exact a2) hok).trans a1
  repeat'((conv=>whnf);first|(intro hq;(try simp only[vw]at hq);try first|exact absurd hq (by decide)|exfalso;omega)|apply aI|with_reducible exact vM rfl|exact⟨⟩|apply nM|apply fM)
  all_goals((try apply vM);(try simp only[vq]at*);try omega)
  all_goals(try(rw[hsl];omega))
  ·rw[eA (by omega),decide_eq_true_eq]at hq
   refine Sup.of (congrArg (PV.int .i64) (fin _ ?_ (by omega)).symm)
   rw[eS,if_pos (.inr (.inr hq))]
  ·rw[eA (by omega),decide_eq_false_iff_not]at hq
   refine⟨i+1,[],⟨⟨by omega,fun j hj=>?_⟩,by omega⟩,?_⟩
   ·by_cases e:j=i
    ·subst e;rw[eS,if_neg (by rintro(h|h|h);omega;omega;exact hq h)]
    ·exact hok j (by omega)
   repeat'((conv=>whnf);first|intro _|apply aI|with_reducible exact vM rfl|exact⟨⟩|apply nM|apply fM)
   all_goals((try apply vM);(try simp only[vq]at*);try omega)
   all_goals exact Au p i hlt (by omega)
  ·refine Sup.of (congrArg (PV.int .i64) (fin _ ?_ (by omega)).symm)
   rw[eS,if_pos (.inr (.inl hq))]
  ·refine Sup.of (congrArg (PV.int .i64) (fin _ ?_ (by omega)).symm)
   rw[eS,if_pos (.inl hq)]
 ·have:p.length=i:=by omega
  rw[fU (n:=p.length) (by rw[this];exact hok)]
  repeat'((conv=>whnf);first|(intro hq;(try simp only[vw]at hq);try first|exact absurd hq (by decide)|exfalso;omega)|apply aI|with_reducible exact vM rfl|exact⟨⟩|apply nM|apply fM)
  all_goals((try apply vM);(try simp only[vq]at*);try omega)
  exact Sup.of rfl
def OQ:PSp:=fun xs K=>match xs with
 | [.isl (.ints .i64 p) .none]=>VC (p.length≤5000)∧K (.int .i64 (j5 5 p))
 |_=>False
theorem aaB:POK Tryz.prog 123 OQ:=by
 intro xs K h;unfold OQ at h;split at h
 ·exact⟨_,h.2,RQ _ h.1.get⟩
 ·exact h.elim
def Ho:PSp:=fun xs K=>match xs with
 | [.isl (.ints .i64 p) .none]=>VC (p.length≤5000)∧K (.int .i64 (j5 5 p))
 |_=>False
theorem Va:POK Tryz.prog 56 Ho:=by
 intro xs K h;unfold Ho at h;split at h
 ·exact⟨_,h.2,OP _ h.1.get⟩
 ·exact h.elim
theorem gQ {l:List Int} {i:Nat} (h:i<l.length):l.getD i 0=l[i]:=by rw[agt,agy h];rfl
theorem xQ {l:List Int} (h:∀k,0<k→k<l.length→l.getD (k-1) 0<l.getD k 0):l.Pairwise (·< ·):=by
 have key:∀d i,i+d+1<l.length→l.getD i 0<l.getD (i+d+1) 0:=by
  intro d;induction d with
  |zero=>intro i hi;have:=h (i+1) (by omega) hi;simpa using this
  |succ d ih=>
   intro i hi;have h1:=ih i (by omega)
   have h2:=h (i+(d+1)+1) (by omega) hi
   rw[show i+(d+1)+1-1=i+d+1 by omega]at h2
   omega
 rw[ajr];intro i j hi hj hij;have:=key (j-i-1) i (by omega)
 rw[show i+(j-i-1)+1=j by omega,gQ hi,gQ hj]at this
 exact this
theorem Hq {l:List Int} {c:Int} (hp:l.Pairwise (·< ·)) (hr:∀x∈l,0≤x∧x<c) (hc:0≤c):(l.length:Int)≤c:=by
 have:=Gy l (-1) (c-1) hp (fun x hx=>by have:=hr x hx;omega) (by omega)
 omega
theorem cZ.of {c:Int} {ls:List (List Int)} {sum:Int} {gv:List Int} (h:pzE c ls sum gv=0):cZ c ls sum gv:=by
 unfold pzE at h;have h0:ru c ls sum gv=0:=by
  by_cases e:ru c ls sum gv=0
  ·exact e
  ·rw[if_pos e]at h;exact h
 rw[if_neg (by rw[h0];simp)]at h
 have hg:=iy h;rw[aaA]at h0;have hb:fu c ls=0:=by
  by_cases e:fu c ls=0
  ·exact e
  ·rw[if_pos e]at h0;exact h0
 rw[if_neg (by rw[hb];simp)]at h0
 have hs:¬(sum< -999999999∨999999999<sum):=fun e=>by rw[if_pos e]at h0;cases h0
 rw[if_neg hs]at h0;have hl:(gv.length:Int)=c:=by
  by_cases e:(gv.length:Int)=c
  ·exact e
  ·rw[if_pos e]at h0;cases h0
 unfold fu at hb;simp only[aL]at hb;have hsy:jl c ls=0:=by
  by_cases e:jl c ls=0
  ·exact e
  ·rw[if_neg e]at hb;exact absurd hb e
 rw[if_pos hsy]at hb;have hc16:¬16<c:=fun e=>by rw[if_pos e]at hb;simp at hb
 rw[if_neg hc16,if_pos rfl]at hb;have hls:ls.length≠0:=fun e=>by rw[if_pos e]at hb;simp at hb
 unfold jl at hsy;have hcr:¬(c<1∨256<c):=fun e=>by rw[if_pos e]at hsy;cases hsy
 rw[if_neg hcr]at hsy;have hln:¬128<ls.length:=fun e=>by rw[if_pos e]at hsy;cases hsy
 rw[if_neg hln]at hsy;have hlE:=iy hsy;refine⟨by omega,by omega,fun i hi=>?_,by omega,hl,fun x hx=>?_,fun i j hij hj hpos e=>?_⟩
 ·have hL:=hlE i hi
  unfold jk at hL;have hne:¬(ls.getD i []).length=0:=fun e=>by rw[if_pos e]at hL;cases hL
  rw[if_neg hne]at hL;have hst:dD (bZ c (ls.getD i [])) (ls.getD i []).length=0:=by
   by_cases e:dD (bZ c (ls.getD i [])) (ls.getD i []).length=0
   ·exact e
   ·rw[if_pos e]at hL;exact hL
  have hst:=iy hst;have hk:∀k,k<(ls.getD i []).length→(0≤(ls.getD i []).getD k 0∧(ls.getD i []).getD k 0<c)∧(0<k→(ls.getD i []).getD (k-1) 0<(ls.getD i []).getD k 0):=fun k hk=>by
   have:=hst k hk;unfold bZ at this;have h1:¬((ls.getD i []).getD k 0<0∨c≤(ls.getD i []).getD k 0):=fun e=>by rw[if_pos e]at this;cases this
   rw[if_neg h1]at this;refine⟨by omega,fun h0=>?_⟩
   have h2:¬(0<k∧(ls.getD i []).getD k 0≤(ls.getD i []).getD (k-1) 0):=fun e=>by rw[if_pos e]at this;cases this
   omega
  have hr:∀x∈ls.getD i [],0≤x∧x<c:=fun x hx=>by
   obtain⟨k,h1,rfl⟩:=(dA _ x).1 hx;exact(hk k h1).1
  have hp:=xQ fun k h0 h1=>(hk k h1).2 h0;have:=Hq hp hr (by omega)
  exact⟨by omega,by omega,hr,hp⟩
 ·obtain⟨i,h1,rfl⟩:=(dA _ x).1 hx
  have:=hg i h1;unfold gvE at this;have h2:¬(gv.getD i 0<0∨c<gv.getD i 0):=fun e=>by rw[if_pos e]at this;cases this
  omega
 ·have:=hg j hj
  unfold gvE at this;have h2:¬(gv.getD j 0<0∨c<gv.getD j 0):=fun e=>by rw[if_pos e]at this;cases this
  rw[if_neg h2,if_pos ⟨hpos,by rw[←e];exact JY hij (by omega)⟩]at this
  cases this
def StI (s:St):Prop:=∀i j,i<s.cs.length→j<s.cs.length→i≠j→s.dc i=true→hd0 (s.cd i)∉s.cd j
theorem lF {l:List Int} {x y:Int}:y∈dw l x↔y∈l∧y≠x:=by unfold dw;rw[aiw];simp
theorem Dt {l:List Int} {x:Int} (h:x∉l):dw l x=l:=by
 unfold dw;rw[ajq];intro y hy;have:y≠x:=fun e=>h (e▸hy);simp[this]
theorem xw {g:Nat} {s:St} {y x:Int}:(apl g s y x).cs.length=s.cs.length∧(apl g s y x).ds.length=s.ds.length:=by
 unfold apl;split<;>simp
theorem RS {g:Nat} {s:St} {y x:Int} (hy:y.toNat<s.ds.length) (i:Nat):(apl g s y x).dc i=if g≤3∧i=y.toNat then true else s.dc i:=by
 unfold apl St.dc;by_cases hg:g≤3
 ·rw[if_pos hg]
  by_cases e:i=y.toNat
  ·subst e;simp[hg,agt,hy]
  ·rw[if_neg (fun h=>e h.2)]
   simp[agt,agU (Ne.symm e)]
 ·rw[if_neg hg,if_neg (fun h=>hg h.1)]
theorem RU {g:Nat} {s:St} {y x:Int} (hy:y.toNat<s.cs.length) (i:Nat) (hi:i<s.cs.length):(apl g s y x).cd i=if g≤3 then(if i=y.toNat then [x]else dw (s.cd i) x)else if i=y.toNat then dw (s.cd i) x else s.cd i:=by
 unfold apl St.cd;by_cases hg:g≤3
 ·rw[if_pos hg,if_pos hg]
  by_cases e:i=y.toNat
  ·subst e;simp[agt,hy]
  ·rw[if_neg e]
   simp[agt,agU (Ne.symm e),ajs (Ne.symm e),hi]
 ·rw[if_neg hg,if_neg hg]
  by_cases e:i=y.toNat
  ·subst e;simp[agt,hy]
  ·rw[if_neg e]
   simp[agt,agU (Ne.symm e),ajs (Ne.symm e),hi]
theorem vZ {c:Int} {ls:List (List Int)} {sum:Int} {s:St} (h:bB c ls sum s) (hI:StI s) {g:Nat} {y x:Int} (hy:0≤y∧y<c) (hx:1≤x∧x≤c) (hd:s.dc y.toNat=false) (hm:x∈s.cd y.toNat):
 bB c ls sum (apl g s y x)∧StI (apl g s y x):=by
 have hc:=h.c1;obtain⟨hyc,hyd⟩:=h.at hy;have hln:=xw (g:=g) (s:=s) (y:=y) (x:=x);have cdi:=fun i hi=>RU (g:=g) (x:=x) hyc i hi;have dci:=fun i=>RS (g:=g) (s:=s) (x:=x) hyd i;have hnot:∀i,i<s.cs.length→s.dc i=true→x∉s.cd i:=fun i hi hdi hxi=>by
  have h1:=h.dec i hi hdi;obtain⟨z,hz⟩:=List.length_eq_one_iff.1 h1;rw[hz,ai0]at hxi;have hne:i≠y.toNat:=fun e=>by rw[e,hd]at hdi;cases hdi
  have:=hI i y.toNat hi hyc hne hdi;rw[hz]at this;exact this (by rw[hxi]at hm;exact hm)
 refine⟨⟨hc,h.ll,h.ln,h.sm,by rw[hln.1];exact h.cl,by rw[hln.2];exact h.dl,fun i hi=>?_,fun i hi hdi=>?_⟩,fun i j hi hj hij hdi=>?_⟩
 ·rw[hln.1]at hi
  rw[cdi i hi];have hA:=h.asc i hi;split
  ·split
   ·exact⟨.one (by omega),fun z hz=>by rw[ai0.1 hz];omega⟩
   ·exact⟨hA.1.out x,fun z hz=>hA.2 z (lF.1 hz).1⟩
  ·split
   ·exact⟨hA.1.out x,fun z hz=>hA.2 z (lF.1 hz).1⟩
   ·exact hA
 ·rw[hln.1]at hi
  rw[dci i]at hdi;rw[cdi i hi];split
  ·rename_i hg
   split
   ·rfl
   ·rename_i hne
    rw[if_neg (fun e=>hne e.2)]at hdi;rw[Dt (hnot i hi hdi)];exact h.dec i hi hdi
  ·rename_i hg
   rw[if_neg (fun e=>hg e.1)]at hdi;split
   ·rename_i e
    rw[e,hd]at hdi;cases hdi
   ·exact h.dec i hi hdi
 ·rw[hln.1]at hi hj
  rw[dci i]at hdi;rw[cdi i hi,cdi j hj];by_cases hg:g≤3
  ·rw[if_pos hg,if_pos hg]
   by_cases ei:i=y.toNat
   ·rw[if_pos ei,if_neg (fun e=>hij (ei.trans e.symm))]
    exact fun hz=>(lF.1 hz).2 rfl
   ·rw[if_neg (fun e=>ei e.2)]at hdi
    rw[if_neg ei,Dt (hnot i hi hdi)];have h1:=hI i j hi hj hij hdi;by_cases ej:j=y.toNat
    ·rw[if_pos ej,ai0]
     have h2:=h.dec i hi hdi;have h3:=o7 (l:=s.cd i) (by omega)
     exact fun e=>hnot i hi hdi (e▸h3)
    ·rw[if_neg ej]
     exact fun hz=>h1 (lF.1 hz).1
  ·rw[if_neg hg,if_neg hg]
   rw[if_neg (fun e=>hg e.1)]at hdi;have ei:i≠y.toNat:=fun e=>by rw[e,hd]at hdi;cases hdi
   rw[if_neg ei];have h1:=hI i j hi hj hij hdi;split
   ·exact fun hz=>h1 (lF.1 hz).1
   ·exact h1
theorem Hr {c:Int} {gv:List Int} {i:Nat} (hi:i<gv.length):(bgn c gv).cd i=if 0<gv.getD i 0 then [gv.getD i 0]else frL c gv:=by
 simp[bgn,jJ,St.cd,agt,hi]
theorem adz {c:Int} {gv:List Int} {i:Nat} (hi:i<gv.length):(bgn c gv).dc i=decide (0<gv.getD i 0):=by
 simp[bgn,jq,St.dc,agt,hi]
theorem jG {c:Int} {gv:List Int}:(bgn c gv).cs.length=gv.length∧(bgn c gv).ds.length=gv.length:=by simp[bgn,jJ,jq]
theorem BR {c:Int} {ls:List (List Int)} {sum:Int} {gv:List Int} (h:cZ c ls sum gv):StI (bgn c gv):=by
 have hc:=h.c1;intro i j hi hj hij hd;rw[jG.1]at hi hj;rw[adz hi,decide_eq_true_eq]at hd;rw[Hr hi,if_pos hd,Hr hj];have e:hd0 [gv.getD i 0]=gv.getD i 0:=rfl;rw[e];split
 ·rename_i hp
  rw[ai0];intro he;rcases Nat.lt_or_ge i j with h1|h1
  ·exact h.gd i j h1 hj hp he
  ·exact h.gd j i (by omega) hi hd he.symm
 ·intro hm
  exact((xu (by omega)).1 hm).2 (bK hi)
def wm:List Bool→Nat
 | []=>0
 |b::r=>(if b then 0 else 1)+wm r
def kP:List (List Int)→Nat
 | []=>0
 |l::r=>l.length+kP r
def muS (s:St):Nat:=kP s.cs+wm s.ds
theorem Vb:∀(l:List Bool) (i:Nat),i<l.length→l.getD i false=false→wm (l.set i true)+1=wm l:=by
 intro l;induction l with
 |nil=>intro i hi;simp at hi
 |cons b r ih=>
  intro i hi hb;cases i with
  |zero=>simp at hb;subst hb;simp[wm];omega
  |succ i=>
   have:=ih i (by simpa using hi) (by simpa using hb)
   simp only[ajt,wm];omega
theorem Ht:∀(l:List (List Int)) (i:Nat) (x:List Int),i<l.length→kP (l.set i x)+(l.getD i []).length=kP l+x.length:=by
 intro l;induction l with
 |nil=>intro i x hi;simp at hi
 |cons b r ih=>
  intro i x hi;cases i with
  |zero=>simp[kP];omega
  |succ i=>
   have:=ih i x (by simpa using hi)
   simp only[ajt,kP,List.getD_cons_succ];omega
theorem Hu (l:List Int) (x:Int):(dw l x).length≤l.length:=ai1 _ _
theorem Ll {l:List Int} {x:Int} (h:x∈l):(dw l x).length<l.length:=by
 unfold dw;rw[List.length_filter_lt_length_iff_exists];exact⟨x,h,by simp⟩
theorem Vd (f:List Int→List Int) (hf:∀l,(f l).length≤l.length):∀l,kP (l.map f)≤kP l:=by
 intro l;induction l with
 |nil=>exact agh _
 |cons a r ih=>simp only[aie,kP];have:=hf a;omega
theorem RV {g:Nat} {s:St} {y x:Int} (hy:y.toNat<s.cs.length) (hyd:y.toNat<s.ds.length) (hd:s.dc y.toNat=false) (hm:x∈s.cd y.toNat):muS (apl g s y x)<muS s:=by
 unfold muS apl;split
 ·have h1:=Vb s.ds y.toNat hyd hd
  have h2:=Ht (s.cs.map fun l=>dw l x) y.toNat [x] (by simpa using hy)
  have h3:((s.cs.map fun l=>dw l x).getD y.toNat [])=dw (s.cd y.toNat) x:=by unfold St.cd;simp[agt,hy]
  have h4:kP (s.cs.map fun l=>dw l x)+1≤kP s.cs:=by
   have key:∀(l:List (List Int)) (i:Nat),i<l.length→x∈l.getD i []→kP (l.map fun l=>dw l x)+1≤kP l:=by
    intro l;induction l with
    |nil=>intro i hi;simp at hi
    |cons a r ih=>
     intro i hi hx;simp only[aie,kP];cases i with
     |zero=>
      have q1:=Ll (l:=a) (x:=x) (by simpa using hx)
      have q2:=Vd (fun l=>dw l x) (fun l=>Hu l x) r;omega
     |succ i=>
      have q1:=Hu a x;have q2:=ih i (by simpa using hi) (by simpa using hx)
      omega
   exact key s.cs y.toNat hy hm
  simp only[List.length_singleton]at h2;simp only;omega
 ·have h2:=Ht s.cs y.toNat (dw (s.cd y.toNat) x) hy
  have h3:=Ll hm;unfold St.cd at h2 h3⊢;simp only;omega
theorem RX {c:Int} {ls:List (List Int)} {sum:Int} {s:St} (h:bB c ls sum s):muS s≤272:=by
 have hc:=h.c1;have hcl:=h.cl;have hdl:=h.dl;have h1:∀(l:List (List Int)),(∀a∈l,a.length≤16)→kP l≤16*l.length:=by
  intro l;induction l with
  |nil=>intro _;exact agh _
  |cons a r ih=>
   intro hl;have:=hl a (by simp)
   have:=ih fun b hb=>hl b (by simp[hb])
   simp only[kP,agb];omega
 have h2:∀(l:List Bool),wm l≤l.length:=by
  intro l;induction l with
  |nil=>exact agh _
  |cons a r ih=>simp only[wm,agb];split<;>omega
 have h3:=h1 s.cs fun a ha=>by
  obtain⟨j,hj,rfl⟩:=agx ha;have:=lM (h.asc j hj).1;unfold St.cd at this;rw[agt,agy hj]at this;exact this
 have h4:=h2 s.ds;unfold muS;omega
def mh (c:Int) (ls:List (List Int)) (sum:Int) (n:Nat):Nat→St→List Dd→List Dd × St × Int
 |0,s,l=>(l,s,0)
 |f+1,s,l=>if brk c ls sum s then([],s,21)else if don s then(l,s,0)else match gH s sum ls n with
  |none=>(l,s,23)
  |some d=>mh c ls sum n f (apl d.g s d.y d.x) (l++[d])
def sol (c:Int) (ls:List (List Int)) (sum:Int) (gv:List Int) (n:Nat):List Dd × St × Int:=mh c ls sum n 273 (bgn c gv) []
theorem Hw {c:Int} {ls:List (List Int)} {sum:Int} {s:St} (h:bB c ls sum s) {n:Nat} (hn:n≤5) {d:Dd} (hf:gH s sum ls n=some d):
 lD c ls (nmG d.g) d.y d.x d.k∧aQ (nmG d.g)=d.g∧s.dc d.y.toNat=false∧d.x∈s.cd d.y.toNat:=by
 obtain⟨g,g1,g2,hm⟩:=Hf hf;rw[He]at hm;obtain⟨h1,h2,h3,h4⟩:=hm;have hcl:=h.cl;have hg:aQ (nmG d.g)=d.g:=by
  rw[h1];have:=jO;obtain rfl|rfl|rfl|rfl|rfl:g=1∨g=2∨g=3∨g=4∨g=5:=by omega
  all_goals first|exact this.1|exact this.2.1|exact this.2.2.1|exact this.2.2.2.1|exact this.2.2.2.2
 unfold okJ at h4;simp only[agE,ajn,decide_eq_true_eq]at h4;have hA:=h.asc d.y.toNat (by omega)
 refine⟨⟨by rw[hg];omega,by omega,?_,?_⟩,hg,h4.1,h4.2.1⟩
 ·have:=hA.1.rng _ h4.2.1;have:=hA.2 _ h4.2.1;omega
 ·rw[hg,h1]
  cases hl:lnG g with
  |true=>rw[hl]at h3;exact .inr (.inr h3.1)
  |false=>
   obtain rfl|rfl|rfl|rfl|rfl:g=1∨g=2∨g=3∨g=4∨g=5:=by omega
   all_goals first|(cases hl;done)|exact .inl rfl|exact .inr (.inl rfl)
def Hy:LSp:=fun xs objs K=>match xs,objs with
 | [.rp 0 0,.agg [.str r,.int .i64 y,.int .i64 x,.int .i64 k]],[.cells (.pv [.int .i64 c,.isl (.rows .i64 ls) .none,.int .i64 sum,.isl (.ints .i64 gv) .none,.rsl 1 0 n,.rsl 2 0 m]) false,.cells (.ints .u32 M) false,.cells (.bools D) false]=>
  ∃s:St,VC (M=ms s.cs∧D=s.ds∧bB c ls sum s∧n=s.cs.length∧m=n∧lD c ls r y x k)∧K [] (bdO c ls sum gv (apl (aQ r).toNat s y x) n)
 |_,_=>False
theorem Ve:LOK Tryz.prog 128 Hy:=by
 intro xs objs K hk;unfold Hy at hk;split at hk
 ·obtain⟨s,⟨rfl,rfl,h,h1,rfl,h2⟩,hk⟩:=hk
  exact⟨_,_,hk,OH _ _ _ _ s _ h h1 _ _ _ _ h2⟩
 ·exact hk.elim
abbrev ddC (d:Dd):List PV:=[.str (nmG d.g),.int .i64 d.y,.int .i64 d.x,.int .i64 d.k]
def dd0:Dd:=⟨0,0,0,0⟩
abbrev dlC (l:List Dd):CL:=.genr 4 l.length fun i=>ddC (l.getD i dd0)
theorem qB (l:List Dd) (t:Tok):Sup (.isl (.recs 4 (l.map ddC)) t) (.isl (dlC l) .none):=⟨fun{S w ι v} hr=>by
 have hn:(CL.recs 4 (l.map ddC)).ncell=(dlC l).ncell:=by simp[CL.ncell]
 have hc:(CL.recs 4 (l.map ddC)).cnt=(dlC l).cnt:=by simp[CL.cnt]
 have hg:∀j,j<(dlC l).ncell→(CL.recs 4 (l.map ddC)).get j=(dlC l).get j:=fun j hj=>by
  simp only[CL.ncell]at hj;have:j / 4<l.length:=by omega
  simp only[CL.get];rw[agt,ahe,agt,agy this];rfl
 cases hr with
 |islnil _ _ _ h=>exact .islnil _ _ _ (by rw[←hc];exact h)
 |isl _ _ _ b off cap h1 h2 h3 h4 h5=>
  rw[hc];exact .isl _ _ _ _ _ _ (by rw[←hc];exact h1) (fun j hj=>h2 j (by rw[hn];exact hj)) (fun j hj=>by rw[←hg j hj];exact h3 j (by rw[hn];exact hj)) (fun h=>by cases h) (fun k h=>by cases h)⟩
theorem xA {us ws:List PV} (hl:us.length=ws.length) (h:∀i,i<us.length→Sup (aD us i) (aD ws i)):Sup (.tup us) (.tup ws):=⟨fun hr=>by
 cases hr with
 |tup _ _ vs hv hh=>exact .tup _ _ _ (hl.symm.trans hv) fun i hi=>(h i (by omega)).get (hh i (by omega))⟩
theorem bO (p:PV):Sup p p:=⟨fun h=>h⟩
def uh (c:Int) (ls:List (List Int)) (sum:Int) (gv:List Int) (r:List Dd × St × Int):PV:=
 if r.2.2=21 then .tup [.isl (dlC []) .none,.nilp,.int .i64 21]else .tup [.isl (dlC r.1) .none,bdV c ls sum gv r.2.1,.int .i64 r.2.2]
noncomputable def afy:CPT:=aA 86 (eG [] Aq) (aA 90 (jV (qO brk)) (aA 91 (jV (qO fun _ _ _ s=>don s)) (aA 92 (jV xq) (aA 128 (eG [] Hy) noC))))
theorem Lm:aV Tryz.prog afy:=ak (dF [] Hg) (ak (gW Dn) (ak (gW Lb) (ak (gW Dq) (ak (dF [] Ve) aC))))
structure SoX where
 f:Nat
 s:St
 l:List Dd
theorem OT (c:Int) (ls:List (List Int)) (sum:Int) (gv:List Int) (h:cZ c ls sum gv) (n:Nat) (hn:n≤5):aF Tryz.prog 99 [pzV c ls sum gv,.int .i64 (n:Int)] (uh c ls sum gv (sol c ls sum gv n)):=by
 have hgl:=h.gl;refine bR (md:=1) (rf:=[]) mixed aj Lm Tryz.func99 (by rfl) (by rfl) (by rfl) ?_
 repeat'((conv=>whnf);first|intro _|apply aI|with_reducible exact vM rfl|exact⟨⟩|apply nM|apply fM)
 all_goals((try apply vM);(try simp only[vq]at*);try omega)
 conv=>whnf
 refine aJ (X:=SoX) (fun x=>bB c ls sum x.s∧StI x.s∧muS x.s<x.f∧x.s.cs.length=gv.length∧x.l.length≤273-x.f∧x.f≤273∧mh c ls sum n x.f x.s x.l=sol c ls sum gv n)
  (fun x=>[(8,.isl (.recs 4 (x.l.map ddC)) (.own 20))]) (fun x=>[(2,.cells (.ints .u32 (ms x.s.cs)) false),(3,.cells (.bools x.s.ds) false),(20,.tok 4 x.l.length)]) (fun x=>x.f) ⟨273,bgn c gv,[]⟩ ⟨aG,mixed,aj,Lm,aM⟩ (by rfl) ?_ ?_ ?_
 ·have:=rR h
  exact⟨this,BR h,by have:=RX this;show muS (bgn c gv)<273;omega,jG.1,by simp,by simp,rfl⟩
 ·repeat'((conv=>whnf);first|intro _|apply aI|with_reducible exact vM rfl|exact⟨⟩|apply nM|apply fM)
  all_goals((try apply vM);(try simp only[vq]at*);try omega)
  all_goals skip
 rintro⟨f,s,l⟩ ⟨hB,hI,hmu,hlen,hl,hf,hsol⟩
 simp only at hB hI hmu hlen hl hf hsol⊢;cases f with
 |zero=>omega
 |succ f=>
  have hfin:∀r,sol c ls sum gv n=r→∀p,Sup p (uh c ls sum gv r)→Sup p (uh c ls sum gv (sol c ls sum gv n)):=fun r hr p hp=>by rw[hr];exact hp
  have t1:aiW (gv.length-0) (aiX 0 (ms s.cs))=ms s.cs:=bP (by rw[dR];exact hlen)
  have hdl:s.ds.length=gv.length:=by have:=hB.cl;have:=hB.dl;omega
  have t2:aiW (gv.length-0) (aiX 0 s.ds)=s.ds:=bP hdl;have hml:=dR s.cs;have s1:(CL.ints .u32 (ms s.cs)).sub 0 gv.length=.ints .u32 (ms s.cs):=congrArg (CL.ints .u32) t1;have s2:(CL.bools s.ds).sub 0 gv.length=.bools s.ds:=congrArg CL.bools t2;have rok:∀e,e≠21→Sup (bG ([PV.isl (CL.recs 4 (List.map ddC l)) Tok.none]++PV.ip (CL.pv [PV.int IntKind.i64 c,PV.isl (CL.rows IntKind.i64 ls) Tok.none,PV.int IntKind.i64 sum,PV.isl (CL.ints IntKind.i64 gv) Tok.none,PV.isl ((CL.ints IntKind.u32 (ms s.cs)).sub 0 gv.length) Tok.none,PV.isl ((CL.bools s.ds).sub 0 gv.length) Tok.none]) 0::([PV.int IntKind.i64 e]++[]))) (uh c ls sum gv (l,s,e)):=fun e he=>by
   rw[s1,s2];unfold uh;rw[if_neg he];refine xA rfl fun i hi=>?_;obtain rfl|rfl|rfl:i=0∨i=1∨i=2:=by simp at hi;omega
   ·exact qB l .none
   ·exact bO _
   ·exact bO _
  have rin:Sup (bG ([PV.nils]++([PV.nilp]++([PV.int IntKind.i64 21]++[])))) (uh c ls sum gv ([],s,21)):=by
   unfold uh;rw[if_pos rfl];all_goals(refine Sup.via ?_;repeat'((conv=>whnf);first|intro _|apply aI|with_reducible exact vM rfl|exact⟨⟩|apply nM|apply fM);all_goals((try apply vM);(try simp only[vq]at*);try omega);all_goals(try(simp[CL.sub];done)))
  unfold mh at hsol;cases ho:gH s sum ls n with
  |none=>
   rw[ho]at hsol
   repeat'((conv=>whnf);first|refine Exists.intro (s) ?_|refine Exists.intro (none) ?_|(intro hq;(try simp only[vw]at hq);try first|exact absurd hq (by decide)|exfalso;omega)|apply aI|with_reducible exact vM rfl|exact⟨⟩|apply nM|apply fM)
   all_goals((try apply vM);(try simp only[vq]at*);try omega)
   all_goals(try omega)
   all_goals(try first|exact⟨t1,t2,hB⟩|exact⟨t1,t2,⟨by omega,by omega⟩,hB,ho⟩)
   ·exact hfin ([],s,21) (by rw[←hsol,if_pos ‹brk c ls sum s=true›]) _ rin
   ·exact hfin (l,s,0) (by rw[←hsol,if_neg (by rw[‹brk c ls sum s=false›];simp),if_pos ‹don s=true›]) _ (rok 0 (by omega))
   ·exact hfin (l,s,23) (by rw[←hsol,if_neg (by rw[‹brk c ls sum s=false›];simp),if_neg (by rw[‹don s=false›];simp)]) _ (rok 23 (by omega))
  |some d=>
   rw[ho]at hsol;obtain⟨o1,o2,o3,o4⟩:=Hw hB hn ho;obtain⟨b1,b2⟩:=vZ hB hI (g:=d.g) o1.y o1.x o3 o4;have hyl:=hB.at o1.y;have b3:=RV (g:=d.g) hyl.1 hyl.2 o3 o4;have b4:=xw (g:=d.g) (s:=s) (y:=d.y) (x:=d.x);have hgn:(aQ (nmG d.g)).toNat=d.g:=by rw[o2];rfl
   repeat'((conv=>whnf);first|refine Exists.intro (s) ?_|refine Exists.intro (some d) ?_|(intro hq;(try simp only[vw]at hq);try first|exact absurd hq (by decide)|exfalso;omega)|apply aI|with_reducible exact vM rfl|exact⟨⟩|apply nM|apply fM)
   all_goals((try apply vM);(try simp only[vq]at*);try omega)
   all_goals(try omega)
   all_goals(try first|exact⟨t1,t2,hB⟩|exact⟨t1,t2,⟨by omega,by omega⟩,hB,ho⟩|rfl|(rw[aif];done)|(simp only[ahx,aif,agb,af7];omega))
   ·exact hfin ([],s,21) (by rw[←hsol,if_pos ‹brk c ls sum s=true›]) _ rin
   ·exact hfin (l,s,0) (by rw[←hsol,if_neg (by rw[‹brk c ls sum s=false›];simp),if_pos ‹don s=true›]) _ (rok 0 (by omega))
   ·rw[ahx,aif];show _+1≤_;omega
   ·exact⟨hB,by omega,o1⟩
   ·refine⟨⟨f,apl d.g s d.y d.x,l++[d]⟩,[],⟨⟨b1,b2,by simp only;omega,by simp only;omega,by simp only[ahx,agb,af7];omega,by simp only;omega,?_⟩,by simp only;omega⟩,?_⟩
    ·rw[←hsol,if_neg (by rw[‹brk c ls sum s=false›];simp),if_neg (by rw[‹don s=false›];simp)]
    ·simp only
     repeat'((conv=>whnf);first|intro _|apply aI|with_reducible exact vM rfl|exact⟨⟩|apply nM|apply fM)
     all_goals((try apply vM);(try simp only[vq]at*);try omega)
     all_goals first|rw[hgn]|(rw[aik];rfl)|(rw[ahx];rfl)|rfl
theorem aaC {c:Int} {ls:List (List Int)} {sum:Int} {n:Nat} (hn:n≤5):∀(f:Nat) (s:St) (l:List Dd),bB c ls sum s→StI s→bB c ls sum (mh c ls sum n f s l).2.1∧StI (mh c ls sum n f s l).2.1:=by
 intro f;induction f with
 |zero=>exact fun s l h h2=>⟨h,h2⟩
 |succ f ih=>
  intro s l h h2;unfold mh;split
  ·exact⟨h,h2⟩
  ·split
   ·exact⟨h,h2⟩
   ·split
    ·exact⟨h,h2⟩
    ·rename_i d hd
     obtain⟨o1,o2,o3,o4⟩:=Hw h hn hd;obtain⟨b1,b2⟩:=vZ h h2 (g:=d.g) o1.y o1.x o3 o4;exact ih _ _ b1 b2
theorem adA {c:Int} {ls:List (List Int)} {sum:Int} {gv:List Int} (h:cZ c ls sum gv) {n:Nat} (hn:n≤5):bB c ls sum (sol c ls sum gv n).2.1∧StI (sol c ls sum gv n).2.1:=aaC hn _ _ _ (rR h) (BR h)
def X6 (c:Int) (ls:List (List Int)) (sum:Int) (gv:List Int) (o:Option (List Dd × St × Int)):PV:=match o with
 |none=>.tup [.isl (dlC []) .none,.nilp,.int .i64 21]
 |some r=>.tup [.isl (dlC r.1) .none,bdV c ls sum gv r.2.1,.int .i64 r.2.2]
def fO (r:List Dd × St × Int):Option (List Dd × St × Int):=if r.2.2=21 then none else some r
theorem Vf (c:Int) (ls:List (List Int)) (sum:Int) (gv:List Int) (r:List Dd × St × Int):uh c ls sum gv r=X6 c ls sum gv (fO r):=by
 unfold uh fO;split<;>rfl
def wo:PSp:=fun xs K=>match xs with
 | [.agg [.int .i64 c,.isl (.rows .i64 ls) .none,.int .i64 sum,.isl (.ints .i64 gv) .none],.int .i64 g]=>∃o:Option (List Dd × St × Int),VC (cZ c ls sum gv∧(0≤g∧g≤5)∧fO (sol c ls sum gv g.toNat)=o)∧K (X6 c ls sum gv o)
 |_=>False
theorem yR:POK Tryz.prog 99 wo:=by
 intro xs K hk;unfold wo at hk;split at hk
 ·obtain⟨o,⟨h,hg,rfl⟩,hk⟩:=hk
  rename_i g;obtain⟨n,rfl⟩:∃n:Nat,g=n:=⟨g.toNat,by omega⟩
  rw[ahl,←Vf]at hk;exact⟨_,hk,OT _ _ _ _ h n (by omega)⟩
 ·exact hk.elim
noncomputable def afz:CPT:=aA 22 (aB l9) (aA 86 (eG [] Aq) (aA 87 (Nw GU) (aA 88 (aB jE) (aA 89 (aB gX) (aA 90 (jV (qO brk)) (aA 91 (jV (qO fun _ _ _ s=>don s)) (aA 92 (jV xq) (aA 98 (aB nY) (aA 99 (aB wo) noC)))))))))
theorem fD:aV Tryz.prog afz:=ak (au lC) (ak (dF [] Hg) (ak (Ua UN) (ak (au iX) (ak (au jZ) (ak (gW Dn) (ak (gW Lb) (ak (gW Dq) (ak (au q9) (ak (au yR) aC)))))))))
def noS:St:=⟨[],[]⟩
def wu (c:Int) (ls:List (List Int)) (sum:Int) (gv:List Int):St:=if pzE c ls sum gv=0 then bgn c gv else noS
theorem OU (c:Int) (ls:List (List Int)) (sum:Int) (gv:List Int) (h:bH ls) (hg:gv.length≤5000):aF Tryz.prog 20 [pzV c ls sum gv] (.tup [stV (wu c ls sum gv),.int .i64 (pzE c ls sum gv)]):=by
 by_cases he:pzE c ls sum gv=0
 ·have hp:=cZ.of he
  have hb:=rR hp;have hl:=hp.gl;have e1:wu c ls sum gv=bgn c gv:=by unfold wu;rw[if_pos he]
  rw[e1,he];have t1:aiW (gv.length-0) (aiX 0 (ms (bgn c gv).cs))=ms (bgn c gv).cs:=bP (by rw[dR];exact jG.1)
  have t2:aiW (gv.length-0) (aiX 0 (bgn c gv).ds)=(bgn c gv).ds:=bP jG.2;have hml:=dR (bgn c gv).cs;have hbl:=jG (c:=c) (gv:=gv);refine av (md:=1) (rf:=[]) mixed aj fD Tryz.func20 (by rfl) (by rfl) (by rfl) ?_
  repeat'((conv=>whnf);first|refine Exists.intro (bgn c gv) ?_|(intro hq;(try simp only[vw]at hq);try first|exact absurd hq (by decide)|exfalso;omega)|apply aI|with_reducible exact vM rfl|exact⟨⟩|apply nM|apply fM)
  all_goals((try apply vM);(try simp only[vq]at*);try omega)
  ·exact⟨h,hg⟩
  ·exact⟨t1,t2,hb⟩
  ·exact Sup.of rfl
 ·have e1:wu c ls sum gv=noS:=by unfold wu;rw[if_neg he]
  rw[e1];refine av (md:=1) (rf:=[]) mixed aj fD Tryz.func20 (by rfl) (by rfl) (by rfl) ?_
  repeat'((conv=>whnf);first|(intro hq;(try simp only[vw]at hq);try first|exact absurd hq (by decide)|exfalso;omega)|apply aI|with_reducible exact vM rfl|exact⟨⟩|apply nM|apply fM)
  all_goals((try apply vM);(try simp only[vq]at*);try omega)
  ·exact⟨h,hg⟩
  ·unfold noS;all_goals(refine Sup.via ?_;repeat'((conv=>whnf);first|intro _|apply aI|with_reducible exact vM rfl|exact⟨⟩|apply nM|apply fM);all_goals((try apply vM);(try simp only[vq]at*);try omega);all_goals(try(simp[CL.sub];done)))
def ddO (o:Option Dd):PV:=match o with
 |some d=>BP d
 |none=>ddV ug 0 0 0
def uj (c:Int) (ls:List (List Int)) (sum:Int) (gv:List Int):Option Dd × Int:=
 if pzE c ls sum gv≠0 then(none,pzE c ls sum gv)else if brk c ls sum (bgn c gv)then(none,21)else if don (bgn c gv)then(none,29)else match gH (bgn c gv) sum ls 5 with
  |none=>(none,23)
  |some d=>(some d,0)
theorem RY (c:Int) (ls:List (List Int)) (sum:Int) (gv:List Int) (h:bH ls) (hg:gv.length≤5000):aF Tryz.prog 21 [pzV c ls sum gv] (.tup [ddO (uj c ls sum gv).1,.int .i64 (uj c ls sum gv).2]):=by
 by_cases he:pzE c ls sum gv=0
 ·have hp:=cZ.of he
  have hb:=rR hp;have hl:=hp.gl;have t1:aiW (gv.length-0) (aiX 0 (ms (bgn c gv).cs))=ms (bgn c gv).cs:=bP (by rw[dR];exact jG.1)
  have t2:aiW (gv.length-0) (aiX 0 (bgn c gv).ds)=(bgn c gv).ds:=bP jG.2;have hml:=dR (bgn c gv).cs;have hbl:=jG (c:=c) (gv:=gv);have e1:uj c ls sum gv=if brk c ls sum (bgn c gv)then(none,(21:Int))else if don (bgn c gv)then(none,(29:Int))else match gH (bgn c gv) sum ls 5 with
   |none=>(none,(23:Int))
   |some d=>(some d,(0:Int)):=by unfold uj;rw[if_neg (by rw[he];simp)]
  cases hbk:brk c ls sum (bgn c gv)with
  |true=>
   rw[hbk,if_pos rfl]at e1;rw[e1];refine av (md:=1) (rf:=[]) mixed aj fD Tryz.func21 (by rfl) (by rfl) (by rfl) ?_
   repeat'((conv=>whnf);first|refine Exists.intro (bgn c gv) ?_|(intro hq;(try simp only[vw]at hq);try first|exact absurd hq (by decide)|exfalso;omega)|apply aI|with_reducible exact vM rfl|exact⟨⟩|apply nM|apply fM)
   all_goals((try apply vM);(try simp only[vq]at*);try omega)
   all_goals first|exact⟨h,hg⟩|exact⟨t1,t2,hb⟩|(exfalso;simp[aL,hbk]at hq;done)|(exact Sup.of (by simp[bG,aL,ddO,hbk];done))|exact Sup.of rfl|skip
  |false=>
   rw[hbk,if_neg (by simp)]at e1
   cases hdn:don (bgn c gv)with
   |true=>
    rw[hdn,if_pos rfl]at e1;rw[e1];refine av (md:=1) (rf:=[]) mixed aj fD Tryz.func21 (by rfl) (by rfl) (by rfl) ?_
    repeat'((conv=>whnf);first|refine Exists.intro (bgn c gv) ?_|(intro hq;(try simp only[vw]at hq);try first|exact absurd hq (by decide)|exfalso;omega)|apply aI|with_reducible exact vM rfl|exact⟨⟩|apply nM|apply fM)
    all_goals((try apply vM);(try simp only[vq]at*);try omega)
    all_goals first|exact⟨h,hg⟩|exact⟨t1,t2,hb⟩|(exfalso;simp[aL,hbk,hdn]at hq;done)|(exact Sup.of (by simp[bG,aL,ddO,hbk,hdn];done))|exact Sup.of rfl|skip
   |false=>
    rw[hdn,if_neg (by simp)]at e1
    cases ho:gH (bgn c gv) sum ls 5 with
    |none=>
     rw[ho]at e1;rw[e1];refine av (md:=1) (rf:=[]) mixed aj fD Tryz.func21 (by rfl) (by rfl) (by rfl) ?_
     repeat'((conv=>whnf);first|refine Exists.intro (bgn c gv) ?_|refine Exists.intro (none) ?_|(intro hq;(try simp only[vw]at hq);try first|exact absurd hq (by decide)|exfalso;omega)|apply aI|with_reducible exact vM rfl|exact⟨⟩|apply nM|apply fM)
     all_goals((try apply vM);(try simp only[vq]at*);try omega)
     all_goals first|exact⟨h,hg⟩|exact⟨t1,t2,hb⟩|exact⟨t1,t2,⟨by omega,by omega⟩,hb,ho⟩|(exfalso;simp[aL,hbk,hdn]at hq;done)|(exact Sup.of (by simp[bG,aL,ddO,hbk,hdn];done))|exact Sup.of rfl|skip
    |some d=>
     rw[ho]at e1;rw[e1];refine av (md:=1) (rf:=[]) mixed aj fD Tryz.func21 (by rfl) (by rfl) (by rfl) ?_
     repeat'((conv=>whnf);first|refine Exists.intro (bgn c gv) ?_|refine Exists.intro (some d) ?_|(intro hq;(try simp only[vw]at hq);try first|exact absurd hq (by decide)|exfalso;omega)|apply aI|with_reducible exact vM rfl|exact⟨⟩|apply nM|apply fM)
     all_goals((try apply vM);(try simp only[vq]at*);try omega)
     all_goals first|exact⟨h,hg⟩|exact⟨t1,t2,hb⟩|exact⟨t1,t2,⟨by omega,by omega⟩,hb,ho⟩|(exfalso;simp[aL,hbk,hdn]at hq;done)|(exact Sup.of (by simp[bG,aL,ddO,hbk,hdn];done))|exact Sup.of rfl|skip
 ·have e1:uj c ls sum gv=(none,pzE c ls sum gv):=by unfold uj;rw[if_pos he]
  rw[e1];refine av (md:=1) (rf:=[]) mixed aj fD Tryz.func21 (by rfl) (by rfl) (by rfl) ?_
  repeat'((conv=>whnf);first|(intro hq;(try simp only[vw]at hq);try first|exact absurd hq (by decide)|exfalso;omega)|apply aI|with_reducible exact vM rfl|exact⟨⟩|apply nM|apply fM)
  all_goals((try apply vM);(try simp only[vq]at*);try omega)
  ·exact⟨h,hg⟩
  ·exact Sup.of rfl
def uo (c:Int) (ls:List (List Int)) (sum:Int) (gv:List Int) (g:Int):List Dd × St × Int:=
 if aL [pzE c ls sum gv,fJ g]≠0 then([],noS,aL [pzE c ls sum gv,fJ g])else if(sol c ls sum gv g.toNat).2.2=21 then([],noS,21)else sol c ls sum gv g.toNat
abbrev wz (r:List Dd × St × Int):PV:=.tup [.isl (dlC r.1) .none,stV r.2.1,.int .i64 r.2.2]
theorem Hz (e:Int):Sup (bG [PV.nils,PV.agg [PV.nils,PV.nils],PV.int IntKind.i64 e]) (wz ([],noS,e)):=by
 unfold noS;all_goals(refine Sup.via ?_;repeat'((conv=>whnf);first|intro _|apply aI|with_reducible exact vM rfl|exact⟨⟩|apply nM|apply fM);all_goals((try apply vM);(try simp only[vq]at*);try omega);all_goals(try(simp[CL.sub];done)))
theorem yS {a b:Int} (h:aL [a,b]=0):a=0∧b=0:=by
 simp only[aL]at h;split at h
 ·split at h
  ·exact⟨‹_›,‹_›⟩
  ·exact absurd h ‹_›
 ·exact absurd h ‹_›
theorem Dv {g:Int} (h:fJ g=0):1≤g∧g≤5:=by
 unfold fJ at h;by_cases e:g<1∨5<g
 ·rw[if_pos e]at h;cases h
 ·omega
theorem Av (c:Int) (ls:List (List Int)) (sum:Int) (gv:List Int) (g:Int) (h:bH ls) (hg:gv.length≤5000):aF Tryz.prog 30 [pzV c ls sum gv,.int .i64 g] (wz (uo c ls sum gv g)):=by
 by_cases he:aL [pzE c ls sum gv,fJ g]=0
 ·obtain⟨a1,a2⟩:=yS he
  have hp:=cZ.of a1;have hgr:=Dv a2;have e1:uo c ls sum gv g=if(sol c ls sum gv g.toNat).2.2=21 then([],noS,21)else sol c ls sum gv g.toNat:=by unfold uo;rw[if_neg (by rw[he];simp)]
  have hsb:=(adA hp (show g.toNat≤5 by omega)).1
  by_cases h21:(sol c ls sum gv g.toNat).2.2=21
  ·rw[if_pos h21]at e1
   rw[e1];have hso:fO (sol c ls sum gv g.toNat)=none:=by unfold fO;rw[if_pos h21]
   refine av (md:=1) (rf:=[]) mixed aj fD Tryz.func30 (by rfl) (by rfl) (by rfl) ?_
   repeat'((conv=>whnf);first|refine Exists.intro (none) ?_|(intro hq;(try simp only[vw]at hq);try first|exact absurd hq (by decide)|exfalso;omega)|apply aI|with_reducible exact vM rfl|exact⟨⟩|apply nM|apply fM)
   all_goals((try apply vM);(try simp only[vq]at*);try omega)
   ·exact⟨h,hg⟩
   ·exact⟨hp,⟨by omega,by omega⟩,hso⟩
   ·exact Hz 21
  ·rw[if_neg h21]at e1
   rw[e1];have hso:fO (sol c ls sum gv g.toNat)=some (sol c ls sum gv g.toNat):=by unfold fO;rw[if_neg h21]
   obtain⟨rr,hr⟩:∃r,sol c ls sum gv g.toNat=r:=⟨_,rfl⟩;rw[hr]at h21 hsb⊢;refine av (md:=1) (rf:=[]) mixed aj fD Tryz.func30 (by rfl) (by rfl) (by rfl) ?_
   repeat'((conv=>whnf);first|refine Exists.intro (some rr) ?_|refine Exists.intro (rr.2.1) ?_|(intro hq;(try simp only[vw]at hq);try first|exact absurd hq (by decide)|exfalso;omega)|apply aI|with_reducible exact vM rfl|exact⟨⟩|apply nM|apply fM)
   all_goals((try apply vM);(try simp only[vq]at*);try omega)
   all_goals first|exact⟨h,hg⟩|exact⟨hp,⟨by omega,by omega⟩,by rw[hso,hr]⟩|(exfalso;exact h21 hq)|exact hsb|exact⟨rfl,rfl,hsb⟩|exact Sup.of rfl
 ·have e1:uo c ls sum gv g=([],noS,aL [pzE c ls sum gv,fJ g]):=by unfold uo;rw[if_pos he]
  rw[e1];refine av (md:=1) (rf:=[]) mixed aj fD Tryz.func30 (by rfl) (by rfl) (by rfl) ?_
  repeat'((conv=>whnf);first|(intro hq;(try simp only[vw]at hq);try first|exact absurd hq (by decide)|exfalso;omega)|apply aI|with_reducible exact vM rfl|exact⟨⟩|apply nM|apply fM)
  all_goals((try apply vM);(try simp only[vq]at*);try omega)
  ·exact⟨h,hg⟩
  ·exact Hz _
def uq (c:Int) (ls:List (List Int)) (sum:Int) (gv:List Int):Nat→Nat→Nat
 |0,g=>g
 |f+1,g=>if(sol c ls sum gv g).2.2=0 then g else uq c ls sum gv f (g+1)
def iB (c:Int) (ls:List (List Int)) (sum:Int) (gv:List Int):Int × List Dd × Int:=
 if(sol c ls sum gv 5).2.2≠0 then(0,[],(sol c ls sum gv 5).2.2)else((uq c ls sum gv 4 1:Nat),(sol c ls sum gv (uq c ls sum gv 4 1)).1,0)
theorem RZ {c:Int} {ls:List (List Int)} {sum:Int} {gv:List Int}:∀(f g k:Nat),(∀j,g≤j→j<k→(sol c ls sum gv j).2.2≠0)→(sol c ls sum gv k).2.2=0→g≤k→k≤g+f→uq c ls sum gv f g=k:=by
 intro f;induction f with
 |zero=>intro g k _ _ h1 h2;show g=k;omega
 |succ f ih=>
  intro g k hn hk h1 h2;unfold uq;by_cases e:g=k
  ·subst e;rw[if_pos hk]
  ·rw[if_neg (hn g (by omega) (by omega))]
   exact ih (g+1) k (fun j hj hk'=>hn j (by omega) hk') hk (by omega) (by omega)
theorem JZ (c:Int) (ls:List (List Int)) (sum:Int) (gv:List Int) (hp:cZ c ls sum gv):
 aF Tryz.prog 100 [pzV c ls sum gv] (.tup [.int .i64 (iB c ls sum gv).1,.isl (dlC (iB c ls sum gv).2.1) .none,.int .i64 (iB c ls sum gv).2.2]):=by
 have sn:∀e:Int,Sup (bG [PV.int IntKind.i64 0,PV.nils,PV.int IntKind.i64 e]) (.tup [.int .i64 0,.isl (dlC []) .none,.int .i64 e]):=fun e=>by all_goals(refine Sup.via ?_;repeat'((conv=>whnf);first|intro _|apply aI|with_reducible exact vM rfl|exact⟨⟩|apply nM|apply fM);all_goals((try apply vM);(try simp only[vq]at*);try omega);all_goals(try(simp[CL.sub];done)))
 obtain⟨r5,h5⟩:∃r,sol c ls sum gv 5=r:=⟨_,rfl⟩;by_cases h21:r5.2.2=21
 ·have hso:fO (sol c ls sum gv 5)=none:=by unfold fO;rw[h5,if_pos h21]
  have hgr:iB c ls sum gv=(0,[],21):=by unfold iB;rw[h5,if_pos (by rw[h21];simp),h21]
  rw[hgr];refine av (md:=1) (rf:=[]) mixed aj fD Tryz.func100 (by rfl) (by rfl) (by rfl) ?_
  repeat'((conv=>whnf);first|refine Exists.intro (none) ?_|(intro hq;(try simp only[vw]at hq);try first|exact absurd hq (by decide)|exfalso;omega)|apply aI|with_reducible exact vM rfl|exact⟨⟩|apply nM|apply fM)
  all_goals((try apply vM);(try simp only[vq]at*);try omega)
  ·exact⟨hp,⟨by omega,by omega⟩,hso⟩
  ·exact sn 21
 ·have hso:fO (sol c ls sum gv 5)=some r5:=by unfold fO;rw[h5,if_neg h21]
  by_cases h50:r5.2.2=0
  ·skip
   refine av (md:=1) (rf:=[]) mixed aj fD Tryz.func100 (by rfl) (by rfl) (by rfl) ?_
   repeat'((conv=>whnf);first|refine Exists.intro (some r5) ?_|(intro hq;(try simp only[vw]at hq);try first|exact absurd hq (by decide)|exfalso;omega)|apply aI|with_reducible exact vM rfl|exact⟨⟩|apply nM|apply fM)
   all_goals((try apply vM);(try simp only[vq]at*);try omega)
   ·exact⟨hp,⟨by omega,by omega⟩,hso⟩
   conv=>whnf
   refine aJ (X:=Nat) (fun g=>(1≤g∧g≤5)∧∀j,1≤j→j<g→(sol c ls sum gv j).2.2≠0) (fun g=>[(8,.int .i64 (g:Int))]) (fun g=>[]) (fun g=>6-g) 1 ⟨aG,mixed,aj,fD,aM⟩ (by rfl) ⟨by omega,fun j h1 h2=>by omega⟩ ?_ ?_
   ·repeat'((conv=>whnf);first|intro _|apply aI|with_reducible exact vM rfl|exact⟨⟩|apply nM|apply fM)
    all_goals((try apply vM);(try simp only[vq]at*);try omega)
   intro g ⟨hg,hok⟩;obtain⟨rg,hrg⟩:∃r,sol c ls sum gv g=r:=⟨_,rfl⟩;have nxt:rg.2.2≠0→(g+1≤5∧∀j,1≤j→j<g+1→(sol c ls sum gv j).2.2≠0):=fun h0=>by
    have:g≠5:=fun e=>by subst e;rw[←hrg,h5]at h0;exact h0 h50
    refine⟨by omega,fun j h1 h2=>?_⟩
    by_cases e:j=g
    ·subst e;rw[hrg];exact h0
    ·exact hok j h1 (by omega)
   by_cases hg21:rg.2.2=21
   ·have hso2:fO (sol c ls sum gv g)=none:=by unfold fO;rw[hrg,if_pos hg21]
    repeat'((conv=>whnf);first|refine Exists.intro (none) ?_|(intro hq;(try simp only[vw]at hq);try first|exact absurd hq (by decide)|exfalso;omega)|apply aI|with_reducible exact vM rfl|exact⟨⟩|apply nM|apply fM)
    all_goals((try apply vM);(try simp only[vq]at*);try omega)
    ·exact⟨hp,⟨by omega,by omega⟩,hso2⟩
    obtain⟨n1,n2⟩:=nxt (by rw[hg21];simp)
    refine⟨g+1,[],⟨⟨⟨by omega,n1⟩,n2⟩,by omega⟩,?_⟩
    repeat'((conv=>whnf);first|intro _|apply aI|with_reducible exact vM rfl|exact⟨⟩|apply nM|apply fM)
    all_goals((try apply vM);(try simp only[vq]at*);try omega)
   ·have hso2:fO (sol c ls sum gv g)=some rg:=by unfold fO;rw[hrg,if_neg hg21]
    repeat'((conv=>whnf);first|refine Exists.intro (some rg) ?_|(intro hq;(try simp only[vw]at hq);try first|exact absurd hq (by decide)|exfalso;omega)|apply aI|with_reducible exact vM rfl|exact⟨⟩|apply nM|apply fM)
    all_goals((try apply vM);(try simp only[vq]at*);try omega)
    ·exact⟨hp,⟨by omega,by omega⟩,hso2⟩
    ·have hgn:=RZ (c:=c) (ls:=ls) (sum:=sum) (gv:=gv) 4 1 g hok (by rw[hrg];exact hq) hg.1 (by omega)
     have hgr:iB c ls sum gv=(((g:Nat):Int),rg.1,0):=by unfold iB;rw[h5,if_neg (by rw[h50];simp),hgn,hrg]
     rw[hgr];exact Sup.of (by simp only[bG];rw[hq])
    ·obtain⟨n1,n2⟩:=nxt hq
     refine⟨g+1,[],⟨⟨⟨by omega,n1⟩,n2⟩,by omega⟩,?_⟩
     repeat'((conv=>whnf);first|intro _|apply aI|with_reducible exact vM rfl|exact⟨⟩|apply nM|apply fM)
     all_goals((try apply vM);(try simp only[vq]at*);try omega)
  ·have hgr:iB c ls sum gv=(0,[],r5.2.2):=by unfold iB;rw[h5,if_pos h50]
   rw[hgr];refine av (md:=1) (rf:=[]) mixed aj fD Tryz.func100 (by rfl) (by rfl) (by rfl) ?_
   repeat'((conv=>whnf);first|refine Exists.intro (some r5) ?_|(intro hq;(try simp only[vw]at hq);try first|exact absurd hq (by decide)|exfalso;omega)|apply aI|with_reducible exact vM rfl|exact⟨⟩|apply nM|apply fM)
   all_goals((try apply vM);(try simp only[vq]at*);try omega)
   ·exact⟨hp,⟨by omega,by omega⟩,hso⟩
   ·exact sn _
def BS:PSp:=fun xs K=>match xs with
 | [.agg [.int .i64 c,.isl (.rows .i64 ls) .none,.int .i64 sum,.isl (.ints .i64 gv) .none]]=>VC (cZ c ls sum gv)∧K (.tup [.int .i64 (iB c ls sum gv).1,.isl (dlC (iB c ls sum gv).2.1) .none,.int .i64 (iB c ls sum gv).2.2])
 |_=>False
theorem R6:POK Tryz.prog 100 BS:=by
 intro xs K hk;unfold BS at hk;split at hk
 ·exact⟨_,hk.2,JZ _ _ _ _ hk.1.get⟩
 ·exact hk.elim
noncomputable def afA:CPT:=aA 22 (aB l9) (aA 100 (aB BS) (aA 101 (aB pz) noC))
theorem pF:aV Tryz.prog afA:=ak (au lC) (ak (au R6) (ak (au qP) aC))
def lG (c:Int) (ls:List (List Int)) (sum:Int) (gv:List Int):Int × List Dd × Int:=if pzE c ls sum gv≠0 then(0,[],pzE c ls sum gv)else iB c ls sum gv
theorem OV (c:Int) (ls:List (List Int)) (sum:Int) (gv:List Int) (h:bH ls) (hg:gv.length≤5000):aF Tryz.prog 31 [pzV c ls sum gv] (.tup [.int .i64 (lG c ls sum gv).1,.int .i64 (lG c ls sum gv).2.2]):=by
 by_cases he:pzE c ls sum gv=0
 ·have e1:lG c ls sum gv=iB c ls sum gv:=by unfold lG;rw[if_neg (by rw[he];simp)]
  rw[e1];refine av (md:=1) (rf:=[]) mixed aj pF Tryz.func31 (by rfl) (by rfl) (by rfl) ?_
  repeat'((conv=>whnf);first|(intro hq;(try simp only[vw]at hq);try first|exact absurd hq (by decide)|exfalso;omega)|apply aI|with_reducible exact vM rfl|exact⟨⟩|apply nM|apply fM)
  all_goals((try apply vM);(try simp only[vq]at*);try omega)
  all_goals first|exact⟨h,hg⟩|exact cZ.of he|exact Sup.of rfl|skip
 ·have e1:lG c ls sum gv=(0,[],pzE c ls sum gv):=by unfold lG;rw[if_pos he]
  rw[e1];refine av (md:=1) (rf:=[]) mixed aj pF Tryz.func31 (by rfl) (by rfl) (by rfl) ?_
  repeat'((conv=>whnf);first|(intro hq;(try simp only[vw]at hq);try first|exact absurd hq (by decide)|exfalso;omega)|apply aI|with_reducible exact vM rfl|exact⟨⟩|apply nM|apply fM)
  all_goals((try apply vM);(try simp only[vq]at*);try omega)
  all_goals first|exact⟨h,hg⟩|exact Sup.of rfl|skip
def j6 (l:List Dd):List Int:=(agr 5).map fun g=>((l.filter fun d=>decide (d.g=g+1)).length:Int)
theorem R7 (l:List Dd) (d:Dd) (h:1≤d.g∧d.g≤5):(j6 l).set (d.g-1) ((j6 l).getD (d.g-1) 0+1)=j6 (l++[d]):=by
 refine aja (by simp[j6]) fun j h1 h2=>?_
 have hj:j<5:=by simpa [j6]using h2
 rw[ajb];simp only[j6,ajc,ajd,ajh,aji,ajj,ahx];by_cases e:d.g-1=j
 ·rw[if_pos e]
  subst e;simp[agt,show d.g-1<5 by omega,show d.g-1+1=d.g by omega]
 ·rw[if_neg e]
  simp[show¬d.g=j+1 by omega]
theorem adB {c:Int} {ls:List (List Int)} {sum:Int} {n:Nat}:∀(f:Nat) (s:St) (l:List Dd),(∀d∈l,1≤d.g∧d.g≤n)→∀d∈(mh c ls sum n f s l).1,1≤d.g∧d.g≤n:=by
 intro f;induction f with
 |zero=>exact fun s l h=>h
 |succ f ih=>
  intro s l h;unfold mh;split
  ·intro d hd;simp at hd
  ·split
   ·exact h
   ·split
    ·exact h
    ·rename_i d hd
     refine ih _ _ fun d' hd'=>?_;rcases agu.1 hd' with h1|h1
     ·exact h d' h1
     ·rw[ai0.1 h1]
      obtain⟨g,g1,g2,g3⟩:=Hf hd;rw[(He.1 g3).1];exact⟨g1,g2⟩
theorem adC {c:Int} {ls:List (List Int)} {sum:Int} {gv:List Int}:∀d∈(iB c ls sum gv).2.1,1≤d.g∧d.g≤5:=by
 intro d hd;unfold iB at hd;split at hd
 ·simp at hd
 ·have:=adB (n:=uq c ls sum gv 4 1) 273 _ [] (fun d h=>by simp at h) d hd
  have hb:∀f g,uq c ls sum gv f g≤g+f:=by
   intro f;induction f with
   |zero=>intro g;exact agh _
   |succ f ih=>intro g;unfold uq;split;omega;have:=ih (g+1);omega
  have:=hb 4 1;omega
theorem Vg {c:Int} {ls:List (List Int)} {sum:Int} {n:Nat}:∀(f:Nat) (s:St) (l:List Dd),(mh c ls sum n f s l).1.length≤l.length+f:=by
 intro f;induction f with
 |zero=>exact fun s l=>agh _
 |succ f ih=>
  intro s l;unfold mh;split
  ·simp
  ·split
   ·simp only;omega
   ·split
    ·simp only;omega
    ·have:=ih (apl ‹Dd›.g s ‹Dd›.y ‹Dd›.x) (l++[‹Dd›])
     rw[ahx]at this;simp only[agb,af7]at this;omega
theorem Vh {c:Int} {ls:List (List Int)} {sum:Int} {gv:List Int}:(iB c ls sum gv).2.1.length≤273:=by
 unfold iB;split
 ·simp
 ·have:=Vg (c:=c) (ls:=ls) (sum:=sum) (n:=uq c ls sum gv 4 1) 273 (bgn c gv) []
  rw[af7,Nat.zero_add]at this;exact this
theorem aaD (l:List Dd) (i:Nat):0≤(j6 l).getD i 0∧(j6 l).getD i 0≤l.length:=by
 by_cases hi:i<5
 ·have:(j6 l).getD i 0=((l.filter fun d=>decide (d.g=i+1)).length:Int):=by simp[j6,agt,hi]
  rw[this];have:=ai1 (fun d:Dd=>decide (d.g=i+1)) l;omega
 ·have:(j6 l).getD i 0=0:=by simp[j6,agt,hi]
  rw[this];omega
def HV (c:Int) (ls:List (List Int)) (sum:Int) (gv:List Int):List Int:=if(lG c ls sum gv).2.2≠0 then []else j6 (lG c ls sum gv).2.1
theorem R8 {g:Nat} (h:1≤g∧g≤5):aQ (nmG g)=g:=by
 have:=jO;obtain rfl|rfl|rfl|rfl|rfl:g=1∨g=2∨g=3∨g=4∨g=5:=by omega
 all_goals first|exact this.1|exact this.2.1|exact this.2.2.1|exact this.2.2.2.1|exact this.2.2.2.2
theorem OW (c:Int) (ls:List (List Int)) (sum:Int) (gv:List Int) (h:bH ls) (hg:gv.length≤5000):aF Tryz.prog 32 [pzV c ls sum gv] (.tup [.isl (.ints .i64 (HV c ls sum gv)) .none,.int .i64 (lG c ls sum gv).2.2]):=by
 have sn:∀e:Int,Sup (bG [PV.nils,PV.int IntKind.i64 e]) (.tup [.isl (.ints .i64 []) .none,.int .i64 e]):=fun e=>by all_goals(refine Sup.via ?_;repeat'((conv=>whnf);first|intro _|apply aI|with_reducible exact vM rfl|exact⟨⟩|apply nM|apply fM);all_goals((try apply vM);(try simp only[vq]at*);try omega);all_goals(try(simp[CL.sub];done)))
 by_cases he:pzE c ls sum gv=0
 ·have e1:lG c ls sum gv=iB c ls sum gv:=by unfold lG;rw[if_neg (by rw[he];simp)]
  unfold HV;rw[e1];have hgg:=adC (c:=c) (ls:=ls) (sum:=sum) (gv:=gv);obtain⟨l,hF⟩:∃l,(iB c ls sum gv).2.1=l:=⟨_,rfl⟩;rw[hF]at hgg;have hl3:l.length≤273:=by rw[←hF];exact Vh
  by_cases h0:(iB c ls sum gv).2.2=0
  ·rw[if_neg (by rw[h0];simp),hF]
   refine av (md:=1) (rf:=[]) mixed aj pF Tryz.func32 (by rfl) (by rfl) (by rfl) ?_
   repeat'((conv=>whnf);first|(intro hq;(try simp only[vw]at hq);try first|exact absurd hq (by decide)|exfalso;omega)|apply aI|with_reducible exact vM rfl|exact⟨⟩|apply nM|apply fM)
   all_goals((try apply vM);(try simp only[vq]at*);try omega)
   all_goals first|exact .inl trivial|exact⟨h,hg⟩|exact cZ.of he|skip
   rw[hF];conv=>whnf
   refine aJ (X:=Nat) (fun i=>i≤l.length) (fun i=>[(28,.int .i64 i)]) (fun i=>[(9,.cells (.ints .i64 (j6 (l.take i))) false)]) (fun i=>l.length-i) 0 ⟨aG,mixed,aj,pF,aM⟩ (by rfl) (by omega) ?_ ?_
   ·repeat'((conv=>whnf);first|intro _|apply aI|with_reducible exact vM rfl|exact⟨⟩|apply nM|apply fM)
    all_goals((try apply vM);(try simp only[vq]at*);try omega)
    all_goals rfl
   intro i hi;have hsl:(j6 (l.take i)).length=5:=by simp[j6]
   have hbd:=aaD (l.take i);have hli:(l.take i).length≤273:=by rw[ag6];omega
   by_cases hlt:i<l.length
   ·have hd:=hgg (l.getD i dd0) (by rw[agt,agy hlt];exact aiG _)
    have hgn:=R8 hd;obtain⟨dg,hdg⟩:∃g:Int,g=((l.getD i dd0).g:Nat):=⟨_,rfl⟩;have hbi:=hbd (dg-1).toNat;have ht1:l.take (i+1)=l.take i++[l.getD i dd0]:=by rw[aij,agt,agy hlt];rfl
    have hsu:=R7 (l.take i) (l.getD i dd0) hd;rw[←ht1,show(l.getD i dd0).g-1=(dg-1).toNat by omega]at hsu
    repeat'((conv=>whnf);first|refine Exists.intro (dg) ?_|(intro hq;(try simp only[vw]at hq);try first|exact absurd hq (by decide)|exfalso;omega)|apply aI|with_reducible exact vM rfl|exact⟨⟩|apply nM|apply fM)
    all_goals((try apply vM);(try simp only[vq]at*);try omega)
    all_goals(try first|omega|rfl|(rw[hgn];exact hdg.symm))
    refine⟨i+1,[],⟨by omega,by omega⟩,?_⟩
    repeat'((conv=>whnf);first|intro _|apply aI|with_reducible exact vM rfl|exact⟨⟩|apply nM|apply fM)
    all_goals((try apply vM);(try simp only[vq]at*);try omega)
    all_goals(try exact hsu)
   ·have:i=l.length:=by omega
    subst this;rw[ail]at*
    repeat'((conv=>whnf);first|(intro hq;(try simp only[vw]at hq);try first|exact absurd hq (by decide)|exfalso;omega)|apply aI|with_reducible exact vM rfl|exact⟨⟩|apply nM|apply fM)
    all_goals((try apply vM);(try simp only[vq]at*);try omega)
    all_goals(try(rw[hsl];decide))
    rw[h0];refine Sup.of ?_;show PV.tup [.isl (.ints .i64 (aiW (aiI 5-0) (aiX 0 (j6 l)))) .none,.int .i64 0]=_;rw[bP (by rw[hsl];rfl)]
  ·rw[if_pos h0]
   refine av (md:=1) (rf:=[]) mixed aj pF Tryz.func32 (by rfl) (by rfl) (by rfl) ?_
   repeat'((conv=>whnf);first|(intro hq;(try simp only[vw]at hq);try first|exact absurd hq (by decide)|exfalso;omega)|apply aI|with_reducible exact vM rfl|exact⟨⟩|apply nM|apply fM)
   all_goals((try apply vM);(try simp only[vq]at*);try omega)
   all_goals first|exact .inl trivial|exact⟨h,hg⟩|exact cZ.of he|exact sn _|skip
 ·have e1:lG c ls sum gv=(0,[],pzE c ls sum gv):=by unfold lG;rw[if_pos he]
  have e2:HV c ls sum gv=[]:=by unfold HV;rw[e1,if_pos he]
  rw[e1,e2];refine av (md:=1) (rf:=[]) mixed aj pF Tryz.func32 (by rfl) (by rfl) (by rfl) ?_
  repeat'((conv=>whnf);first|(intro hq;(try simp only[vw]at hq);try first|exact absurd hq (by decide)|exfalso;omega)|apply aI|with_reducible exact vM rfl|exact⟨⟩|apply nM|apply fM)
  all_goals((try apply vM);(try simp only[vq]at*);try omega)
  all_goals first|exact .inl trivial|exact⟨h,hg⟩|exact sn _|skip
structure StS (s:St):Prop where
 cl:s.cs.length≤5000
 dl:s.ds.length≤5000
 ll:∀i,(s.cd i).length≤5000
structure afB (s:St):Prop where
 cl:1≤s.cs.length∧s.cs.length≤16
 dl:s.ds.length=s.cs.length
 asc:∀i,i<s.cs.length→Asc (s.cd i)
theorem bB.lt {c:Int} {ls:List (List Int)} {sum:Int} {s:St} (h:bB c ls sum s):afB s:=by
 have:=h.c1;have:=h.cl;have:=h.dl;exact⟨by omega,by omega,fun i hi=>(h.asc i hi).1⟩
structure StW where
 s:St
theorem rT (b:Bool) (p:PV):Sup (bG [PV.bool b,p]) (PV.tup [.bp b,p]):=⟨fun hr=>by
 cases hr with
 |tup _ _ vs hl hh=>
  refine .tup _ _ _ hl fun i hi=>?_;have:=hh i hi;obtain rfl|rfl:i=0∨i=1:=by simp at hi;omega
  ·simp only[aD]at this⊢
   generalize vs.getD 0 undef=v1 at this
   cases this;exact .bp _ _
  ·exact this⟩
structure Du where
 r:ByteArray
 y:Int
 x:Int
 k:Int
def dU (N l:List Int):Int:=l.foldl (fun a x=>a+N.getD x.toNat 0) 0
theorem yT (N l:List Int) (x:Int):dU N (l++[x])=dU N l+N.getD x.toNat 0:=by unfold dU;rw[aiF];rfl
theorem nC {N:List Int} (hN:∀x∈N,0≤x∧x≤16) (l:List Int):0≤dU N l∧dU N l≤16*l.length:=by
 obtain⟨n,hn⟩:∃n,l.length=n:=⟨_,rfl⟩;induction n generalizing l with
 |zero=>rw[List.length_eq_zero_iff.1 hn];simp[dU]
 |succ n ih=>
  obtain⟨l',x,rfl⟩:∃l' x,l=l'++[x]:=⟨l.take n,l.getD n 0,by rw[←bX (by omega),←hn,ail]⟩
  have ih:=ih l' (by simpa using hn)
  rw[yT,ahx];have:0≤N.getD x.toNat 0∧N.getD x.toNat 0≤16:=by
   rw[agt];cases e:N[x.toNat]? with
   |none=>simp
   |some y=>exact hN y (List.mem_of_getElem? e)
  simp only[agb,af7];omega
def wB (sum:Int) (N:List Int) (i:Int) (l:List Int):Bool:=!decide (l.getD (l.length-1) 0=i-1)||decide (dU N l=sum)
def mq (ls:List (List Int)) (sum:Int) (N:List Int) (i:Int):Bool:=ls.all (wB sum N i)
theorem fP {α:Type} {l:List α} {i:Nat} {d:α} (h:i<l.length):l.getD i d∈l:=by
 rw[agt,agy h];exact aiG _
theorem aaE {ls:List (List Int)} {sum:Int} {N:List Int} {i:Int} {j:Nat} (hj:j<ls.length) (h:wB sum N i (ls.getD j [])=false):mq ls sum N i=false:=by
 unfold mq;rw[List.all_eq_false];exact⟨_,fP hj,by rw[h];simp⟩
abbrev srC (c:Int) (ls:List (List Int)) (sum:Int) (gv:List Int) (lim:Int) (nums:PV) (u:Int) (res:PV):CL:=.pv [.int .i64 c,.isl (.rows .i64 ls) .none,.int .i64 sum,.isl (.ints .i64 gv) .none,.int .i64 lim,nums,.int .u32 u,res]
structure HY (c:Int) (N:List Int):Prop where
 len:(N.length:Int)=c
 rng:∀x∈N,0≤x∧x≤16
theorem R9 (c:Int) (ls:List (List Int)) (sum:Int) (gv:List Int) (lim:Int) (N:List Int) (u:Int) (R:List (List Int)) (i:Int) (h:cZ c ls sum gv) (hN:HY c N) (hi:0≤i∧i≤16):
 aF Tryz.prog 155 [.ip (srC c ls sum gv lim (.isl (.ints .i64 N) .none) u (.isl (.rows .i64 R) .none)) 0,.int .i64 i] (.bp (mq ls sum N i)):=by
 have hc:=h.c1;have hll:=h.ll;have hsm:=h.sm;have hNl:=hN.len;refine av (md:=1) (rf:=[]) mixed aj aC Tryz.func155 (by rfl) (by rfl) (by rfl) ?_
 repeat'((conv=>whnf);first|(intro hq;(try simp only[vw]at hq);try first|exact absurd hq (by decide)|exfalso;omega)|apply aI|with_reducible exact vM rfl|exact⟨⟩|apply nM|apply fM)
 all_goals((try apply vM);(try simp only[vq]at*);try omega)
 conv=>whnf
 refine aJ (X:=Nat) (fun j=>j≤ls.length∧∀t,t<j→wB sum N i (ls.getD t [])=true) (fun j=>[(17,.int .i64 j)]) (fun j=>[]) (fun j=>ls.length-j) 0 ⟨aG,mixed,aj,aC,aM⟩ (by rfl) ⟨by omega,fun t ht=>absurd ht (Nat.not_lt_zero t)⟩ ?_ ?_
 ·repeat'((conv=>whnf);first|intro _|apply aI|with_reducible exact vM rfl|exact⟨⟩|apply nM|apply fM)
  all_goals((try apply vM);(try simp only[vq]at*);try omega)
 intro j ⟨hj,hok⟩;by_cases hlt:j<ls.length
 ·have hL:=h.ln j hlt
  have hne:=hL.ne;have hlen:=hL.len;have eidx:((((ls.getD j []).length:Nat):Int)-1).toNat=(ls.getD j []).length-1:=by omega
  have hlast:=hL.rng ((ls.getD j []).getD ((ls.getD j []).length-1) 0) (bK (by omega))
  have hnext:wB sum N i (ls.getD j [])=true→∀t,t<j+1→wB sum N i (ls.getD t [])=true:=fun hh t ht=>by
   rcases ai9.1 ht with h'|h'
   ·exact hok t h'
   ·rw[h'];exact hh
  repeat'((conv=>whnf);first|(intro hq;(try simp only[vw]at hq);try first|exact absurd hq (by decide)|exfalso;omega)|apply aI|with_reducible exact vM rfl|exact⟨⟩|apply nM|apply fM)
  all_goals((try apply vM);(try simp only[vq]at*);try omega)
  all_goals(try omega)
  all_goals(try rw[eidx]at*)
  ·refine⟨j+1,[],⟨⟨by omega,hnext (by unfold wB;rw[decide_eq_false hq];rfl)⟩,by omega⟩,?_⟩
   repeat'((conv=>whnf);first|intro _|apply aI|with_reducible exact vM rfl|exact⟨⟩|apply nM|apply fM)
   all_goals((try apply vM);(try simp only[vq]at*);try omega)
  rename_i hq;have hla:=aha.1 hq;conv=>whnf
  refine aJ (X:=Nat) (fun k=>k≤(ls.getD j []).length) (fun k=>[(32,.int .i64 k),(7,.int .i64 (dU N ((ls.getD j []).take k)))]) (fun k=>[]) (fun k=>(ls.getD j []).length-k) 0 ⟨aG,mixed,aj,aC,aM⟩ (by rfl) (by omega) ?_ ?_
  ·repeat'((conv=>whnf);first|intro _|apply aI|with_reducible exact vM rfl|exact⟨⟩|apply nM|apply fM)
   all_goals((try apply vM);(try simp only[vq]at*);try omega)
   all_goals skip
  intro k hk;have hb:=nC hN.rng ((ls.getD j []).take k);rw[ag6,Nat.min_eq_left hk]at hb;by_cases hlk:k<(ls.getD j []).length
  ·have hx:=hL.rng ((ls.getD j []).getD k 0) (fP hlk)
   have hsx:dU N ((ls.getD j []).take (k+1))=dU N ((ls.getD j []).take k)+N.getD ((ls.getD j []).getD k 0).toNat 0:=by rw[bX hlk,yT]
   have hv:=hN.rng (N.getD ((ls.getD j []).getD k 0).toNat 0) (fP (by omega))
   repeat'((conv=>whnf);first|(intro hq;(try simp only[vw]at hq);try first|exact absurd hq (by decide)|exfalso;omega)|apply aI|with_reducible exact vM rfl|exact⟨⟩|apply nM|apply fM)
   all_goals((try apply vM);(try simp only[vq]at*);try omega)
   all_goals(try omega)
   refine⟨k+1,[],⟨by omega,by omega⟩,?_⟩
   rw[hsx]
   repeat'((conv=>whnf);first|intro _|apply aI|with_reducible exact vM rfl|exact⟨⟩|apply nM|apply fM)
   all_goals((try apply vM);(try simp only[vq]at*);try omega)
   all_goals skip
  ·have e:k=(ls.getD j []).length:=by omega
   subst e;rw[ail]at*
   repeat'((conv=>whnf);first|(intro hq;(try simp only[vw]at hq);try first|exact absurd hq (by decide)|exfalso;omega)|apply aI|with_reducible exact vM rfl|exact⟨⟩|apply nM|apply fM)
   all_goals((try apply vM);(try simp only[vq]at*);try omega)
   all_goals(try omega)
   ·rw[aaE hlt (by unfold wB;rw[decide_eq_true hla,decide_eq_false hq];rfl)]
    exact cu false
   ·refine⟨j+1,[],⟨⟨by omega,hnext (by unfold wB;rw[decide_eq_true (aha.1 hq),Bool.or_true])⟩,by omega⟩,?_⟩
    repeat'((conv=>whnf);first|intro _|apply aI|with_reducible exact vM rfl|exact⟨⟩|apply nM|apply fM)
    all_goals((try apply vM);(try simp only[vq]at*);try omega)
 ·have e:j=ls.length:=by omega
  subst e;have:mq ls sum N i=true:=by
   unfold mq;rw[ahP];intro x hx;obtain⟨t,ht,rfl⟩:=agx hx;have:=hok t ht
   rwa [agt,agy ht]at this
  rw[this]
  repeat'((conv=>whnf);first|(intro hq;(try simp only[vw]at hq);try first|exact absurd hq (by decide)|exfalso;omega)|apply aI|with_reducible exact vM rfl|exact⟨⟩|apply nM|apply fM)
  all_goals((try apply vM);(try simp only[vq]at*);try omega)
  all_goals exact cu true
def OX:PSp:=fun xs K=>match xs with
 | [.ip (.pv [.int .i64 c,.isl (.rows .i64 ls) .none,.int .i64 sum,.isl (.ints .i64 gv) .none,.int .i64 lim,.isl (.ints .i64 N) .none,.int .u32 u,.isl (.rows .i64 R) .none]) 0,.int .i64 i]=>VC (cZ c ls sum gv∧HY c N∧0≤i∧i≤16)∧K (.bp (mq ls sum N i))
 |_=>False
theorem aaF:POK Tryz.prog 155 OX:=by
 intro xs K hk;unfold OX at hk;split at hk
 ·exact⟨_,hk.2,R9 _ _ _ _ _ _ _ _ _ hk.1.get.1 hk.1.get.2.1 hk.1.get.2.2⟩
 ·exact hk.elim
theorem Vi (l:List Int) (hl:1≤l.length∧l.length≤1000000):aF Tryz.prog 102 [.isl (.ints .i64 l) .none] (.isl (.ints .i64 l) .none):=by
 refine av (md:=1) (rf:=[]) mixed aj aC Tryz.func102 (by rfl) (by rfl) (by rfl) ?_
 repeat'((conv=>whnf);first|intro _|apply aI|with_reducible exact vM rfl|exact⟨⟩|apply nM|apply fM)
 all_goals((try apply vM);(try simp only[vq]at*);try omega)
 all_goals first|(simp;omega)|exact Sup.of rfl
def Vj:PSp:=fun xs K=>match xs with
 | [.isl (.ints .i64 l) .none]=>VC (1≤l.length∧l.length≤1000000)∧K (.isl (.ints .i64 l) .none)
 |_=>False
theorem adD:POK Tryz.prog 102 Vj:=by
 intro xs K h;unfold Vj at h;split at h
 ·exact⟨_,h.2,Vi _ h.1.get⟩
 ·exact h.elim
theorem Sb (l:List Int) (hl:1≤l.length∧l.length≤1000000):jM Tryz.prog 102 [.isl (.ints .i64 l) .none] [] [.rsl 0 0 l.length] [.cells (.ints .i64 l) false]:=by
 refine bL (md:=1) (rf:=[7]) mixed aj aC 0 [(1,0)] Tryz.func102 (by rfl) (by rfl) (by rfl) ?_
 repeat'((conv=>whnf);first|(intro hq;(try simp only[vw]at hq);try first|exact absurd hq (by decide)|exfalso;omega)|apply aI|with_reducible exact vM rfl|exact⟨⟩|apply nM|apply fM)
 all_goals((try apply vM);(try simp only[vq]at*);try omega)
 all_goals skip
def OY:LSp:=fun xs objs K=>match xs,objs with
 | [.isl (.ints .i64 l) .none],[]=>VC (1≤l.length∧l.length≤1000000)∧K [.rsl 0 0 l.length] [.cells (.ints .i64 l) false]
 |_,_=>False
theorem Lr:LOK Tryz.prog 102 OY:=by
 intro xs objs K hk;unfold OY at hk;split at hk
 ·exact⟨_,_,hk.2,Sb _ hk.1.get⟩
 ·exact hk.elim
def oz (lim:Int) (ls:List (List Int)) (sum:Int) (gv:List Int):Nat→List (List Int)→List Int→List Int→List (List Int)
 |0,R,N,U=>if lim≤R.length∨mq ls sum N gv.length=false then R else R++[N]
 |f+1,R,N,U=>if lim≤R.length∨mq ls sum N ((gv.length-(f+1):Nat):Int)=false then R
  else if 0<gv.getD (gv.length-(f+1)) 0 then oz lim ls sum gv f R N U
  else(agr gv.length).foldl (fun R (x:Nat)=>if((x:Int)+1)∈U then R else oz lim ls sum gv f R (N.set (gv.length-(f+1)) ((x:Int)+1)) (U++[(x:Int)+1])) R
theorem HZ {α:Type} {f:List (List Int)→α→List (List Int)} {b:Nat}:∀(l:List α) (R:List (List Int)),R.length≤b→(∀R x,R.length≤b→(f R x).length≤b)→(l.foldl f R).length≤b:=by
 intro l;induction l with
 |nil=>intro R h _;exact h
 |cons x l ih=>intro R h hf;exact ih _ (hf R x h) hf
theorem H6 {lim:Int} {ls:List (List Int)} {sum:Int} {gv:List Int} {b:Nat} (hl:lim≤b):∀(f:Nat) (R:List (List Int)) (N U:List Int),R.length≤b→(oz lim ls sum gv f R N U).length≤b:=by
 intro f;induction f with
 |zero=>
  intro R N U h;unfold oz;split
  ·exact h
  ·rw[ahx,agb,af7];omega
 |succ f ih=>
  intro R N U h;unfold oz;split
  ·exact h
  ·split
   ·exact ih _ _ _ h
   ·refine HZ _ _ h fun R x hR=>?_
    split
    ·exact hR
    ·exact ih _ _ _ hR
abbrev srO (c:Int) (ls:List (List Int)) (sum:Int) (gv:List Int) (lim:Int) (N U:List Int) (R:List (List Int)):List AO:=
 [.cells (srC c ls sum gv lim (.rsl 1 0 gv.length) ((mk U:Nat):Int) (.isl (.rows .i64 R) (.own 2))) false,.cells (.ints .i64 N) false,.tok 1 R.length]
structure SrI (c:Int) (gv:List Int) (f:Nat) (N U:List Int):Prop where
 n:HY c N
 u:InM U
 fl:f≤gv.length
 z:∀j,gv.length-f≤j→j<gv.length→gv.getD j 0=0→N.getD j 0=0
def rU (f:Nat):Prop:=∀(c:Int) (ls:List (List Int)) (sum:Int) (gv:List Int) (lim:Int) (N U:List Int) (R:List (List Int)),cZ c ls sum gv→lim≤256→R.length≤256→SrI c gv f N U→
 jM Tryz.prog 103 [.rp 0 0,.int .i64 ((gv.length-f:Nat):Int)] (srO c ls sum gv lim N U R) [] (srO c ls sum gv lim N U (oz lim ls sum gv f R N U))
def ER (f:Nat):LSp:=fun xs objs K=>match xs,objs with
 | [.rp 0 0,.int .i64 i],[.cells (.pv [.int .i64 c,.isl (.rows .i64 ls) .none,.int .i64 sum,.isl (.ints .i64 gv) .none,.int .i64 lim,.rsl 1 0 n,.int .u32 u,.isl (.rows .i64 R) (.own 2)]) false,.cells (.ints .i64 N) false,.tok 1 m]=>
  ∃U:List Int,VC (n=gv.length∧m=R.length∧u=(mk U:Nat)∧i=((gv.length-f:Nat):Int)∧cZ c ls sum gv∧lim≤256∧R.length≤256∧SrI c gv f N U)∧K [] (srO c ls sum gv lim N U (oz lim ls sum gv f R N U))
 |_,_=>False
theorem H7 {f:Nat} (h:rU f):LOK Tryz.prog 103 (ER f):=by
 intro xs objs K hk;unfold ER at hk;split at hk
 ·obtain⟨U,⟨rfl,rfl,rfl,rfl,h1,h2,h3,h4⟩,hk⟩:=hk
  exact⟨_,_,hk,h _ _ _ _ _ _ _ _ h1 h2 h3 h4⟩
 ·exact hk.elim
theorem Sc (l:List Int) (hl:1≤l.length∧l.length≤1000000):jM Tryz.prog 102 [.rsl 0 0 l.length] [.cells (.ints .i64 l) false] [.isl (.ints .i64 l) .none] [.cells (.ints .i64 l) false]:=by
 have tk:aiW (0+l.length-0) (aiX 0 l)=l:=bP (by omega)
 refine bL (md:=1) (rf:=[]) mixed aj aC 1 [] Tryz.func102 (by rfl) (by rfl) (by rfl) ?_
 repeat'((conv=>whnf);first|(intro hq;(try simp only[vw]at hq);try first|exact absurd hq (by decide)|exfalso;omega)|apply aI|with_reducible exact vM rfl|exact⟨⟩|apply nM|apply fM)
 all_goals((try apply vM);(try simp only[vq]at*);try omega)
 all_goals first|exact .inl trivial|(simp;omega)|(simp;done)|skip
def Vk:LSp:=fun xs objs K=>match xs,objs with
 | [.rsl 0 0 n],[.cells (.ints .i64 l) false]=>VC (n=l.length∧1≤l.length∧l.length≤1000000)∧K [.isl (.ints .i64 l) .none] [.cells (.ints .i64 l) false]
 |_,_=>False
theorem aaG:LOK Tryz.prog 102 Vk:=by
 intro xs objs K hk;unfold Vk at hk;split at hk
 ·obtain⟨⟨rfl,h⟩,hk⟩:=hk
  exact⟨_,_,hk,Sc _ h⟩
 ·exact hk.elim
noncomputable def adE:CPT:=aA 102 (eG [] Vk) (aA 155 (jV OX) (aA 156 (aB EK) noC))
theorem BU:aV Tryz.prog adE:=ak (dF [] aaG) (ak (gW aaF) (ak (au KQ) aC))
theorem Sd:rU 0:=by
 intro c ls sum gv lim N U R h hlim hR hI;have hgl:=h.gl;have hNl:=hI.n.len;have hc:=h.c1;have hU:=gY hI.u;have tk:aiW (gv.length-0) (aiX 0 N)=N:=bP (by omega)
 have e0:((gv.length-0:Nat):Int)=gv.length:=by omega
 have hi:cZ c ls sum gv∧HY c (aiW (gv.length-0) (aiX 0 N))∧0≤((gv.length-0:Nat):Int)∧((gv.length-0:Nat):Int)≤16:=⟨h,by rw[tk];exact hI.n,by omega,by omega⟩
 have eR:∀b,mq ls sum (aiW (gv.length-0) (aiX 0 N)) ((gv.length-0:Nat):Int)=b→mq ls sum N gv.length=b:=fun b hb=>by rwa [tk]at hb
 unfold oz;by_cases hc1:lim≤R.length∨mq ls sum N gv.length=false
 ·rw[if_pos hc1]
  refine bL (md:=1) (rf:=[]) mixed aj BU 3 [] Tryz.func103 (by rfl) (by rfl) (by rfl) ?_
  repeat'((conv=>whnf);first|(intro hq;(try simp only[vw]at hq);try first|exact absurd hq (by decide)|exfalso;omega)|apply aI|with_reducible exact vM rfl|exact⟨⟩|apply nM|apply fM)
  all_goals((try apply vM);(try simp only[vq]at*);try omega)
  all_goals(try first|exact hi|(exfalso;rename_i hq;have:=eR _ hq;rw[this]at hc1;simp at hc1;omega))
  all_goals skip
 ·rw[if_neg hc1]
  refine bL (md:=1) (rf:=[]) mixed aj BU 3 [] Tryz.func103 (by rfl) (by rfl) (by rfl) ?_
  repeat'((conv=>whnf);first|(intro hq;(try simp only[vw]at hq);try first|exact absurd hq (by decide)|exfalso;omega)|apply aI|with_reducible exact vM rfl|exact⟨⟩|apply nM|apply fM)
  all_goals((try apply vM);(try simp only[vq]at*);try omega)
  all_goals(try first|exact hi|(rw[tk];omega)|omega|(exfalso;omega)|(exfalso;rename_i hq;exact hc1 (.inr (eR _ hq))))
  repeat'((conv=>whnf);first|(intro hq;(try simp only[vw]at hq);try first|exact absurd hq (by decide)|exfalso;omega)|apply aI|with_reducible exact vM rfl|exact⟨⟩|apply nM|apply fM)
  all_goals((try apply vM);(try simp only[vq]at*);try omega)
  all_goals(rw[ahx,agb,af7];try omega)
noncomputable def afC (f:Nat):CPT:=aA 103 (eG [] (ER f)) adE
theorem xB {f:Nat} (h:rU f):aV Tryz.prog (afC f):=ak (dF [] (H7 h)) BU
theorem Vl {l:List Int} (h:InM l) {x:Int} (hx:0≤x∧x≤31):BD (mk l) x=decide (x∈l):=by
 unfold BD;rw[QY h hx];by_cases hm:x∈l<;>simp[hm]
theorem Vm {l:List Int} {x:Int} (h:x∉l):dw (l++[x]) x=l:=by
 unfold dw;rw[ajh,ajq.2 (fun y hy=>by simp;rintro rfl;exact h hy)]
 simp
theorem Si {f:Nat} (ih:rU f):rU (f+1):=by
 intro c ls sum gv lim N U R h hlim hR hI;have hcp:=xB ih;have hgl:=h.gl;have hNl:=hI.n.len;have hc:=h.c1;have hU:=gY hI.u;have hfl:=hI.fl;have tk:aiW (gv.length-0) (aiX 0 N)=N:=bP (by omega)
 have e0:((gv.length-(f+1):Nat):Int)+1=((gv.length-f:Nat):Int):=by omega
 obtain⟨i,hi0⟩:∃i,gv.length-(f+1)=i:=⟨_,rfl⟩;have hii:i<gv.length:=by omega
 have hi:cZ c ls sum gv∧HY c (aiW (gv.length-0) (aiX 0 N))∧0≤(i:Int)∧(i:Int)≤16:=⟨h,by rw[tk];exact hI.n,by omega,by omega⟩
 have eR:∀b,mq ls sum (aiW (gv.length-0) (aiX 0 N)) (i:Int)=b→mq ls sum N i=b:=fun b hb=>by rwa [tk]at hb
 have hI':SrI c gv f N U:=⟨hI.n,hI.u,by omega,fun j h1 h2 h3=>hI.z j (by omega) h2 h3⟩
 unfold oz;rw[hi0]at e0⊢;by_cases hc1:lim≤R.length∨mq ls sum N i=false
 ·rw[if_pos hc1]
  refine bL (md:=1) (rf:=[]) mixed aj (xB ih) 3 [] Tryz.func103 (by rfl) (by rfl) (by rfl) ?_
  repeat'((conv=>whnf);first|(intro hq;(try simp only[vw]at hq);try first|exact absurd hq (by decide)|exfalso;omega)|apply aI|with_reducible exact vM rfl|exact⟨⟩|apply nM|apply fM)
  all_goals((try apply vM);(try simp only[vq]at*);try omega)
  all_goals(try first|exact hi|(exfalso;omega)|(exfalso;have:=eR true (by assumption);rw[this]at hc1;simp at hc1;omega))
  all_goals skip
 rw[if_neg hc1];by_cases hg:0<gv.getD i 0
 ·rw[if_pos hg]
  refine bL (md:=1) (rf:=[]) mixed aj (xB ih) 3 [] Tryz.func103 (by rfl) (by rfl) (by rfl) ?_
  repeat'((conv=>whnf);first|refine Exists.intro (U) ?_|(intro hq;(try simp only[vw]at hq);try first|exact absurd hq (by decide)|exfalso;omega)|apply aI|with_reducible exact vM rfl|exact⟨⟩|apply nM|apply fM)
  all_goals((try apply vM);(try simp only[vq]at*);try omega)
  all_goals(try first|exact hi|(exfalso;omega)|(exfalso;rename_i hq;exact hc1 (.inr (eR _ hq)))|exact⟨rfl,rfl,rfl,e0,h,hlim,hR,hI'⟩|exact⟨e0,h,hlim,hR,hI'⟩|(exfalso;exact hq hg))
 rw[if_neg hg];refine bL (md:=1) (rf:=[]) mixed aj (xB ih) 3 [] Tryz.func103 (by rfl) (by rfl) (by rfl) ?_
 repeat'((conv=>whnf);first|(intro hq;(try simp only[vw]at hq);try first|exact absurd hq (by decide)|exfalso;omega)|apply aI|with_reducible exact vM rfl|exact⟨⟩|apply nM|apply fM)
 all_goals((try apply vM);(try simp only[vq]at*);try omega)
 all_goals(try first|exact hi|(exfalso;omega)|(exfalso;rename_i hq;exact hc1 (.inr (eR _ hq)))|(exfalso;exact hg hq))
 conv=>whnf
 have hz:=hI.z i (by omega) hii (by have:=h.gr _ (fP (d:=0) hii);omega)
 have hs0:∀v:Int,(N.set i v).set i 0=N:=fun v=>by
  rw[List.set_set];refine aja (by simp) fun j h1 h2=>?_
  rw[ajb];split
  ·rename_i e;subst e
   rw[agt,agy (by omega)]at hz
   exact hz.symm
  ·rfl
 obtain⟨F,hF⟩:∃F:List (List Int)→Nat→List (List Int),F=fun R (x:Nat)=>if((x:Int)+1)∈U then R else oz lim ls sum gv f R (N.set i ((x:Int)+1)) (U++[(x:Int)+1]):=⟨_,rfl⟩;have hFs:∀x,(agr (x+1)).foldl F R=F ((agr x).foldl F R) x:=fun x=>by rw[ajf,aiF];rfl
 have hFl:∀x,((agr x).foldl F R).length≤256:=fun x=>HZ _ _ hR fun R x hR=>by
  rw[hF];simp only;split
  ·exact hR
  ·exact H6 (by omega) _ _ _ _ hR
 rw[←hF];refine aJ (X:=Nat) (fun x=>x≤gv.length) (fun x=>[(4,.int .i64 ((x:Int)+1))]) (fun x=>[(0,.cells (srC c ls sum gv lim (.rsl 1 0 gv.length) ((mk U:Nat):Int) (.isl (.rows .i64 ((agr x).foldl F R)) (.own 2))) false),(2,.tok 1 ((agr x).foldl F R).length)]) (fun x=>gv.length-x) 0 ⟨aG,mixed,aj,hcp,aM⟩ (by rfl) (by omega) ?_ ?_
 ·repeat'((conv=>whnf);first|intro _|apply aI|with_reducible exact vM rfl|exact⟨⟩|apply nM|apply fM)
  all_goals((try apply vM);(try simp only[vq]at*);try omega)
  all_goals skip
 intro x hx;by_cases hlt:x<gv.length
 ·have hx31:0≤(x:Int)+1∧(x:Int)+1≤31:=by omega
  have hhas:=Vl hI.u hx31;have hRx:=hFl x;have hFx:=hFs x;by_cases hm:((x:Int)+1)∈U
  ·rw[decide_eq_true hm]at hhas
   have hstep:F ((agr x).foldl F R) x=(agr x).foldl F R:=by rw[hF];exact if_pos hm
   rw[hstep]at hFx
   repeat'((conv=>whnf);first|refine Exists.intro (U) ?_|(intro hq;(try simp only[vw]at hq);try first|exact absurd hq (by decide)|exfalso;omega)|apply aI|with_reducible exact vM rfl|exact⟨⟩|apply nM|apply fM)
   all_goals((try apply vM);(try simp only[vq]at*);try omega)
   all_goals(try(exfalso;rw[hhas]at hq;cases hq;done))
   refine⟨x+1,[],⟨by omega,by omega⟩,?_⟩
   rw[hFx]
   repeat'((conv=>whnf);first|intro _|apply aI|with_reducible exact vM rfl|exact⟨⟩|apply nM|apply fM)
   all_goals((try apply vM);(try simp only[vq]at*);try omega)
   all_goals skip
  ·rw[decide_eq_false hm]at hhas
   have hstep:F ((agr x).foldl F R) x=oz lim ls sum gv f ((agr x).foldl F R) (N.set i ((x:Int)+1)) (U++[(x:Int)+1]):=by rw[hF];exact if_neg hm
   rw[hstep]at hFx;have hor:=NT hI.u hx31;have hU1:InM (U++[(x:Int)+1]):=fun y hy=>by
    rcases agu.1 hy with h|h
    ·exact hI.u y h
    ·simp at h;subst h;exact hx31
   have hdel:=rF hU1 hx31;rw[Vm hm]at hdel;have hU1l:=gY hU1;have hI1:SrI c gv f (N.set i ((x:Int)+1)) (U++[(x:Int)+1]):=by
    refine⟨⟨by rw[agT];exact hNl,fun y hy=>?_⟩,hU1,by omega,fun j h1 h2 h3=>?_⟩
    ·rcases List.mem_or_eq_of_mem_set hy with h|rfl
     ·exact hI.n.rng y h
     ·omega
    ·have:=hI.z j (by omega) h2 h3
     rw[agt,agU (by omega),←agt];exact this
   have hsb:=kU ((x:Int)+1).toNat (by omega)
   have hR2:=H6 (lim:=lim) (ls:=ls) (sum:=sum) (gv:=gv) (b:=256) (by omega) f _ (N.set i ((x:Int)+1)) (U++[(x:Int)+1]) hRx
   obtain⟨U1,hU1e⟩:∃U1,U1=U++[(x:Int)+1]:=⟨_,rfl⟩;rw[←hU1e]at hor hU1 hdel hU1l hI1 hR2 hFx
   repeat'((conv=>whnf);first|refine Exists.intro (U1) ?_|(intro hq;(try simp only[vw]at hq);try first|exact absurd hq (by decide)|exfalso;omega)|apply aI|with_reducible exact vM rfl|exact⟨⟩|apply nM|apply fM)
   all_goals((try apply vM);(try simp only[vq]at*);try omega)
   all_goals(try(exfalso;rw[hhas]at hq;cases hq;done))
   all_goals(try first|exact⟨hor,e0,h,hlim,hRx,hI1⟩|(rw[agT];omega))
   refine⟨x+1,[],⟨by omega,by omega⟩,?_⟩
   rw[hFx];have hs1:=hs0 ((x:Int)+1)
   repeat'((conv=>whnf);first|intro _|apply aI|with_reducible exact vM rfl|exact⟨⟩|apply nM|apply fM)
   all_goals((try apply vM);(try simp only[vq]at*);try omega)
   all_goals first|exact hdel|exact hs1|skip
 ·have e:x=gv.length:=by omega
  subst e
  repeat'((conv=>whnf);first|(intro hq;(try simp only[vw]at hq);try first|exact absurd hq (by decide)|exfalso;omega)|apply aI|with_reducible exact vM rfl|exact⟨⟩|apply nM|apply fM)
  all_goals((try apply vM);(try simp only[vq]at*);try omega)
  all_goals skip
theorem Vn:∀f,rU f:=fun f=>by
 induction f with
 |zero=>exact Sd
 |succ f ih=>exact Si ih
def zeN (l:List Int):Nat:=(l.filter fun x=>decide (x=0)).length
theorem aaH (l:List Int) (x:Int):zeN (l++[x])=if x=0 then zeN l+1 else zeN l:=by
 unfold zeN;rw[ajh,ahx];by_cases h:x=0
 ·subst h;rfl
 ·rw[if_neg h,aji,if_neg (by simpa using h)];rfl
theorem adF (l:List Int):zeN l≤l.length:=ai1 _ _
def nD (lim:Int):Int:=if lim<0∨256<lim then 3 else 0
def ES (c:Int) (ls:List (List Int)) (sum:Int) (gv:List Int) (lim:Int):List (List Int) × Int:=
 if aL [pzE c ls sum gv,nD lim]≠0 then([],aL [pzE c ls sum gv,nD lim])else if 9<zeN gv then([],20)else(oz lim ls sum gv gv.length [] gv gv,0)
noncomputable def afD (n:Nat):CPT:=aA 22 (aB l9) (aA 88 (aB jE) (aA 89 (aB gX) (aA 102 (eG [] OY) (aA 103 (eG [] (ER n)) noC))))
theorem aaI (n:Nat):aV Tryz.prog (afD n):=ak (au lC) (ak (au iX) (ak (au jZ) (ak (dF [] Lr) (ak (dF [] (H7 (Vn n))) aC))))
theorem Sj (e:Int):Sup (bG [PV.nils,PV.int .i64 e]) (.tup [.isl (.rows .i64 []) .none,.int .i64 e]):=by all_goals(refine Sup.via ?_;repeat'((conv=>whnf);first|intro _|apply aI|with_reducible exact vM rfl|exact⟨⟩|apply nM|apply fM);all_goals((try apply vM);(try simp only[vq]at*);try omega);all_goals(try(simp[CL.sub];done)))
theorem BX (c:Int) (ls:List (List Int)) (sum:Int) (gv:List Int) (lim:Int) (h:bH ls) (hg:gv.length≤5000):aF Tryz.prog 39 [pzV c ls sum gv,.int .i64 lim] (.tup [.isl (.rows .i64 (ES c ls sum gv lim).1) .none,.int .i64 (ES c ls sum gv lim).2]):=by
 have hcp:=aaI gv.length;have hA:lim<0→3=nD lim:=fun hl=>by unfold nD;rw[if_pos (.inl hl)]
 have hB:¬lim<0→(if 256<lim then 3 else 0)=nD lim:=fun hl=>by
  unfold nD;by_cases h2:256<lim
  ·rw[if_pos h2,if_pos (.inr h2)]
  ·rw[if_neg h2,if_neg (by omega)]
 unfold ES;by_cases he:aL [pzE c ls sum gv,nD lim]=0
 case neg=>
  rw[if_pos he];have hk:∀x,x=nD lim→Sup (bG [PV.nils,PV.int .i64 (aL [pzE c ls sum gv,x])]) (.tup [.isl (.rows .i64 []) .none,.int .i64 (aL [pzE c ls sum gv,nD lim])]):=fun x hx=>by rw[hx];exact Sj _
  have hk2:∀x,x=nD lim→aL [pzE c ls sum gv,x]≠0:=fun x hx=>by rw[hx];exact he
  refine bR (md:=1) (rf:=[]) mixed aj hcp Tryz.func39 (by rfl) (by rfl) (by rfl) ?_
  repeat'((conv=>whnf);first|(intro hq;(try simp only[vw]at hq);try first|exact absurd hq (by decide)|exfalso;omega)|apply aI|with_reducible exact vM rfl|exact⟨⟩|apply nM|apply fM)
  all_goals((try apply vM);(try simp only[vq]at*);try omega)
  all_goals first|exact⟨h,hg⟩|exact hk _ (hB (by omega))|(rw[if_pos trivial];exact hk _ (hA (by omega)))|exact hk _ (hA (by omega))|(exfalso;exact ‹¬aL [_,if 256<lim then 3 else 0]≠0› (hk2 _ (hB (by omega))))|(exfalso;exact ‹¬aL [_,3]≠0› (hk2 _ (hA (by omega))))|skip
 rw[if_neg (by rw[he];simp)]
 obtain⟨h1,h2⟩:=yS he;have hp:=cZ.of h1;have hgl:=hp.gl;have hc:=hp.c1;have hl:0≤lim∧lim≤256:=by
  unfold nD at h2;by_cases e:lim<0∨256<lim
  ·rw[if_pos e]at h2;cases h2
  ·omega
 have hk2:∀x,x=nD lim→aL [pzE c ls sum gv,x]=0:=fun x hx=>by rw[hx];exact he
 refine bR (md:=1) (rf:=[]) mixed aj hcp Tryz.func39 (by rfl) (by rfl) (by rfl) ?_
 repeat'((conv=>whnf);first|(intro hq;(try simp only[vw]at hq);try first|exact absurd hq (by decide)|exfalso;omega)|apply aI|with_reducible exact vM rfl|exact⟨⟩|apply nM|apply fM)
 all_goals((try apply vM);(try simp only[vq]at*);try omega)
 all_goals(try first|exact⟨h,hg⟩|(exfalso;omega)|(exfalso;exact ‹aL [_,_]≠0› (hk2 _ (by unfold nD;(repeat' split)<;>first|rfl|(exfalso;omega)|(exfalso;exact absurd trivial ‹¬True›)))))
 conv=>whnf
 refine aJ (X:=Nat) (fun k=>k≤gv.length) (fun k=>[(30,.int .i64 k),(7,.int .i64 (zeN (gv.take k):Nat))]) (fun k=>[]) (fun k=>gv.length-k) 0 ⟨aG,mixed,aj,hcp,aM⟩ (by rfl) (by omega) ?_ ?_
 ·repeat'((conv=>whnf);first|intro _|apply aI|with_reducible exact vM rfl|exact⟨⟩|apply nM|apply fM)
  all_goals((try apply vM);(try simp only[vq]at*);try omega)
  all_goals skip
 intro k hk;have hzl:=adF (gv.take k);rw[ag6]at hzl;by_cases hlt:k<gv.length
 ·have hza:zeN (gv.take (k+1))=if gv.getD k 0=0 then zeN (gv.take k)+1 else zeN (gv.take k):=by rw[bX hlt,aaH]
  repeat'((conv=>whnf);first|(intro hq;(try simp only[vw]at hq);try first|exact absurd hq (by decide)|exfalso;omega)|apply aI|with_reducible exact vM rfl|exact⟨⟩|apply nM|apply fM)
  all_goals((try apply vM);(try simp only[vq]at*);try omega)
  all_goals(try omega)
  ·refine⟨k+1,[],⟨by omega,by omega⟩,?_⟩
   rw[hza,if_pos ‹gv.getD k 0=0›]
   repeat'((conv=>whnf);first|intro _|apply aI|with_reducible exact vM rfl|exact⟨⟩|apply nM|apply fM)
   all_goals((try apply vM);(try simp only[vq]at*);try omega)
   all_goals skip
  ·refine⟨k+1,[],⟨by omega,by omega⟩,?_⟩
   rw[hza,if_neg ‹¬gv.getD k 0=0›]
   repeat'((conv=>whnf);first|intro _|apply aI|with_reducible exact vM rfl|exact⟨⟩|apply nM|apply fM)
   all_goals((try apply vM);(try simp only[vq]at*);try omega)
   all_goals skip
 have e:k=gv.length:=by omega
 subst e;rw[ail]at*;by_cases hz9:9<zeN gv
 ·rw[if_pos hz9]
  repeat'((conv=>whnf);first|(intro hq;(try simp only[vw]at hq);try first|exact absurd hq (by decide)|exfalso;omega)|apply aI|with_reducible exact vM rfl|exact⟨⟩|apply nM|apply fM)
  all_goals((try apply vM);(try simp only[vq]at*);try omega)
  all_goals first|exact Sj _|(exfalso;omega)|skip
 rw[if_neg hz9]
 repeat'((conv=>whnf);first|(intro hq;(try simp only[vw]at hq);try first|exact absurd hq (by decide)|exfalso;omega)|apply aI|with_reducible exact vM rfl|exact⟨⟩|apply nM|apply fM)
 all_goals((try apply vM);(try simp only[vq]at*);try omega)
 all_goals(try omega)
 conv=>whnf
 refine aJ (X:=Nat) (fun k=>k≤gv.length) (fun k=>[(51,.int .i64 k)]) (fun k=>[(18,.cells (srC c ls sum gv lim (.rsl 14 0 gv.length) ((mk (gv.take k):Nat):Int) (.isl (.rows .i64 []) (.own 22))) false),(22,.tok 1 0)]) (fun k=>gv.length-k) 0 ⟨aG,mixed,aj,hcp,aM⟩ (by rfl) (by omega) ?_ ?_
 ·repeat'((conv=>whnf);first|intro _|apply aI|with_reducible exact vM rfl|exact⟨⟩|apply nM|apply fM)
  all_goals((try apply vM);(try simp only[vq]at*);try omega)
  all_goals first|rfl|skip
 intro k hk;have hInM:∀j,InM (gv.take j):=fun j y hy=>by have:=hp.gr y (List.mem_of_mem_take hy);omega
 have hmk:=gY (hInM k);by_cases hlt:k<gv.length
 ·have hx:=hp.gr (gv.getD k 0) (fP hlt)
  have hsb:=kU (gv.getD k 0).toNat (by omega)
  have hor:=NT (hInM k) (show 0≤gv.getD k 0∧gv.getD k 0≤31 by omega)
  rw[←bX hlt]at hor
  repeat'((conv=>whnf);first|(intro hq;(try simp only[vw]at hq);try first|exact absurd hq (by decide)|exfalso;omega)|apply aI|with_reducible exact vM rfl|exact⟨⟩|apply nM|apply fM)
  all_goals((try apply vM);(try simp only[vq]at*);try omega)
  all_goals(try omega)
  refine⟨k+1,[],⟨by omega,by omega⟩,?_⟩
  repeat'((conv=>whnf);first|intro _|apply aI|with_reducible exact vM rfl|exact⟨⟩|apply nM|apply fM)
  all_goals((try apply vM);(try simp only[vq]at*);try omega)
  all_goals exact hor
 have e:k=gv.length:=by omega
 subst e;rw[ail]at*;have e0:(0:Int)=((gv.length-gv.length:Nat):Int):=by omega
 have hI:SrI c gv gv.length gv gv:=⟨⟨by omega,fun x hx=>by have:=hp.gr x hx;omega⟩,fun x hx=>by have:=hp.gr x hx;omega,agh _,fun j _ _ h=>h⟩
 repeat'((conv=>whnf);first|refine Exists.intro (gv) ?_|(intro hq;(try simp only[vw]at hq);try first|exact absurd hq (by decide)|exfalso;omega)|apply aI|with_reducible exact vM rfl|exact⟨⟩|apply nM|apply fM)
 all_goals((try apply vM);(try simp only[vq]at*);try omega)
 ·exact⟨e0,hp,hl.2,by omega,hI⟩
 ·exact Sup.of rfl
def adG (C1 C2:CT):CT:=fun args n H K=>∃b:Bool,match b with
 |true=>C1 args n H K
 |false=>C2 args n H K
theorem aaJ {P:Program} {g:FuncId} {C1 C2:CT} (h1:COK P g C1) (h2:COK P g C2):COK P g (adG C1 C2):=by
 intro args n H K hk;obtain⟨b,hk⟩:=hk;cases b with
 |true=>exact h1 _ _ _ _ hk
 |false=>exact h2 _ _ _ _ hk
noncomputable def afE:CPT:=aA 102 (adG (eG [] OY) (aB Vj)) noC
theorem Ls:aV Tryz.prog afE:=ak (aaJ (dF [] Lr) (au adD)) aC
theorem J2 (c:Int) (ls:List (List Int)) (sum:Int) (gv:List Int) (hg:1≤gv.length∧gv.length≤1000000) (hl:ls.length≤5000) (hn:∀i,i<ls.length→1≤(ls.getD i []).length∧(ls.getD i []).length≤5000):
 jM Tryz.prog 124 [pzV c ls sum gv] [] [.agg [.int .i64 c,.isl (.rows .i64 ls) .none,.int .i64 sum,.rsl 0 0 gv.length]] [.cells (.ints .i64 gv) false]:=by
 refine bL (md:=1) (rf:=[]) mixed aj Ls 0 [(2,0)] Tryz.func124 (by rfl) (by rfl) (by rfl) ?_
 repeat'((conv=>whnf);first|refine Exists.intro (true) ?_|(intro hq;(try simp only[vw]at hq);try first|exact absurd hq (by decide)|exfalso;omega)|apply aI|with_reducible exact vM rfl|exact⟨⟩|apply nM|apply fM)
 all_goals((try apply vM);(try simp only[vq]at*);try omega)
 conv=>whnf
 refine aJ (X:=Nat) (fun k=>k≤ls.length) (fun k=>[(20,.int .i64 k)]) (fun k=>[(6,.cells (.pv [.int .i64 c,.isl (.rows .i64 (ls.take k)) (.own 12),.int .i64 sum,.rsl 2 0 gv.length]) false),(12,.tok 1 k)]) (fun k=>ls.length-k) 0 ⟨aG,mixed,aj,Ls,aM⟩ (by rfl) (by omega) ?_ ?_
 ·repeat'((conv=>whnf);first|intro _|apply aI|with_reducible exact vM rfl|exact⟨⟩|apply nM|apply fM)
  all_goals((try apply vM);(try simp only[vq]at*);try omega)
  all_goals skip
 intro k hk;by_cases hlt:k<ls.length
 ·have hl1:=hn k hlt
  have e1:(ls.take k).length=k:=by rw[ag6];omega
  have e2:ls.take k++[ls.getD k []]=ls.take (k+1):=by
   rw[aij,agt,agy hlt];rfl
  repeat'((conv=>whnf);first|refine Exists.intro (false) ?_|(intro hq;(try simp only[vw]at hq);try first|exact absurd hq (by decide)|exfalso;omega)|apply aI|with_reducible exact vM rfl|exact⟨⟩|apply nM|apply fM)
  all_goals((try apply vM);(try simp only[vq]at*);try omega)
  all_goals(try(simp only[ahx,ag6,agb,af7];omega))
  all_goals(try omega)
  refine⟨k+1,[],⟨by omega,by omega⟩,?_⟩
  repeat'((conv=>whnf);first|intro _|apply aI|with_reducible exact vM rfl|exact⟨⟩|apply nM|apply fM)
  all_goals((try apply vM);(try simp only[vq]at*);try omega)
  all_goals(try(rw[e2]))
 ·have e:k=ls.length:=by omega
  subst e;rw[ail]
  repeat'((conv=>whnf);first|(intro hq;(try simp only[vw]at hq);try first|exact absurd hq (by decide)|exfalso;omega)|apply aI|with_reducible exact vM rfl|exact⟨⟩|apply nM|apply fM)
  all_goals((try apply vM);(try simp only[vq]at*);try omega)
  all_goals skip
theorem Sk (L0:List Int) (hl:L0.length≤1000000):nK Tryz.prog 231 [] [.ip (.pv [.isl (.ints .i64 L0) .none]) 0] 1 (L0.map (PV.int .i64)):=by
 refine lq (md:=1) (rf:=[]) mixed aj Tryz.func231 (by rfl) (by rfl) (by rfl) fun G go b hY=>⟨_,aC,?_⟩
 obtain⟨L,hL⟩:∃L,L=L0.map (PV.int .i64):=⟨_,rfl⟩;have hlen:L.length=L0.length:=by simp[hL]
 have hget:∀i,i<L0.length→L[i]? =some (.int .i64 (L0.getD i 0)):=fun i hi=>by simp[hL,hi]
 rw[←hL]at hY⊢;have W:Walk Tryz.prog none kL tab.get noC (tJ b 1 G go L):=⟨aG,mixed,aj,aC,hY _ _⟩;have stop:∀i,i<L0.length→GoTo go L i→go (L.take i++[.int .i64 (L0.getD i 0)])=false→L.take i++[.int .i64 (L0.getD i 0)]=iL go [] L:=fun i hi hg h=>by
  rw[dZ (hget i hi)]at h⊢;rw[vB (by omega) hg h]
 have cont:∀i,i<L0.length→GoTo go L i→go (L.take i++[.int .i64 (L0.getD i 0)])=true→GoTo go L (i+1):=fun i hi hg h=>hg.succ (by rw[←dZ (hget i hi)];exact h)
 have done:GoTo go L L0.length→L.take L0.length=iL go [] L:=fun hg=>by rw[yu (by omega) hg,←hlen];simp
 repeat'((conv=>whnf);first|intro _|apply aI|with_reducible exact vM rfl|exact⟨⟩|apply nM|apply fM)
 all_goals((try apply vM);(try simp only[vq]at*);try omega)
 conv=>whnf
 refine aJ (X:=Nat) (fun k=>k≤L0.length∧GoTo go L k) (fun k=>[(7,.int .i64 k),(4,.any)]) (fun k=>[(0,.ext G (L.take k))]) (fun k=>L0.length-k) 0 W (by rfl) ⟨by omega,.zero⟩ ?_ ?_
 ·repeat'((conv=>whnf);first|intro _|apply aI|with_reducible exact vM rfl|exact⟨⟩|apply nM|apply fM)
  all_goals((try apply vM);(try simp only[vq]at*);try omega)
  all_goals simp
 intro k hk;obtain⟨hk1,hk3⟩:=hk;by_cases hlt:k<L0.length
 ·repeat'((conv=>whnf);first|intro _|apply aI|with_reducible exact vM rfl|exact⟨⟩|apply nM|apply fM)
  all_goals((try apply vM);(try simp only[vq]at*);try omega)
  ·exact QO (hget k hlt) hk3
  ·exact stop k hlt hk3 (by simp_all)
  ·rename_i hgo
   refine⟨k+1,[],⟨⟨by omega,cont k hlt hk3 (by simpa using hgo)⟩,by omega⟩,?_⟩
   repeat'((conv=>whnf);first|intro _|apply aI|with_reducible exact vM rfl|exact⟨⟩|apply nM|apply fM)
   all_goals((try apply vM);(try simp only[vq]at*);try omega)
   exact dZ (hget k hlt)
 ·have:L0.length=k:=by omega
  subst this
  repeat'((conv=>whnf);first|intro _|apply aI|with_reducible exact vM rfl|exact⟨⟩|apply nM|apply fM)
  all_goals((try apply vM);(try simp only[vq]at*);try omega)
  exact done hk3
def hsA (L:List Int):Nat→List (Nat × AO)
 |0=>[]
 |i+1=>[(0,.cells (.pv [.rsl 5 0 (i+1)]) false),(5,.cells (.ints .i64 (L.take (i+1))) false)]
theorem BZ (L:List Int) (hl:1≤L.length∧L.length≤1000000):jM Tryz.prog 188 [.nils,.fn (.func 231) [] [.ip (.pv [.isl (.ints .i64 L) .none]) 0]] [] [.rsl 0 0 L.length] [.cells (.ints .i64 L) false]:=by
 refine bL (md:=1) (rf:=[11]) mixed aj aC 0 [(5,0)] Tryz.func188 (by rfl) (by rfl) (by rfl) ?_
 repeat'((conv=>whnf);first|intro _|apply aI|with_reducible exact vM rfl|exact⟨⟩|apply nM|apply fM)
 all_goals((try apply vM);(try simp only[vq]at*);try omega)
 conv=>whnf
 refine ji aG mixed aj aC (fun r=>aM) (fs:=[]) (cs:=[.ip (.pv [.isl (.ints .i64 L) .none]) 0]) (L.map (PV.int .i64)) (fun _=>true) (hsA L) (by rfl) (by rfl) (by rfl) (Sk L hl.2) (by rfl) (by rfl) (by rfl) (by rfl) ?_ ?_ ?_
 ·repeat'((conv=>whnf);first|intro _|apply aI|with_reducible exact vM rfl|exact⟨⟩|apply nM|apply fM)
  all_goals((try apply vM);(try simp only[vq]at*);try omega)
 ·intro hall
  obtain⟨m,hm⟩:∃m,L.length=m+1:=⟨L.length-1,by omega⟩
  have ht:L.take (m+1)=L:=by rw[←hm,ail]
  rw[aif,hm]
  repeat'((conv=>whnf);first|intro _|apply aI|with_reducible exact vM rfl|exact⟨⟩|apply nM|apply fM)
  all_goals((try apply vM);(try simp only[vq]at*);try omega)
  all_goals(try rw[ht])
 ·intro i x hx hall lp
  have hx':i<L.length∧x=.int .i64 (L.getD i 0):=by
   rw[ahe]at hx;cases h:L[i]? with
   |none=>rw[h]at hx;cases hx
   |some y=>
    rw[h]at hx;cases hx
    have:=(List.getElem?_eq_some_iff.1 h).1;exact⟨this,by rw[agt,h];rfl⟩
  obtain⟨hi,rfl⟩:=hx';cases i with
  |zero=>
   have e1:[L.getD 0 0]=L.take 1:=by
    cases L with
    |nil=>simp at hi
    |cons a r=>rfl
   repeat'((conv=>whnf);first|intro _|apply aI|with_reducible exact vM rfl|exact⟨⟩|apply nM|apply fM)
   all_goals((try apply vM);(try simp only[vq]at*);try omega)
   refine⟨[(2,5)],?_⟩
   repeat'((conv=>whnf);first|intro _|apply aI|with_reducible exact vM rfl|exact⟨⟩|apply nM|apply fM)
   all_goals((try apply vM);(try simp only[vq]at*);try omega)
   all_goals(try(rw[e1]))
  |succ i=>
   have e1:(L.take (i+1)).length=i+1:=by rw[ag6];omega
   have e2:aiW (i+1-0) (aiX 0 (aiW (i+1) L))++[L.getD (i+1) 0]=L.take (i+1+1):=by
    rw[aiY,aiZ,List.take_take,Nat.min_self,aij (i:=i+1),agt,agy hi];rfl
   repeat'((conv=>whnf);first|intro _|apply aI|with_reducible exact vM rfl|exact⟨⟩|apply nM|apply fM)
   all_goals((try apply vM);(try simp only[vq]at*);try omega)
   all_goals(try(rw[ag6];omega))
   refine⟨[(2,5)],?_⟩
   repeat'((conv=>whnf);first|intro _|apply aI|with_reducible exact vM rfl|exact⟨⟩|apply nM|apply fM)
   all_goals((try apply vM);(try simp only[vq]at*);try omega)
   all_goals(try(rw[e2]))
def OZ:LSp:=fun xs objs K=>match xs,objs with
 | [.nils,.fn (.func f) [] [.ip (.pv [.isl (.ints .i64 L) .none]) 0]],[]=>VC (f=231∧1≤L.length∧L.length≤1000000)∧K [.rsl 0 0 L.length] [.cells (.ints .i64 L) false]
 |_,_=>False
theorem aaK:LOK Tryz.prog 188 OZ:=by
 intro xs objs K hk;unfold OZ at hk;split at hk
 ·obtain⟨⟨rfl,h⟩,hk⟩:=hk
  exact⟨_,_,hk,BZ _ h⟩
 ·exact hk.elim
def H8:LSp:=fun xs objs K=>match xs,objs with
 | [.fn (.func f) [] [.ip (.pv [.isl (.ints .i64 L) .none]) 0]],[]=>VC (f=231∧1≤L.length∧L.length≤1000000)∧K [.rsl 0 0 L.length] [.cells (.ints .i64 L) false]
 |_,_=>False
noncomputable def afF:CPT:=aA 188 (eG [] OZ) noC
theorem aaL:aV Tryz.prog afF:=ak (dF [] aaK) aC
theorem H9 (L:List Int) (hl:1≤L.length∧L.length≤1000000):jM Tryz.prog 148 [.fn (.func 231) [] [.ip (.pv [.isl (.ints .i64 L) .none]) 0]] [] [.rsl 0 0 L.length] [.cells (.ints .i64 L) false]:=by
 refine bL (md:=1) (rf:=[]) mixed aj aaL 0 [(0,0)] Tryz.func148 (by rfl) (by rfl) (by rfl) ?_
 repeat'((conv=>whnf);first|intro _|apply aI|with_reducible exact vM rfl|exact⟨⟩|apply nM|apply fM)
 all_goals((try apply vM);(try simp only[vq]at*);try omega)
 all_goals trace_state
theorem Vo:LOK Tryz.prog 148 H8:=by
 intro xs objs K hk;unfold H8 at hk;split at hk
 ·obtain⟨⟨rfl,h⟩,hk⟩:=hk
  exact⟨_,_,hk,H9 _ h⟩
 ·exact hk.elim
theorem aaM:COK Tryz.prog 219 zX:=QE (enters' Tryz.func219 (by rfl) (by rfl)) Go.Proofs.Tryz.slices_Sort_int
noncomputable def afG:CPT:=aA 148 (eG [] H8) (aA 219 zX noC)
theorem aaN:aV Tryz.prog afG:=ak (dF [] Vo) (ak aaM aC)
theorem J3 (L:List Int) (hl:1≤L.length∧L.length≤1000000):aF Tryz.prog 204 [.fn (.func 231) [] [.ip (.pv [.isl (.ints .i64 L) .none]) 0]] (.isl (.ints .i64 (d9 L)) .none):=by
 have e:=jU L;refine av (md:=1) (rf:=[]) mixed aj aaN Tryz.func204 (by rfl) (by rfl) (by rfl) ?_
 repeat'((conv=>whnf);first|intro _|apply aI|with_reducible exact vM rfl|exact⟨⟩|apply nM|apply fM)
 all_goals((try apply vM);(try simp only[vq]at*);try omega)
 all_goals(refine Sup.via ?_;repeat'((conv=>whnf);first|intro _|apply aI|with_reducible exact vM rfl|exact⟨⟩|apply nM|apply fM);all_goals((try apply vM);(try simp only[vq]at*);try omega);all_goals(try(simp[CL.sub];done)))
 all_goals(simp only[CL.sub,aiY,aiZ];rw[aje (by omega)])
def Ca:PSp:=fun xs K=>match xs with
 | [.fn (.func f) [] [.ip (.pv [.isl (.ints .i64 L) .none]) 0]]=>VC (f=231∧1≤L.length∧L.length≤1000000)∧K (.isl (.ints .i64 (d9 L)) .none)
 |_=>False
theorem Sl:POK Tryz.prog 204 Ca:=by
 intro xs K hk;unfold Ca at hk;split at hk
 ·obtain⟨⟨rfl,h⟩,hk⟩:=hk
  exact⟨_,hk,J3 _ h⟩
 ·exact hk.elim
theorem J4 (l:CL):aF Tryz.prog 205 [.isl l .none] (.fn (.func 231) [] [.ip (.pv [.isl l .none]) 0]):=by
 refine av (md:=1) (rf:=[]) mixed aj aC Tryz.func205 (by rfl) (by rfl) (by rfl) ?_
 repeat'((conv=>whnf);first|intro _|apply aI|with_reducible exact vM rfl|exact⟨⟩|apply nM|apply fM)
 all_goals((try apply vM);(try simp only[vq]at*);try omega)
 all_goals exact Sup.of rfl
def Cb:PSp:=fun xs K=>match xs with
 | [.isl c .none]=>K (.fn (.func 231) [] [.ip (.pv [.isl c .none]) 0])
 |_=>False
theorem Sm:POK Tryz.prog 205 Cb:=by
 intro xs K hk;unfold Cb at hk;split at hk
 ·exact⟨_,hk,J4 _⟩
 ·exact hk.elim
def iC (l:List Int):Bool:=(agr l.length).all fun i=>decide ((d9 l).getD i 0=(i:Int)+1)
theorem Dw {l:List Int} (h:∀i,i<l.length→(d9 l).getD i 0=(i:Int)+1):iC l=true:=ahP.2 fun i hi=>by simpa using h i (by simpa using hi)
theorem O1 {l:List Int} {i:Nat} (hi:i<l.length) (hh:(d9 l).getD i 0≠(i:Int)+1):iC l=false:=by
 refine Bool.eq_false_iff.2 fun e=>hh ?_;simpa using ahP.1 e i (by simpa using hi)
noncomputable def afH:CPT:=aA 204 (aB Ca) (aA 205 (aB Cb) noC)
theorem Lu:aV Tryz.prog afH:=ak (au Sl) (ak (au Sm) aC)
theorem O4 (l:List Int) (hl:1≤l.length∧l.length≤1000000):aF Tryz.prog 167 [.isl (.ints .i64 l) .none] (.bp (iC l)):=by
 have e:=jU l;refine av (md:=1) (rf:=[]) mixed aj Lu Tryz.func167 (by rfl) (by rfl) (by rfl) ?_
 repeat'((conv=>whnf);first|intro _|apply aI|with_reducible exact vM rfl|exact⟨⟩|apply nM|apply fM)
 all_goals((try apply vM);(try simp only[vq]at*);try omega)
 conv=>whnf
 refine aJ (X:=Nat) (fun i=>i≤l.length∧∀j,j<i→(d9 l).getD j 0=(j:Int)+1) (fun i=>[(9,.int .i64 i),(3,.any),(4,.any)]) (fun i=>[]) (fun i=>l.length-i) 0 ⟨aG,mixed,aj,Lu,aM⟩ (by rfl) ⟨by omega,fun j hj=>by omega⟩ ?_ ?_
 ·repeat'((conv=>whnf);first|intro _|apply aI|with_reducible exact vM rfl|exact⟨⟩|apply nM|apply fM)
  all_goals((try apply vM);(try simp only[vq]at*);try omega)
 intro i hi;obtain⟨hi,hall⟩:=hi;by_cases hlt:i<l.length
 ·repeat'((conv=>whnf);first|intro _|apply aI|with_reducible exact vM rfl|exact⟨⟩|apply nM|apply fM)
  all_goals((try apply vM);(try simp only[vq]at*);try omega)
  ·rename_i hq
   rw[O1 hlt hq];all_goals(refine Sup.via ?_;repeat'((conv=>whnf);first|intro _|apply aI|with_reducible exact vM rfl|exact⟨⟩|apply nM|apply fM);all_goals((try apply vM);(try simp only[vq]at*);try omega);all_goals(try(simp[CL.sub];done)))
  ·rename_i hq
   have hq:=aha.1 hq;refine⟨i+1,[],⟨⟨by omega,fun j hj=>?_⟩,by omega⟩,?_⟩
   ·by_cases e:j=i
    ·subst e;exact hq
    ·exact hall j (by omega)
   repeat'((conv=>whnf);first|intro _|apply aI|with_reducible exact vM rfl|exact⟨⟩|apply nM|apply fM)
   all_goals((try apply vM);(try simp only[vq]at*);try omega)
 ·have:l.length=i:=by omega
  subst this
  repeat'((conv=>whnf);first|intro _|apply aI|with_reducible exact vM rfl|exact⟨⟩|apply nM|apply fM)
  all_goals((try apply vM);(try simp only[vq]at*);try omega)
  rw[Dw hall];all_goals(refine Sup.via ?_;repeat'((conv=>whnf);first|intro _|apply aI|with_reducible exact vM rfl|exact⟨⟩|apply nM|apply fM);all_goals((try apply vM);(try simp only[vq]at*);try omega);all_goals(try(simp[CL.sub];done)))
def Ia:PSp:=fun xs K=>match xs with
 | [.isl (.ints .i64 l) .none]=>VC (1≤l.length∧l.length≤1000000)∧K (.bp (iC l))
 |_=>False
theorem Vp:POK Tryz.prog 167 Ia:=by
 intro xs K h;unfold Ia at h;split at h
 ·exact⟨_,h.2,O4 _ h.1.get⟩
 ·exact h.elim
def cfE (l:List Int):Int:=aL [if l.length=0 then 12 else 0,if 256<l.length then 5 else 0,oO l]
noncomputable def afI:CPT:=aA 193 (aB o9) (aA 195 (aB gX) (aA 203 (aB tY) noC))
theorem aaO:aV Tryz.prog afI:=ak (au qN) (ak (au qo) (ak (au Ai) aC))
theorem aaP (l:List Int) (hl:l.length≤1000000):aF Tryz.prog 166 [.isl (.ints .i64 l) .none] (.int .i64 (cfE l)):=by
 unfold cfE;refine av (md:=1) (rf:=[]) mixed aj aaO Tryz.func166 (by rfl) (by rfl) (by rfl) ?_
 repeat'((conv=>whnf);first|(intro hq;(try simp only[vw]at hq);try first|exact absurd hq (by decide)|exfalso;omega)|apply aI|with_reducible exact vM rfl|exact⟨⟩|apply nM|apply fM)
 all_goals((try apply vM);(try simp only[vq]at*);try omega)
 all_goals first|omega|(refine Sup.of (congrArg (PV.int .i64) ?_);(repeat' split)<;>first|rfl|(exfalso;omega))|skip
def cfP:PSp:=fun xs K=>match xs with
 | [.isl (.ints .i64 l) .none]=>VC (l.length≤1000000)∧K (.int .i64 (cfE l))
 |_=>False
theorem aev:POK Tryz.prog 166 cfP:=by
 intro xs K h;unfold cfP at h;split at h
 ·exact⟨_,h.2,aaP _ h.1.get⟩
 ·exact h.elim
noncomputable def afJ:CPT:=aA 166 (aB cfP) (aA 167 (aB Ia) noC)
theorem Lv:aV Tryz.prog afJ:=ak (au aev) (ak (au Vp) aC)
def gI (l:List Int):Bool × Int:=if cfE l≠0 then(false,cfE l)else(iC l,0)
theorem Ef (l:List Int) (hl:l.length≤1000000):aF Tryz.prog 121 [.isl (.ints .i64 l) .none] (.tup [.bp (gI l).1,.int .i64 (gI l).2]):=by
 unfold gI;by_cases he:cfE l=0
 ·have h1:1≤l.length:=by
   by_cases e:l.length=0
   ·unfold cfE at he;rw[if_pos e]at he;simp[aL]at he
   ·omega
  rw[if_neg (by rw[he];simp)]
  refine av (md:=1) (rf:=[]) mixed aj Lv Tryz.func121 (by rfl) (by rfl) (by rfl) ?_
  repeat'((conv=>whnf);first|(intro hq;(try simp only[vw]at hq);try first|exact absurd hq (by decide)|exfalso;omega)|apply aI|with_reducible exact vM rfl|exact⟨⟩|apply nM|apply fM)
  all_goals((try apply vM);(try simp only[vq]at*);try omega)
  all_goals first|exact hl|exact⟨h1,hl⟩|exact Sup.of rfl|(exfalso;exact hq he)|skip
 ·rw[if_pos he]
  refine av (md:=1) (rf:=[]) mixed aj Lv Tryz.func121 (by rfl) (by rfl) (by rfl) ?_
  repeat'((conv=>whnf);first|(intro hq;(try simp only[vw]at hq);try first|exact absurd hq (by decide)|exfalso;omega)|apply aI|with_reducible exact vM rfl|exact⟨⟩|apply nM|apply fM)
  all_goals((try apply vM);(try simp only[vq]at*);try omega)
  all_goals first|exact hl|exact rT _ _|(exfalso;exact hq he)|skip
def wC:PSp:=fun xs K=>match xs with
 | [.isl (.ints .i64 l) .none]=>VC (l.length≤1000000)∧K (.tup [.bp (gI l).1,.int .i64 (gI l).2])
 |_=>False
theorem J5:POK Tryz.prog 121 wC:=by
 intro xs K h;unfold wC at h;split at h
 ·exact⟨_,h.2,Ef _ h.1.get⟩
 ·exact h.elim
theorem Aw {l:List Int} (h:iC l=true):d9 l=(agr l.length).map fun i:Nat=>(i:Int)+1:=by
 refine aja (by rw[jU];simp) fun i h1 h2=>?_
 have hi:i<l.length:=by rw[jU]at h1;exact h1
 have:=ahP.1 h i (ah5.2 hi);rw[decide_eq_true_eq,agt,agy h1]at this;rw[show(d9 l)[i]=(i:Int)+1 from this];simp
theorem lS {l:List Int} (h:iC l=true):∀x∈l,1≤x∧x≤l.length:=fun x hx=>by
 have hp:x∈d9 l:=(aju l _).mem_iff.2 hx;rw[Aw h,ai5]at hp;obtain⟨i,hi,rfl⟩:=hp;have:=ah5.1 hi;omega
theorem Sn {l:List Int} (h:iC l=true):l.Nodup:=by
 have hp:(d9 l).Perm l:=aju l _;rw[Aw h]at hp;refine hp.nodup_iff.1 ?_;rw[List.Nodup,ajp];exact List.nodup_range.imp fun hne e=>hne (by omega)
def gJ (gv nv:List Int):Prop:=gv.length=nv.length∧∀i,i<nv.length→gv.getD i 0=0∨gv.getD i 0=nv.getD i 0
theorem gJ.set0 {gv nv:List Int} (h:gJ gv nv) (y:Nat):gJ (gv.set y 0) nv:=by
 refine⟨by rw[agT];exact h.1,fun i hi=>?_⟩
 rw[agt,agR];split
 ·left;split<;>rfl
 ·rw[←agt];exact h.2 i hi
theorem gJ.set1 {gv nv:List Int} (h:gJ gv nv) (y:Nat):gJ (gv.set y (nv.getD y 0)) nv:=by
 refine⟨by rw[agT];exact h.1,fun i hi=>?_⟩
 rw[agt,agR];split
 ·rename_i e;subst e;right;rw[if_pos (by have:=h.1;omega)];rfl
 ·rw[←agt];exact h.2 i hi
theorem gJ.refl (nv:List Int):gJ nv nv:=⟨rfl,fun i _=>.inr rfl⟩
theorem Ay {c:Int} {ls:List (List Int)} (hb:fu c ls=0):cZ c ls 0 (agD c.toNat 0):=by
 unfold fu at hb;simp only[aL]at hb;have hsy:jl c ls=0:=by
  by_cases e:jl c ls=0
  ·exact e
  ·rw[if_neg e]at hb;exact absurd hb e
 rw[if_pos hsy]at hb;have hc16:¬16<c:=fun e=>by rw[if_pos e]at hb;simp at hb
 rw[if_neg hc16,if_pos rfl]at hb;have hls:ls.length≠0:=fun e=>by rw[if_pos e]at hb;simp at hb
 unfold jl at hsy;have hcr:¬(c<1∨256<c):=fun e=>by rw[if_pos e]at hsy;cases hsy
 rw[if_neg hcr]at hsy;have hln:¬128<ls.length:=fun e=>by rw[if_pos e]at hsy;cases hsy
 rw[if_neg hln]at hsy;have hlE:=iy hsy;refine⟨by omega,by omega,fun i hi=>?_,by omega,by rw[ajv];omega,fun x hx=>?_,fun i j hij hj hpos e=>?_⟩
 ·have hL:=hlE i hi
  unfold jk at hL;have hne:¬(ls.getD i []).length=0:=fun e=>by rw[if_pos e]at hL;cases hL
  rw[if_neg hne]at hL;have hst:dD (bZ c (ls.getD i [])) (ls.getD i []).length=0:=by
   by_cases e:dD (bZ c (ls.getD i [])) (ls.getD i []).length=0
   ·exact e
   ·rw[if_pos e]at hL;exact hL
  have hst:=iy hst;have hk:∀k,k<(ls.getD i []).length→(0≤(ls.getD i []).getD k 0∧(ls.getD i []).getD k 0<c)∧(0<k→(ls.getD i []).getD (k-1) 0<(ls.getD i []).getD k 0):=fun k hk=>by
   have:=hst k hk;unfold bZ at this;have h1:¬((ls.getD i []).getD k 0<0∨c≤(ls.getD i []).getD k 0):=fun e=>by rw[if_pos e]at this;cases this
   rw[if_neg h1]at this;refine⟨by omega,fun h0=>?_⟩
   have h2:¬(0<k∧(ls.getD i []).getD k 0≤(ls.getD i []).getD (k-1) 0):=fun e=>by rw[if_pos e]at this;cases this
   omega
  have hr:∀x∈ls.getD i [],0≤x∧x<c:=fun x hx=>by
   obtain⟨k,h1,rfl⟩:=(dA _ x).1 hx;exact(hk k h1).1
  have hp:=xQ fun k h0 h1=>(hk k h1).2 h0;have:=Hq hp hr (by omega)
  exact⟨by omega,by omega,hr,hp⟩
 ·rw[(List.mem_replicate.1 hx).2];omega
 ·rw[ajv]at hj
  rw[agt,List.getElem?_replicate,if_pos hj]at hpos;simp at hpos
theorem Az {c:Int} {ls:List (List Int)} {sum:Int} {gv nv:List Int} (hb:fu c ls=0) (hl:(nv.length:Int)=c) (hn:iC nv=true) (hs: -999999999≤sum∧sum≤999999999) (h:gJ gv nv):cZ c ls sum gv:=by
 have h0:=Ay hb;have hr:=lS hn;have hd:=Sn hn;have hgl:=h.1;refine⟨h0.c1,h0.ll,h0.ln,hs,by omega,fun x hx=>?_,fun i j hij hj hpos e=>?_⟩
 ·have hc:=h0.c1
  obtain⟨i,hi,rfl⟩:=(dA _ x).1 hx;rcases h.2 i (by omega)with e|e
  ·rw[e];omega
  ·have:=hr (nv.getD i 0) (fP (by omega))
   rw[e];omega
 ·have e1:gv.getD j 0=nv.getD j 0:=by
   rcases h.2 j (by omega)with e'|e'
   ·omega
   ·exact e'
  have e2:gv.getD i 0=nv.getD i 0:=by
   rcases h.2 i (by omega)with e'|e'
   ·omega
   ·exact e'
  rw[e1,e2]at e;have:=ajr.1 hd i j (by omega) (by omega) hij
  rw[agt,agt,agy (show i<nv.length by omega),agy (show j<nv.length by omega)]at e
  exact this e
end Go.Eng.YtcechbdgokjmgaaGreatDoor
