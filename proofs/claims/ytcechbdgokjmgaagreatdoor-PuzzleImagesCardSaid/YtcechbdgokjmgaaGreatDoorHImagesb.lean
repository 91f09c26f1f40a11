/- Contracts of functions of the program: what each returns. Their conditions stand in them. -/
import Derived.Test.YtcechbdgokjmgaaGreatDoorHImagesa
open Array renaming length_toList→agG
open Bool renaming and_eq_true→ags,not_eq_true'→ajb,or_false→ajc
open Classical renaming propDecidable→aiS,not_not→agY
open Int renaming toNat→aiw,one_mul→aic,toNat_natCast→ag9
open List renaming length_map→ah2,mem_cons_self→ah0,mem_cons_of_mem→ahL,all_eq_true→ahD,mem_map→aiT,isPrefixOf→aiU,toArray→aiV,size_toArray→ahS,length_drop→aiW,take_add_one→ah4,getElem?_eq_getElem→agl,getD_eq_getElem?_getD→agf,take→aiK,take_length→ah6,mem_cons→ahu,getElem_mem→aiu,drop→aiL,map_append→ah5,length_take→agU,length_append→ahl,length_cons→afY,length_nil→afU,range→agc,ext_getElem→aiY,getElem_set→aiZ,getElem_map→ai0,getElem_range→ai1,take_of_length_le→ai2,range_succ→ai3,flatMap_append→ai4,filter_append→ai5,filter_cons→ai6,filter_nil→ai7,map_cons→ah1,append_assoc→ai8,append_nil→ahZ,map_flatMap→ai9,mem_flatMap→aja,mem_range→ahT,mem_filter→aij,getElem?_map→ag2,mem_append→agh,mem_singleton→aiO,drop_zero→aiM,filter_eq_self→ajd,getElem?_set_ne→agI,getElem_set_ne→aje,set_cons_succ→ajf,length_filter_le→aiP,getElem_of_mem→agk,foldl_append→ait,length_set→agH
open Nat renaming lt_succ_iff_lt_or_eq→aiX,le_refl→af3,sub_zero→aiN
namespace Go.Eng.YtcechbdgokjmgaaGreatDoor
open Go.Proofs Go.RowKit
set_option linter.unusedSimpArgs false
set_option linter.unusedVariables false
set_option maxHeartbeats 0
set_option maxRecDepth 100000
abbrev kMi:ByteArray:=⟨#[45]⟩
abbrev kZe:ByteArray:=⟨#[48]⟩
def dgI (x:Int):Bool:=decide (48≤x)&&decide (x≤57)
structure FmB (z:ByteArray):Prop where
 n0:0<z.size
 n9:z.size≤9
 z0:z.size=1∨((z.data.getD 0 0).toNat:Int)≠48
def Bn (z:ByteArray):Prop:=FmB z∧(dA z).all dgI=true
noncomputable instance (z:ByteArray):Decidable (Bn z):=aiS _
def NK (s:ByteArray) (sg:Bool):Prop:=preB s kMi=true∧(sg=false∨kr s kMi=kZe)
noncomputable instance (s:ByteArray) (sg:Bool):Decidable (NK s sg):=aiS _
noncomputable def fG (s:ByteArray) (sg:Bool):Option Int:=if Bn (kr s kMi)∧¬NK s sg then Go.Lib.atoi s.data.toList else none
theorem Gm (z:ByteArray):(dA z).length=z.size:=by unfold dA;rw[ah2,agG];rfl
theorem Gn:∀(l:List UInt8) (acc:Nat),(∀b∈l,48≤b.toNat∧b.toNat≤57)→∃n,Go.Lib.decFrom acc l=some n:=by
 intro l;induction l with
 |nil=>intro acc _;exact⟨acc,rfl⟩
 |cons b r ih=>
  intro acc h;have hb:=h b (ah0 ..);have hd:∃d,Go.Lib.digitVal b=some d:=by
   unfold Go.Lib.digitVal;rw[if_pos hb];exact⟨_,rfl⟩
  obtain⟨d,hd⟩:=hd;unfold Go.Lib.decFrom;rw[hd];exact ih _ fun x hx=>h x (ahL _ hx)
theorem decNat_some {l:List UInt8} (hl:l≠[]) (h:∀b∈l,48≤b.toNat∧b.toNat≤57):∃n,Go.Lib.decNat l=some n:=by
 unfold Go.Lib.decNat;rw[if_neg (by simpa using hl)]
 exact Gn l 0 h
theorem ZQ {z:ByteArray} (h:Bn z):z.data.toList≠[]∧∀b∈z.data.toList,48≤b.toNat∧b.toNat≤57:=by
 obtain⟨h1,h2⟩:=h;refine⟨fun e=>?_,fun b hb=>?_⟩
 ·have:=h1.n0
  rw[←Gm]at this;unfold dA at this;rw[e]at this;exact absurd this (by decide)
 ·rw[ahD]at h2
  have:=h2 (b.toNat:Int) (aiT.2 ⟨b,hb,rfl⟩);unfold dgI at this;rw[ags,decide_eq_true_eq,decide_eq_true_eq]at this;omega
theorem Ua {s:ByteArray} (h:Bn (kr s kMi)):∃n,Go.Lib.atoi s.data.toList=some n:=by
 have hd:=ZQ h;unfold kr Go.Lib.trimPrefix at hd;cases hl:s.data.toList with
 |nil=>rw[hl]at hd;exact absurd rfl hd.1
 |cons b r=>
  rw[hl]at hd;unfold Go.Lib.atoi;by_cases e:b=45
  ·subst e
   rw[if_pos (by simp[Go.Lib.hasPrefix,aiU])]at hd
   obtain⟨n,hn⟩:=decNat_some (l:=r) hd.1 hd.2;exact⟨-(n:Int),by simp[hn]⟩
  ·have hp:¬Go.Lib.hasPrefix (b::r) kMi.data.toList=true:=by
    simp[Go.Lib.hasPrefix,aiU];exact fun e'=>e e'.symm
   rw[if_neg hp]at hd;have hb:=hd.2 b (ah0 ..);obtain⟨n,hn⟩:=decNat_some (l:=b::r) hd.1 hd.2;have e43:b≠43:=fun e'=>by subst e';exact absurd hb.1 (by decide)
   exact⟨(n:Int),by simp[hn,e,e43]⟩
theorem Ub {s p:ByteArray}:s.size≤(kr s p).size+p.size:=by
 have e1:s.size=s.data.toList.length:=by rw[agG];rfl
 have e2:p.size=p.data.toList.length:=by rw[agG];rfl
 have e3:(kr s p).size=(Go.Lib.trimPrefix s.data.toList p.data.toList).length:=by
  show(aiV _).size=_;rw[ahS]
 rw[e1,e2,e3];unfold Go.Lib.trimPrefix;split
 ·rw[aiW];omega
 ·omega
def Gp (o:Option Int):PV:=match o with
 |none=>.tup [.int .i64 0,.bp false]
 |some n=>.tup [.int .i64 n,.bp true]
noncomputable def ad6:CPT:=aA 229 (aB Tw) (aA 230 (aB MW) noC)
theorem gN:aU Tryz.prog ad6:=aj (au acK) (aj (au Y9) aC)
theorem lT:Sup (bE [PV.int .i64 0,PV.bool false]) (Gp none):=⟨fun hr=>by
 cases hr with
 |tup _ _ vs hl hh=>
  refine .tup _ _ _ hl fun i hi=>?_;have:=hh i hi;obtain rfl|rfl:i=0∨i=1:=by simp at hi;omega
  ·exact this
  ·simp only[aD]at this⊢
   generalize vs.getD 1 undef=v1 at this
   cases this;exact .bp _ _⟩
theorem wK (n:Int):Sup (bE [PV.int .i64 n,PV.bool true]) (Gp (some n)):=⟨fun hr=>by
 cases hr with
 |tup _ _ vs hl hh=>
  refine .tup _ _ _ hl fun i hi=>?_;have:=hh i hi;obtain rfl|rfl:i=0∨i=1:=by simp at hi;omega
  ·exact this
  ·simp only[aD]at this⊢
   generalize vs.getD 1 undef=v1 at this
   cases this;exact .bp _ _⟩
theorem Uc (s:ByteArray) (sg:Bool) (hs:s.size≤1000000):aF Tryz.prog 202 [.str s,.bp sg] (Gp (fG s sg)):=by
 have hcs:(kr s kMi).size≤1000000:=by
  have e3:(kr s kMi).size=(Go.Lib.trimPrefix s.data.toList kMi.data.toList).length:=by
   show(aiV _).size=_;rw[ahS]
  have e1:s.size=s.data.toList.length:=by rw[agG];rfl
  rw[e3];unfold Go.Lib.trimPrefix;split
  ·rw[aiW];omega
  ·omega
 have hcz:=Ub (s:=s) (p:=kMi);have hbl:=Gm (kr s kMi);obtain⟨z,hz⟩:∃z,kr s kMi=z:=⟨_,rfl⟩;by_cases hF:FmB z
 case neg=>
  rw[show fG s sg=none by unfold fG;rw[hz,if_neg (fun e=>hF e.1.1)]]
  rw[hz]at hcs hcz hbl;by_cases h0:z.size=0
  ·skip
   refine av (md:=1) (rf:=[]) mixed ak gN Tryz.func202 (by rfl) (by rfl) (by rfl) ?_
   repeat'((conv=>whnf);first|(intro hq;(try simp only[vw]at hq);try first|exact absurd hq (by decide)|exfalso;omega)|apply aI|with_reducible exact vM rfl|exact⟨⟩|apply nM|apply fM)
   all_goals((try apply vM);(try simp only[vq]at*);try omega)
   all_goals(try rw[hz]at*)
   all_goals(try omega)
   all_goals(conv=>whnf)
   all_goals(refine aM (X:=Nat) (fun i=>i≤z.size) (fun i=>[(39,.int .i64 i),(8,.bp false)]) (fun i=>[]) (fun i=>z.size-i) 0 ⟨aK,mixed,ak,gN,aP⟩ (by rfl) (by omega) ?_ ?_)
   ·repeat'((conv=>whnf);first|intro _|apply aI|with_reducible exact vM rfl|exact⟨⟩|apply nM|apply fM)
    all_goals((try apply vM);(try simp only[vq]at*);try omega)
    all_goals(try exact decide_eq_false (fun e=>e hz0.2))
   intro i hi;by_cases hlt:i<z.size
   ·repeat'((conv=>whnf);first|(intro hq;(try simp only[vw]at hq);try first|exact absurd hq (by decide)|exfalso;omega)|apply aI|with_reducible exact vM rfl|exact⟨⟩|apply nM|apply fM)
    all_goals((try apply vM);(try simp only[vq]at*);try omega)
    all_goals(try omega)
    all_goals refine⟨i+1,[],⟨by omega,by omega⟩,?_⟩
    all_goals repeat'((conv=>whnf);first|intro _|apply aI|with_reducible exact vM rfl|exact⟨⟩|apply nM|apply fM)
    all_goals all_goals((try apply vM);(try simp only[vq]at*);try omega)
   have e:i=z.size:=by omega
   subst e
   repeat'((conv=>whnf);first|(intro hq;(try simp only[vw]at hq);try first|exact absurd hq (by decide)|exfalso;omega)|apply aI|with_reducible exact vM rfl|exact⟨⟩|apply nM|apply fM)
   all_goals((try apply vM);(try simp only[vq]at*);try omega)
   all_goals first|omega|exact lT|skip
  by_cases h9:9<z.size
  ·skip
   refine av (md:=1) (rf:=[]) mixed ak gN Tryz.func202 (by rfl) (by rfl) (by rfl) ?_
   repeat'((conv=>whnf);first|(intro hq;(try simp only[vw]at hq);try first|exact absurd hq (by decide)|exfalso;omega)|apply aI|with_reducible exact vM rfl|exact⟨⟩|apply nM|apply fM)
   all_goals((try apply vM);(try simp only[vq]at*);try omega)
   all_goals(try rw[hz]at*)
   all_goals(try omega)
   all_goals(conv=>whnf)
   all_goals(refine aM (X:=Nat) (fun i=>i≤z.size) (fun i=>[(39,.int .i64 i),(8,.bp false)]) (fun i=>[]) (fun i=>z.size-i) 0 ⟨aK,mixed,ak,gN,aP⟩ (by rfl) (by omega) ?_ ?_)
   ·repeat'((conv=>whnf);first|intro _|apply aI|with_reducible exact vM rfl|exact⟨⟩|apply nM|apply fM)
    all_goals((try apply vM);(try simp only[vq]at*);try omega)
    all_goals(try exact decide_eq_false (fun e=>e hz0.2))
   intro i hi;by_cases hlt:i<z.size
   ·repeat'((conv=>whnf);first|(intro hq;(try simp only[vw]at hq);try first|exact absurd hq (by decide)|exfalso;omega)|apply aI|with_reducible exact vM rfl|exact⟨⟩|apply nM|apply fM)
    all_goals((try apply vM);(try simp only[vq]at*);try omega)
    all_goals(try omega)
    all_goals refine⟨i+1,[],⟨by omega,by omega⟩,?_⟩
    all_goals repeat'((conv=>whnf);first|intro _|apply aI|with_reducible exact vM rfl|exact⟨⟩|apply nM|apply fM)
    all_goals all_goals((try apply vM);(try simp only[vq]at*);try omega)
   have e:i=z.size:=by omega
   subst e
   repeat'((conv=>whnf);first|(intro hq;(try simp only[vw]at hq);try first|exact absurd hq (by decide)|exfalso;omega)|apply aI|with_reducible exact vM rfl|exact⟨⟩|apply nM|apply fM)
   all_goals((try apply vM);(try simp only[vq]at*);try omega)
   all_goals first|omega|exact lT|skip
  have hz0:z.size≠1∧((z.data.getD (aiw 0) 0).toNat:Int)=48:=by
   constructor
   ·exact fun e=>hF ⟨by omega,by omega,.inl e⟩
   ·exact agY.1 fun e=>hF ⟨by omega,by omega,.inr e⟩
  refine av (md:=1) (rf:=[]) mixed ak gN Tryz.func202 (by rfl) (by rfl) (by rfl) ?_
  repeat'((conv=>whnf);first|(intro hq;(try simp only[vw]at hq);try first|exact absurd hq (by decide)|exfalso;omega)|apply aI|with_reducible exact vM rfl|exact⟨⟩|apply nM|apply fM)
  all_goals((try apply vM);(try simp only[vq]at*);try omega)
  all_goals(try rw[hz]at*)
  all_goals(try omega)
  all_goals(conv=>whnf)
  all_goals(refine aM (X:=Nat) (fun i=>i≤z.size) (fun i=>[(39,.int .i64 i),(8,.bp false)]) (fun i=>[]) (fun i=>z.size-i) 0 ⟨aK,mixed,ak,gN,aP⟩ (by rfl) (by omega) ?_ ?_)
  ·repeat'((conv=>whnf);first|intro _|apply aI|with_reducible exact vM rfl|exact⟨⟩|apply nM|apply fM)
   all_goals((try apply vM);(try simp only[vq]at*);try omega)
   all_goals(try exact decide_eq_false (fun e=>e hz0.2))
  intro i hi;by_cases hlt:i<z.size
  ·repeat'((conv=>whnf);first|(intro hq;(try simp only[vw]at hq);try first|exact absurd hq (by decide)|exfalso;omega)|apply aI|with_reducible exact vM rfl|exact⟨⟩|apply nM|apply fM)
   all_goals((try apply vM);(try simp only[vq]at*);try omega)
   all_goals(try omega)
   all_goals refine⟨i+1,[],⟨by omega,by omega⟩,?_⟩
   all_goals repeat'((conv=>whnf);first|intro _|apply aI|with_reducible exact vM rfl|exact⟨⟩|apply nM|apply fM)
   all_goals all_goals((try apply vM);(try simp only[vq]at*);try omega)
  have e:i=z.size:=by omega
  subst e
  repeat'((conv=>whnf);first|(intro hq;(try simp only[vw]at hq);try first|exact absurd hq (by decide)|exfalso;omega)|apply aI|with_reducible exact vM rfl|exact⟨⟩|apply nM|apply fM)
  all_goals((try apply vM);(try simp only[vq]at*);try omega)
  all_goals first|omega|exact lT|skip
 have hN:(dA z).all dgI=false→fG s sg=none:=fun e=>by
  unfold fG;rw[hz,if_neg];exact fun h=>by have:=h.1.2;rw[e]at this;exact absurd this (by decide)
 have hB1:preB s ⟨#[45]⟩=true→sg=false→fG s sg=none:=fun a b=>by
  unfold fG;rw[if_neg];exact fun h=>h.2 ⟨a,.inl b⟩
 have hB2:preB s ⟨#[45]⟩=true→z=⟨#[48]⟩→fG s sg=none:=fun a b=>by
  unfold fG;rw[if_neg];exact fun h=>h.2 ⟨a,.inr (hz.trans b)⟩
 obtain⟨n,hn⟩:∃n,(dA z).all dgI=true→Go.Lib.atoi s.data.toList=some n:=by
  by_cases e:(dA z).all dgI=true
  ·obtain⟨n,hn⟩:=Ua (s:=s) (by rw[hz];exact⟨hF,e⟩)
   exact⟨n,fun _=>hn⟩
  ·exact⟨0,fun h=>absurd h e⟩
 have hY1:(dA z).all dgI=true→preB s ⟨#[45]⟩=false→fG s sg=some n:=fun e a=>by
  unfold fG;rw[hz,if_pos ⟨⟨hF,e⟩,fun h=>by have h1:=h.1;rw[a]at h1;exact absurd h1 (by decide)⟩];exact hn e
 have hY2:(dA z).all dgI=true→sg=true→z≠⟨#[48]⟩→fG s sg=some n:=fun e a b=>by
  unfold fG;rw[hz,if_pos ⟨⟨hF,e⟩,fun h=>by
   rcases h.2 with h|h
   ·rw[a]at h;exact absurd h (by decide)
   ·exact b (hz.symm.trans h)⟩];exact hn e
 have hs18:s.size≤18:=by
  have:=hF.n9;have:kMi.size=1:=rfl;rw[hz]at hcz;omega
 rw[hz]at hcs hcz hbl;have h0:=hF.n0;have h9:=hF.n9;have hz0:z.size=1∨((z.data.getD (aiw 0) 0).toNat:Int)≠48:=hF.z0;have hdg:∀i,i<z.size→((dA z).take (i+1)).all dgI=(((dA z).take i).all dgI&&dgI ((dA z).getD i 0)):=fun i hi=>by
  rw[ah4,List.all_append,agl (by omega),agf,agl (by omega)]
  simp
 by_cases h1:z.size=1
 ·skip
  refine av (md:=1) (rf:=[]) mixed ak gN Tryz.func202 (by rfl) (by rfl) (by rfl) ?_
  repeat'((conv=>whnf);first|(intro hq;(try simp only[vw]at hq);try first|exact absurd hq (by decide)|exfalso;omega)|apply aI|with_reducible exact vM rfl|exact⟨⟩|apply nM|apply fM)
  all_goals((try apply vM);(try simp only[vq]at*);try omega)
  all_goals(try rw[hz]at*)
  all_goals(try omega)
  conv=>whnf
  refine aM (X:=Nat) (fun i=>i≤z.size) (fun i=>[(39,.int .i64 i),(8,.bp (((dA z).take i).all dgI))]) (fun i=>[]) (fun i=>z.size-i) 0 ⟨aK,mixed,ak,gN,aP⟩ (by rfl) (by omega) ?_ ?_
  ·repeat'((conv=>whnf);first|intro _|apply aI|with_reducible exact vM rfl|exact⟨⟩|apply nM|apply fM)
   all_goals((try apply vM);(try simp only[vq]at*);try omega)
   all_goals first|exact decide_eq_true hz1|skip
  intro i hi;by_cases hlt:i<z.size
  ·have hd:=hdg i hlt
   repeat'((conv=>whnf);first|(intro hq;(try simp only[vw]at hq);try first|exact absurd hq (by decide)|exfalso;omega)|apply aI|with_reducible exact vM rfl|exact⟨⟩|apply nM|apply fM)
   all_goals((try apply vM);(try simp only[vq]at*);try omega)
   all_goals(try omega)
   all_goals refine⟨i+1,[],⟨by omega,by omega⟩,?_⟩
   all_goals repeat'((conv=>whnf);first|intro _|apply aI|with_reducible exact vM rfl|exact⟨⟩|apply nM|apply fM)
   all_goals all_goals((try apply vM);(try simp only[vq]at*);try omega)
   all_goals(rw[hd])
   all_goals(clear hd)
   ·have hq2:(48:Int)≤(dA z).getD i 0:=hq
    show decide ((dA z).getD i 0≤57)=_;have ht:(aiK i (dA z)).all dgI=true:=by assumption
    rw[ht];generalize(dA z).getD i 0=x at hq2⊢
    show _=(true&&(decide (48≤x)&&decide (x≤57)));rw[decide_eq_true hq2];simp
   ·have hq2:¬(48:Int)≤(dA z).getD i 0:=hq
    generalize(dA z).getD i 0=x at hq2⊢
    unfold dgI;rw[decide_eq_false hq2];simp
   ·simp[*]
  have e:i=z.size:=by omega
  subst e;have ha:(dA z).take z.size=dA z:=by rw[←hbl,ah6]
  rw[ha]
  repeat'((conv=>whnf);first|(intro hq;(try simp only[vw]at hq);try first|exact absurd hq (by decide)|exfalso;omega)|apply aI|with_reducible exact vM rfl|exact⟨⟩|apply nM|apply fM)
  all_goals((try apply vM);(try simp only[vq]at*);try omega)
  all_goals(try omega)
  all_goals first|(rw[hN (by assumption)];exact lT)|(rw[hB1 (by assumption) (by assumption)];exact lT)|(rw[hB2 (by assumption) (by assumption)];exact lT)|skip
  all_goals(conv=>whnf)
  all_goals repeat'((conv=>whnf);first|refine Exists.intro (n) ?_|(intro hq;(try simp only[vw]at hq);try first|exact absurd hq (by decide)|exfalso;omega)|apply aI|with_reducible exact vM rfl|exact⟨⟩|apply nM|apply fM)
  all_goals all_goals((try apply vM);(try simp only[vq]at*);try omega)
  all_goals first|(refine And.intro hs18 (hn ?_);assumption)|(rw[hY1 (by assumption) (by assumption)];exact wK n)|(rw[hY2 (by assumption) (by assumption) (by assumption)];exact wK n)
 ·have hz1:((z.data.getD (aiw 0) 0).toNat:Int)≠48:=by
   rcases hz0 with e|e
   ·exact absurd e h1
   ·exact e
  refine av (md:=1) (rf:=[]) mixed ak gN Tryz.func202 (by rfl) (by rfl) (by rfl) ?_
  repeat'((conv=>whnf);first|(intro hq;(try simp only[vw]at hq);try first|exact absurd hq (by decide)|exfalso;omega)|apply aI|with_reducible exact vM rfl|exact⟨⟩|apply nM|apply fM)
  all_goals((try apply vM);(try simp only[vq]at*);try omega)
  all_goals(try rw[hz]at*)
  all_goals(try omega)
  conv=>whnf
  refine aM (X:=Nat) (fun i=>i≤z.size) (fun i=>[(39,.int .i64 i),(8,.bp (((dA z).take i).all dgI))]) (fun i=>[]) (fun i=>z.size-i) 0 ⟨aK,mixed,ak,gN,aP⟩ (by rfl) (by omega) ?_ ?_
  ·repeat'((conv=>whnf);first|intro _|apply aI|with_reducible exact vM rfl|exact⟨⟩|apply nM|apply fM)
   all_goals((try apply vM);(try simp only[vq]at*);try omega)
   all_goals first|exact decide_eq_true hz1|skip
  intro i hi;by_cases hlt:i<z.size
  ·have hd:=hdg i hlt
   repeat'((conv=>whnf);first|(intro hq;(try simp only[vw]at hq);try first|exact absurd hq (by decide)|exfalso;omega)|apply aI|with_reducible exact vM rfl|exact⟨⟩|apply nM|apply fM)
   all_goals((try apply vM);(try simp only[vq]at*);try omega)
   all_goals(try omega)
   all_goals refine⟨i+1,[],⟨by omega,by omega⟩,?_⟩
   all_goals repeat'((conv=>whnf);first|intro _|apply aI|with_reducible exact vM rfl|exact⟨⟩|apply nM|apply fM)
   all_goals all_goals((try apply vM);(try simp only[vq]at*);try omega)
   all_goals(rw[hd])
   all_goals(clear hd)
   ·have hq2:(48:Int)≤(dA z).getD i 0:=hq
    show decide ((dA z).getD i 0≤57)=_;have ht:(aiK i (dA z)).all dgI=true:=by assumption
    rw[ht];generalize(dA z).getD i 0=x at hq2⊢
    show _=(true&&(decide (48≤x)&&decide (x≤57)));rw[decide_eq_true hq2];simp
   ·have hq2:¬(48:Int)≤(dA z).getD i 0:=hq
    generalize(dA z).getD i 0=x at hq2⊢
    unfold dgI;rw[decide_eq_false hq2];simp
   ·simp[*]
  have e:i=z.size:=by omega
  subst e;have ha:(dA z).take z.size=dA z:=by rw[←hbl,ah6]
  rw[ha]
  repeat'((conv=>whnf);first|(intro hq;(try simp only[vw]at hq);try first|exact absurd hq (by decide)|exfalso;omega)|apply aI|with_reducible exact vM rfl|exact⟨⟩|apply nM|apply fM)
  all_goals((try apply vM);(try simp only[vq]at*);try omega)
  all_goals(try omega)
  all_goals first|(rw[hN (by assumption)];exact lT)|(rw[hB1 (by assumption) (by assumption)];exact lT)|(rw[hB2 (by assumption) (by assumption)];exact lT)|skip
  all_goals(conv=>whnf)
  all_goals repeat'((conv=>whnf);first|refine Exists.intro (n) ?_|(intro hq;(try simp only[vw]at hq);try first|exact absurd hq (by decide)|exfalso;omega)|apply aI|with_reducible exact vM rfl|exact⟨⟩|apply nM|apply fM)
  all_goals all_goals((try apply vM);(try simp only[vq]at*);try omega)
  all_goals first|(refine And.intro hs18 (hn ?_);assumption)|(rw[hY1 (by assumption) (by assumption)];exact wK n)|(rw[hY2 (by assumption) (by assumption) (by assumption)];exact wK n)
def Ud:PSp:=fun xs K=>match xs with
 | [.str s,.bp sg]=>VC (s.size≤1000000)∧((VC (fG s sg=none)→K (Gp none))∧∀n,VC (fG s sg=some n)→K (Gp (some n)))
 |_=>False
theorem acX:POK Tryz.prog 202 Ud:=by
 intro xs K hk;unfold Ud at hk;split at hk
 ·obtain⟨⟨h⟩,h1,h2⟩:=hk
  refine⟨_,?_,Uc _ _ h⟩;cases e:fG _ _ with
  |none=>exact h1 ⟨e⟩
  |some n=>exact h2 n ⟨e⟩
 ·exact hk.elim
theorem Gq (c:UInt8):∀l:List UInt8,(∀x∈spl c l,x.length≤l.length)∧(spl c l).length≤l.length+1:=by
 intro l;induction l with
 |nil=>simp[spl]
 |cons x r ih=>
  unfold spl;split
  ·refine⟨fun y hy=>?_,by simp;exact ih.2⟩
   rcases ahu.1 hy with rfl|hy
   ·simp
   ·have:=ih.1 y hy;simp;omega
  ·cases h:spl c r with
   |nil=>exact absurd h (Qa c r)
   |cons a t=>
    rw[h]at ih;refine⟨fun y hy=>?_,by have:=ih.2;simp at this⊢;omega⟩
    rcases ahu.1 hy with rfl|hy
    ·have:=ih.1 a (ah0 ..);simp;omega
    ·have:=ih.1 y (ahL _ hy);simp;omega
theorem vB {l:List ByteArray} {j:Nat} (h:j<l.length):l.getD j .empty∈l:=by
 rw[agf,agl h];exact aiu h
theorem Dg {c:UInt8} {s x:ByteArray} (h:x∈dD c s):x.size≤s.size:=by
 obtain⟨l,hl,rfl⟩:=aiT.1 h;have:=(Gq c s.data.toList).1 l hl;rw[agG]at this;exact this
theorem yD (c:UInt8) (s:ByteArray):1≤(dD c s).length∧(dD c s).length≤s.size+1:=by
 unfold dD;rw[ah2];have h1:=(Gq c s.data.toList).2;rw[agG]at h1;exact⟨List.length_pos_iff.2 (Qa c _),h1⟩
abbrev iT:ByteArray:=⟨#[115,117,109]⟩
noncomputable def numsL (sg:Bool) (ws:List ByteArray):List Int:=ws.map fun x=>(fG x sg).getD 0
def okW (sg:Bool) (ws:List ByteArray):Prop:=∀j,j<ws.length→(fG (ws.getD j .empty) sg).isSome=true
noncomputable instance (sg:Bool) (ws:List ByteArray):Decidable (okW sg ws):=aiS _
noncomputable def bZ (s w:ByteArray):Option (List Int):=
 if(dD 32 s).getD 0 .empty=w∧okW (decide (w=iT)) ((dD 32 s).drop 1)then some (numsL (decide (w=iT)) ((dD 32 s).drop 1))else none
def Gs (o:Option (List Int)):PV:=match o with
 |none=>.tup [.nils,.bp false]
 |some l=>.tup [.isl (.ints .i64 l) .none,.bp true]
theorem Kw:Sup (bE [PV.nils,PV.bool false]) (Gs none):=⟨fun hr=>by
 cases hr with
 |tup _ _ vs hl hh=>
  refine .tup _ _ _ hl fun i hi=>?_;have:=hh i hi;obtain rfl|rfl:i=0∨i=1:=by simp at hi;omega
  ·exact this
  ·simp only[aD]at this⊢
   generalize vs.getD 1 undef=v1 at this
   cases this;exact .bp _ _⟩
theorem Ue (l:List Int):Sup (bE [PV.isl (.ints .i64 l) .none,PV.bool true]) (Gs (some l)):=⟨fun hr=>by
 cases hr with
 |tup _ _ vs hl hh=>
  refine .tup _ _ _ hl fun i hi=>?_;have:=hh i hi;obtain rfl|rfl:i=0∨i=1:=by simp at hi;omega
  ·exact this
  ·simp only[aD]at this⊢
   generalize vs.getD 1 undef=v1 at this
   cases this;exact .bp _ _⟩
noncomputable def ae9:CPT:=aA 113 (aB zI) (aA 202 (aB Ud) noC)
theorem Bo:aU Tryz.prog ae9:=aj (au FX) (aj (au acX) aC)
theorem Uf (s w:ByteArray) (hs:s.size≤1000000):aF Tryz.prog 162 [.str s,.str w] (Gs (bZ s w)):=by
 have hl:=yD 32 s;have hz:∀j,j<(dD 32 s).length→((dD 32 s).getD j .empty).size≤1000000:=fun j hj=>Nat.le_trans (Dg (vB hj)) hs;obtain⟨W,hW⟩:∃W,dD 32 s=W:=⟨_,rfl⟩;rw[hW]at hl hz;by_cases hw:W.getD 0 .empty=w
 case neg=>
  rw[show bZ s w=none by unfold bZ;rw[hW,if_neg (fun e=>hw e.1)]]
  refine av (md:=1) (rf:=[]) mixed ak Bo Tryz.func162 (by rfl) (by rfl) (by rfl) ?_
  repeat'((conv=>whnf);first|refine Exists.intro (32) ?_|(intro hq;(try simp only[vw]at hq);try first|exact absurd hq (by decide)|exfalso;omega)|apply aI|with_reducible exact vM rfl|exact⟨⟩|apply nM|apply fM)
  all_goals((try apply vM);(try simp only[vq]at*);try omega)
  all_goals(try rw[hW])
  all_goals(try omega)
  all_goals(rw[hW]at hq)
  all_goals first|exact Kw|exact absurd hw hq
 refine av (md:=1) (rf:=[]) mixed ak Bo Tryz.func162 (by rfl) (by rfl) (by rfl) ?_
 repeat'((conv=>whnf);first|refine Exists.intro (32) ?_|(intro hq;(try simp only[vw]at hq);try first|exact absurd hq (by decide)|exfalso;omega)|apply aI|with_reducible exact vM rfl|exact⟨⟩|apply nM|apply fM)
 all_goals((try apply vM);(try simp only[vq]at*);try omega)
 all_goals(try rw[hW])
 all_goals(try omega)
 all_goals(rw[hW]at hq)
 all_goals(try exact absurd hw hq)
 conv=>whnf
 have hD1:(CL.strs W).sub (aiw 1) W.length=.strs (W.drop 1):=by
  show CL.strs ((W.drop 1).take (W.length-1))=_;rw[←aiW,ah6]
 have hD2:aiK (W.length-aiw 1) (aiL (aiw 1) W)=W.drop 1:=by
  show(W.drop 1).take (W.length-1)=_;rw[←aiW,ah6]
 have hz':∀j,j<(W.drop 1).length→((W.drop 1).getD j .empty).size≤1000000:=fun j hj=>by
  rw[aiW]at hj;have e:(W.drop 1).getD j .empty=W.getD (1+j) .empty:=by simp[agf,List.getElem?_drop,Nat.add_comm]
  rw[e];exact hz _ (by omega)
 have hl':(W.drop 1).length≤1000000:=by rw[aiW];omega
 have hno:∀j,j<(W.drop 1).length→fG ((W.drop 1).getD j .empty) (decide (w=iT))=none→bZ s w=none:=fun j hj e=>by
  unfold bZ;rw[hW,if_neg];exact fun h=>by have:=h.2 j hj;rw[e]at this;exact absurd this (by decide)
 have hyes:okW (decide (w=iT)) (W.drop 1)→bZ s w=some (numsL (decide (w=iT)) (W.drop 1)):=fun h=>by
  unfold bZ;rw[hW,if_pos ⟨hw,h⟩]
 simp only[hD1,hD2];generalize W.drop 1=R at hz' hl' hno hyes⊢
 clear hD1 hD2;have hap:∀i n,i<R.length→fG (R.getD i .empty) (decide (w=iT))=some n→numsL (decide (w=iT)) (R.take (i+1))=numsL (decide (w=iT)) (R.take i)++[n]:=fun i n hi e=>by
  unfold numsL;rw[ah4,ah5,agl hi];rw[agf,agl hi,Option.getD_some]at e;simp[e]
 have hnl:∀i,i≤R.length→(numsL (decide (w=iT)) (R.take i)).length=i:=fun i hi=>by unfold numsL;rw[ah2,agU];omega
 refine aM (X:=Nat) (fun i=>i≤R.length∧∀j,j<i→(fG (R.getD j .empty) (decide (w=iT))).isSome=true) (fun i=>[(22,.int .i64 i),(7,.isl (.ints .i64 (numsL (decide (w=iT)) (R.take i))) (.own 5))]) (fun i=>[(5,.tok 1 (numsL (decide (w=iT)) (R.take i)).length)]) (fun i=>R.length-i) 0 ⟨aK,mixed,ak,Bo,aP⟩ (by rfl) ⟨by omega,fun j hj=>absurd hj (by omega)⟩ ?_ ?_
 ·repeat'((conv=>whnf);first|intro _|apply aI|with_reducible exact vM rfl|exact⟨⟩|apply nM|apply fM)
  all_goals((try apply vM);(try simp only[vq]at*);try omega)
  all_goals rfl
 intro i ⟨hi,hS⟩;have hli:=hnl i hi;by_cases hlt:i<R.length
 ·repeat'((conv=>whnf);first|(intro hq;(try simp only[vw]at hq);try first|exact absurd hq (by decide)|exfalso;omega)|apply aI|with_reducible exact vM rfl|exact⟨⟩|apply nM|apply fM)
  all_goals((try apply vM);(try simp only[vq]at*);try omega)
  all_goals(try omega)
  all_goals(try replace hq:=VC.get hq)
  all_goals first|exact hz' _ hlt|(rw[hno i hlt hq];exact Kw)|(rw[ahl,afY,afU,hli];omega)|skip
  rename_i n _;refine⟨i+1,[],⟨⟨by omega,fun j hj=>?_⟩,by omega⟩,?_⟩
  ·rcases aiX.1 hj with h|rfl
   ·exact hS j h
   ·rw[show fG (R.getD j .empty) (decide (w=iT))=some n from hq];rfl
  rw[hap i n hlt hq,ahl]
  repeat'((conv=>whnf);first|intro _|apply aI|with_reducible exact vM rfl|exact⟨⟩|apply nM|apply fM)
  all_goals((try apply vM);(try simp only[vq]at*);try omega)
  all_goals skip
 have e:i=R.length:=by omega
 subst e;rw[ah6]
 repeat'((conv=>whnf);first|(intro hq;(try simp only[vw]at hq);try first|exact absurd hq (by decide)|exfalso;omega)|apply aI|with_reducible exact vM rfl|exact⟨⟩|apply nM|apply fM)
 all_goals((try apply vM);(try simp only[vq]at*);try omega)
 all_goals(try omega)
 rw[hyes (fun j hj=>hS j hj)];exact Ue _
def Ug:PSp:=fun xs K=>match xs with
 | [.str s,.str w]=>VC (s.size≤1000000)∧((VC (bZ s w=none)→K (Gs none))∧∀l,VC (bZ s w=some l)→K (Gs (some l)))
 |_=>False
theorem acY:POK Tryz.prog 162 Ug:=by
 intro xs K hk;unfold Ug at hk;split at hk
 ·obtain⟨⟨h⟩,h1,h2⟩:=hk
  refine⟨_,?_,Uf _ _ h⟩;cases e:bZ _ _ with
  |none=>exact h1 ⟨e⟩
  |some n=>exact h2 n ⟨e⟩
 ·exact hk.elim
structure Rd where
 c:Int
 L:List (List Int)
 sum:Int
 gv:List Int
 line:Int
 done:Bool
abbrev Gt:ByteArray:=⟨#[99,101,108,108,115]⟩
abbrev En:ByteArray:=⟨#[108,105,110,101]⟩
abbrev vC:ByteArray:=⟨#[103,105,118,101,110]⟩
noncomputable def nxt (r:Rd) (s:ByteArray):Bool × Rd:=
 if r.line+1≤2 then
  match bZ s (if r.line=0 then Gt else iT)with
  |none=>(false,{r with line:=r.line+1})
  |some l=>if l.length≠1 then(false,{r with line:=r.line+1})else if r.line=0 then(true,{r with line:=r.line+1,c:=l.getD 0 0})else(true,{r with line:=r.line+1,sum:=l.getD 0 0})
 else if r.done=true then(false,{r with line:=r.line+1})
 else match bZ s En with
  |some l=>(true,{r with line:=r.line+1,L:=r.L++[l]})
  |none=>match bZ s vC with
   |some l=>(true,{r with line:=r.line+1,gv:=l,done:=true})
   |none=>(false,{r with line:=r.line+1,gv:=[],done:=false})
abbrev rdO (r:Rd):List AO:=[.cells (.pv [.int .i64 r.c,.isl (.rows .i64 r.L) (.own 1),.int .i64 r.sum,.isl (.ints .i64 r.gv) .none,.int .i64 r.line,.bp r.done]) false,.tok 1 r.L.length]
noncomputable def afa:CPT:=aA 162 (aB Ug) noC
theorem jg:aU Tryz.prog afa:=aj (au acY) aC
theorem clash {o:Option (List Int)} {l:List Int} (a:o=some l) (b:o=none):False:=by rw[a]at b;cases b
theorem Uh (r:Rd) (s:ByteArray) (hs:s.size≤1000000) (hl:0≤r.line∧r.line≤1000000) (hL:r.L.length≤1000000):
 iM Tryz.prog 115 [.rp 0 0,.str s] (rdO r) [.bp (nxt r s).1] (rdO (nxt r s).2):=by
 obtain⟨c,L,sum,gv,line,done⟩:=r;have hl:0≤line∧line≤1000000:=hl;have hL:L.length≤1000000:=hL;unfold nxt;simp only;by_cases h0:line=0
 ·subst h0
  rw[if_pos (by decide),if_pos rfl]
  cases e:bZ s Gt with
  |none=>
   refine bH (md:=1) (rf:=[]) mixed ak jg 2 [] Tryz.func115 (by rfl) (by rfl) (by rfl) ?_
   repeat'((conv=>whnf);first|(intro hq;(try simp only[vw]at hq);try first|exact absurd hq (by decide)|exfalso;omega)|apply aI|with_reducible exact vM rfl|exact⟨⟩|apply nM|apply fM)
   all_goals((try apply vM);(try simp only[vq]at*);try omega)
   all_goals(try(exfalso;omega))
   all_goals(try(exfalso;exact clash (VC.get ‹VC (bZ s _=some _)›) e))
   all_goals(try(exfalso;exact clash e (VC.get ‹VC (bZ s _=none)›)))
   all_goals first|rfl|omega|exact(by decide:(1:Nat)≤2)|exact(by decide:(2:Nat)≤2)|(rw[ahl,afY,afU];omega)|(rw[ahl,afY,afU])
  |some l=>
   by_cases h1:l.length=1
   ·simp only[h1,ne_eq,not_true_eq_false,if_false,if_true]
    refine bH (md:=1) (rf:=[]) mixed ak jg 2 [] Tryz.func115 (by rfl) (by rfl) (by rfl) ?_
    repeat'((conv=>whnf);first|(intro hq;(try simp only[vw]at hq);try first|exact absurd hq (by decide)|exfalso;omega)|apply aI|with_reducible exact vM rfl|exact⟨⟩|apply nM|apply fM)
    all_goals((try apply vM);(try simp only[vq]at*);try omega)
    all_goals(try(exfalso;omega))
    all_goals(try(exfalso;exact clash (VC.get ‹VC (bZ s _=some _)›) e))
    all_goals(try(exfalso;exact clash e (VC.get ‹VC (bZ s _=none)›)))
    all_goals(try(obtain rfl:=Option.some.inj ((VC.get ‹VC (bZ s _=some _)›).symm.trans e)))
    all_goals first|rfl|omega|exact(by decide:(1:Nat)≤2)|exact(by decide:(2:Nat)≤2)|(rw[ahl,afY,afU];omega)|(rw[ahl,afY,afU])
   ·simp only[h1,ne_eq,not_false_eq_true,if_false,if_true]
    refine bH (md:=1) (rf:=[]) mixed ak jg 2 [] Tryz.func115 (by rfl) (by rfl) (by rfl) ?_
    repeat'((conv=>whnf);first|(intro hq;(try simp only[vw]at hq);try first|exact absurd hq (by decide)|exfalso;omega)|apply aI|with_reducible exact vM rfl|exact⟨⟩|apply nM|apply fM)
    all_goals((try apply vM);(try simp only[vq]at*);try omega)
    all_goals(try(exfalso;omega))
    all_goals(try(exfalso;exact clash (VC.get ‹VC (bZ s _=some _)›) e))
    all_goals(try(exfalso;exact clash e (VC.get ‹VC (bZ s _=none)›)))
    all_goals(try(obtain rfl:=Option.some.inj ((VC.get ‹VC (bZ s _=some _)›).symm.trans e)))
    all_goals first|rfl|omega|exact(by decide:(1:Nat)≤2)|exact(by decide:(2:Nat)≤2)|(rw[ahl,afY,afU];omega)|(rw[ahl,afY,afU])
 by_cases h1:line=1
 ·subst h1
  rw[if_pos (by decide),if_neg (by decide)]
  cases e:bZ s iT with
  |none=>
   refine bH (md:=1) (rf:=[]) mixed ak jg 2 [] Tryz.func115 (by rfl) (by rfl) (by rfl) ?_
   repeat'((conv=>whnf);first|(intro hq;(try simp only[vw]at hq);try first|exact absurd hq (by decide)|exfalso;omega)|apply aI|with_reducible exact vM rfl|exact⟨⟩|apply nM|apply fM)
   all_goals((try apply vM);(try simp only[vq]at*);try omega)
   all_goals(try(exfalso;omega))
   all_goals(try(exfalso;exact clash (VC.get ‹VC (bZ s _=some _)›) e))
   all_goals(try(exfalso;exact clash e (VC.get ‹VC (bZ s _=none)›)))
   all_goals first|rfl|omega|exact(by decide:(1:Nat)≤2)|exact(by decide:(2:Nat)≤2)|(rw[ahl,afY,afU];omega)|(rw[ahl,afY,afU])
  |some l=>
   by_cases h1:l.length=1
   ·simp only[h1,ne_eq,not_true_eq_false,if_false]
    rw[if_neg (by decide)]
    refine bH (md:=1) (rf:=[]) mixed ak jg 2 [] Tryz.func115 (by rfl) (by rfl) (by rfl) ?_
    repeat'((conv=>whnf);first|(intro hq;(try simp only[vw]at hq);try first|exact absurd hq (by decide)|exfalso;omega)|apply aI|with_reducible exact vM rfl|exact⟨⟩|apply nM|apply fM)
    all_goals((try apply vM);(try simp only[vq]at*);try omega)
    all_goals(try(exfalso;omega))
    all_goals(try(exfalso;exact clash (VC.get ‹VC (bZ s _=some _)›) e))
    all_goals(try(exfalso;exact clash e (VC.get ‹VC (bZ s _=none)›)))
    all_goals(try(obtain rfl:=Option.some.inj ((VC.get ‹VC (bZ s _=some _)›).symm.trans e)))
    all_goals first|rfl|omega|exact(by decide:(1:Nat)≤2)|exact(by decide:(2:Nat)≤2)|(rw[ahl,afY,afU];omega)|(rw[ahl,afY,afU])
   ·simp only[h1,ne_eq,not_false_eq_true,if_true]
    refine bH (md:=1) (rf:=[]) mixed ak jg 2 [] Tryz.func115 (by rfl) (by rfl) (by rfl) ?_
    repeat'((conv=>whnf);first|(intro hq;(try simp only[vw]at hq);try first|exact absurd hq (by decide)|exfalso;omega)|apply aI|with_reducible exact vM rfl|exact⟨⟩|apply nM|apply fM)
    all_goals((try apply vM);(try simp only[vq]at*);try omega)
    all_goals(try(exfalso;omega))
    all_goals(try(exfalso;exact clash (VC.get ‹VC (bZ s _=some _)›) e))
    all_goals(try(exfalso;exact clash e (VC.get ‹VC (bZ s _=none)›)))
    all_goals(try(obtain rfl:=Option.some.inj ((VC.get ‹VC (bZ s _=some _)›).symm.trans e)))
    all_goals first|rfl|omega|exact(by decide:(1:Nat)≤2)|exact(by decide:(2:Nat)≤2)|(rw[ahl,afY,afU];omega)|(rw[ahl,afY,afU])
 rw[if_neg (by omega)]
 cases done with
 |true=>
  rw[if_pos rfl];refine bH (md:=1) (rf:=[]) mixed ak jg 2 [] Tryz.func115 (by rfl) (by rfl) (by rfl) ?_
  repeat'((conv=>whnf);first|(intro hq;(try simp only[vw]at hq);try first|exact absurd hq (by decide)|exfalso;omega)|apply aI|with_reducible exact vM rfl|exact⟨⟩|apply nM|apply fM)
  all_goals((try apply vM);(try simp only[vq]at*);try omega)
  all_goals(try(exfalso;omega))
  all_goals first|rfl|omega|exact(by decide:(1:Nat)≤2)|exact(by decide:(2:Nat)≤2)|(rw[ahl,afY,afU];omega)|(rw[ahl,afY,afU])
 |false=>
  rw[if_neg (by decide)]
  cases e:bZ s En with
  |some l=>
   refine bH (md:=1) (rf:=[]) mixed ak jg 2 [] Tryz.func115 (by rfl) (by rfl) (by rfl) ?_
   repeat'((conv=>whnf);first|(intro hq;(try simp only[vw]at hq);try first|exact absurd hq (by decide)|exfalso;omega)|apply aI|with_reducible exact vM rfl|exact⟨⟩|apply nM|apply fM)
   all_goals((try apply vM);(try simp only[vq]at*);try omega)
   all_goals(try(exfalso;omega))
   all_goals(try(exfalso;exact clash (VC.get ‹VC (bZ s _=some _)›) e))
   all_goals(try(exfalso;exact clash e (VC.get ‹VC (bZ s _=none)›)))
   all_goals(try(obtain rfl:=Option.some.inj ((VC.get ‹VC (bZ s _=some _)›).symm.trans e)))
   all_goals first|rfl|omega|exact(by decide:(1:Nat)≤2)|exact(by decide:(2:Nat)≤2)|(rw[ahl,afY,afU];omega)|(rw[ahl,afY,afU])
  |none=>
   cases e2:bZ s vC with
   |none=>
    refine bH (md:=1) (rf:=[]) mixed ak jg 2 [] Tryz.func115 (by rfl) (by rfl) (by rfl) ?_
    repeat'((conv=>whnf);first|(intro hq;(try simp only[vw]at hq);try first|exact absurd hq (by decide)|exfalso;omega)|apply aI|with_reducible exact vM rfl|exact⟨⟩|apply nM|apply fM)
    all_goals((try apply vM);(try simp only[vq]at*);try omega)
    all_goals(try(exfalso;omega))
    all_goals(try(exfalso;exact clash (VC.get ‹VC (bZ s _=some _)›) e))
    all_goals(try(exfalso;exact clash e (VC.get ‹VC (bZ s _=none)›)))
    all_goals(try(exfalso;exact clash (VC.get ‹VC (bZ s _=some _)›) e2))
    all_goals first|rfl|omega|exact(by decide:(1:Nat)≤2)|exact(by decide:(2:Nat)≤2)|(rw[ahl,afY,afU];omega)|(rw[ahl,afY,afU])
   |some l=>
    refine bH (md:=1) (rf:=[]) mixed ak jg 2 [] Tryz.func115 (by rfl) (by rfl) (by rfl) ?_
    repeat'((conv=>whnf);first|(intro hq;(try simp only[vw]at hq);try first|exact absurd hq (by decide)|exfalso;omega)|apply aI|with_reducible exact vM rfl|exact⟨⟩|apply nM|apply fM)
    all_goals((try apply vM);(try simp only[vq]at*);try omega)
    all_goals(try(exfalso;omega))
    all_goals(try(exfalso;exact clash (VC.get ‹VC (bZ s _=some _)›) e))
    all_goals(try(exfalso;exact clash e (VC.get ‹VC (bZ s _=none)›)))
    all_goals(try(exfalso;exact clash e2 (VC.get ‹VC (bZ s vC=none)›)))
    all_goals(try(obtain rfl:=Option.some.inj ((VC.get ‹VC (bZ s _=some _)›).symm.trans e2)))
    all_goals first|rfl|omega|exact(by decide:(1:Nat)≤2)|exact(by decide:(2:Nat)≤2)|(rw[ahl,afY,afU];omega)|(rw[ahl,afY,afU])
def Ui:LSp:=fun xs objs K=>match xs,objs with
 | [.rp 0 0,.str s],[.cells (.pv [.int .i64 c,.isl (.rows .i64 L) (.own 1),.int .i64 sum,.isl (.ints .i64 gv) .none,.int .i64 line,.bp done]) false,.tok 1 m]=>
  VC (m=L.length∧s.size≤1000000∧(0≤line∧line≤1000000)∧L.length≤1000000)∧K [.bp (nxt ⟨c,L,sum,gv,line,done⟩ s).1] (rdO (nxt ⟨c,L,sum,gv,line,done⟩ s).2)
 |_,_=>False
theorem acZ:LOK Tryz.prog 115 Ui:=by
 intro xs objs K hk;unfold Ui at hk;split at hk
 ·obtain⟨⟨rfl,h1,h2,h3⟩,hk⟩:=hk
  exact⟨_,_,hk,Uh ⟨_,_,_,_,_,_⟩ _ h1 h2 h3⟩
 ·exact hk.elim
end Go.Eng.YtcechbdgokjmgaaGreatDoor
namespace Go.Eng.YtcechbdgokjmgaaGreatDoor
open Go.Proofs
set_option linter.unusedSimpArgs false
set_option linter.unusedVariables false
set_option maxHeartbeats 0
set_option maxRecDepth 100000
def oI:PSp:=fun xs K=>match xs with
 | [.str r]=>∃g:Int,VC (bG r=g)∧K (.int .i64 g)
 |_=>False
theorem qx:POK Tryz.prog 101 oI:=by
 intro xs K hk;unfold oI at hk;split at hk
 ·obtain⟨g,⟨rfl⟩,hk⟩:=hk
  exact⟨_,hk,NJ _⟩
 ·exact hk.elim
structure Bp (c:Int) (ls:List (List Int)) (r:ByteArray) (y x k:Int):Prop where
 g:1≤bG r
 y:0≤y∧y<c
 x:1≤x∧x≤c
 k:bG r=2∨bG r=3∨(0≤k∧k<ls.length)
abbrev bdO (c:Int) (ls:List (List Int)) (sum:Int) (gv:List Int) (s:St) (n:Nat):List AO:=[.cells (.pv [.int .i64 c,.isl (.rows .i64 ls) .none,.int .i64 sum,.isl (.ints .i64 gv) .none,.rsl 1 0 n,.rsl 2 0 n]) false,.cells (.ints .u32 (ms s.cs)) false,.cells (.bools s.ds) false]
noncomputable def afb:CPT:=aA 101 (aB oI) (aA 130 (aB pG) noC)
theorem lq:aU Tryz.prog afb:=aj (au qx) (aj (au pI) aC)
theorem nI (cs:List (List Int)) (i:Nat) (l:List Int):(ms cs).set i (mk l:Nat)=ms (cs.set i l):=by unfold ms;rw[List.map_set]
def dlt (cs:List (List Int)) (x:Int) (i:Nat):List (List Int):=(agc cs.length).map fun j=>if j<i then dP (cs.getD j []) x else cs.getD j []
theorem oJ (cs:List (List Int)) (x:Int) (i:Nat):(dlt cs x i).length=cs.length:=by simp[dlt]
theorem yE (cs:List (List Int)) (x:Int):dlt cs x 0=cs:=by
 refine aiY (oJ _ _ _) fun j h1 h2=>?_;simp[dlt,agf,h2]
theorem Bq (cs:List (List Int)) (x:Int):dlt cs x cs.length=cs.map fun l=>dP l x:=by
 refine aiY (by simp[oJ]) fun j h1 h2=>?_
 have hj:j<cs.length:=by simpa using h2
 simp[dlt,agf,hj]
theorem Gu {cs:List (List Int)} {x:Int} {i:Nat} (h:i<cs.length):(dlt cs x i).getD i []=cs.getD i []:=by
 simp[dlt,agf,h]
theorem yF {cs:List (List Int)} {x:Int} {i:Nat} (h:i<cs.length):(dlt cs x i).set i (dP (cs.getD i []) x)=dlt cs x (i+1):=by
 refine aiY (by simp[oJ]) fun j h1 h2=>?_
 rw[aiZ];simp only[dlt,ai0,ai1];by_cases e:i=j
 ·subst e;rw[if_pos rfl,if_pos (by omega)]
 ·rw[if_neg e]
  by_cases hl:j<i
  ·rw[if_pos hl,if_pos (by omega)]
  ·rw[if_neg hl,if_neg (by omega)]
theorem NM (c:Int) (ls:List (List Int)) (sum:Int) (gv:List Int) (s:St) (n:Nat) (h:bL c ls sum s) (hn:n=s.cs.length) (r:ByteArray) (y x k:Int) (hd:Bp c ls r y x k):
 iM Tryz.prog 128 [.rp 0 0,ddV r y x k] (bdO c ls sum gv s n) [] (bdO c ls sum gv (apl (bG r).toNat s y x) n):=by
 have hc:=h.c1;have hy:=hd.y;have hx:=hd.x;have hxs:=h.at hy;have hm:(ms s.cs).getD y.toNat 0=(mk (s.cd y.toNat):Nat):=fD hxs.1;have hA:=(h.asc _ hxs.1).1;have hr:=pE hA;have hlen:=dL s.cs;have hcl:=h.cl;have hdl:=h.dl;have hte:=zD;have hsb:=kH x.toNat (by omega)
 have hdel:=qN hA.inM (show 0≤x∧x≤31 by omega)
 have hone:(1:Int)*2 ^ x.toNat=((mk [x]:Nat):Int):=by rw[mk_one,aic];norm_cast
 have hm1:y.toNat+1≤(ms s.cs).length∧y.toNat+1≤s.ds.length∧y<n:=by omega
 obtain⟨rfl,hg⟩|⟨rfl,hg⟩|⟨rfl,hg⟩|⟨rfl,hg⟩|⟨rfl,hg⟩|hg:=sQ r
 ·rw[hg,show apl (aiw 1) s y x=⟨(s.cs.map fun l=>dP l x).set y.toNat [x],s.ds.set y.toNat true⟩from rfl]
  refine bH (md:=1) (rf:=[]) mixed ak lq 3 [] Tryz.func128 (by rfl) (by rfl) (by rfl) ?_
  repeat'((conv=>whnf);first|refine Exists.intro (1) ?_|(intro hq;(try simp only[vw]at hq);try first|exact absurd hq (by decide)|exfalso;omega)|apply aI|with_reducible exact vM rfl|exact⟨⟩|apply nM|apply fM)
  all_goals((try apply vM);(try simp only[vq]at*);try omega)
  all_goals(try first|omega|(rw[hte];decide))
  conv=>whnf
  refine aM (X:=Nat) (fun i=>i≤s.cs.length) (fun i=>[(30,.int .i64 i)]) (fun i=>[(1,.cells (.ints .u32 (ms (dlt s.cs x i))) false)]) (fun i=>s.cs.length-i) 0 ⟨aK,mixed,ak,lq,aP⟩ (by rfl) (by omega) ?_ ?_
  ·repeat'((conv=>whnf);first|intro _|apply aI|with_reducible exact vM rfl|exact⟨⟩|apply nM|apply fM)
   all_goals((try apply vM);(try simp only[vq]at*);try omega)
   all_goals(try rw[yE])
  intro i hi;have hl1:=dL (dlt s.cs x i);have hl2:=oJ s.cs x i;by_cases hlt:i<s.cs.length
  ·have hAi:=(h.asc _ hlt).1
   have hmi:(ms (dlt s.cs x i)).getD i 0=(mk (s.cd i):Nat):=by rw[fD (by omega),Gu hlt];rfl
   have hdi:=qN hAi.inM (show 0≤x∧x≤31 by omega)
   repeat'((conv=>whnf);first|(intro hq;(try simp only[vw]at hq);try first|exact absurd hq (by decide)|exfalso;omega)|apply aI|with_reducible exact vM rfl|exact⟨⟩|apply nM|apply fM)
   all_goals((try apply vM);(try simp only[vq]at*);try omega)
   all_goals(try omega)
   refine⟨i+1,[],⟨by omega,by omega⟩,?_⟩
   repeat'((conv=>whnf);first|intro _|apply aI|with_reducible exact vM rfl|exact⟨⟩|apply nM|apply fM)
   all_goals((try apply vM);(try simp only[vq]at*);try omega)
   all_goals(rw[hmi,hdi,nI];exact congrArg ms (yF hlt))
  ·have:i=s.cs.length:=by omega
   subst this;rw[Bq]at*
   repeat'((conv=>whnf);first|(intro hq;(try simp only[vw]at hq);try first|exact absurd hq (by decide)|exfalso;omega)|apply aI|with_reducible exact vM rfl|exact⟨⟩|apply nM|apply fM)
   all_goals((try apply vM);(try simp only[vq]at*);try omega)
   all_goals(try omega)
   all_goals(rw[hone];exact nI _ _ _)
 ·rw[hg,show apl (aiw 2) s y x=⟨(s.cs.map fun l=>dP l x).set y.toNat [x],s.ds.set y.toNat true⟩from rfl]
  refine bH (md:=1) (rf:=[]) mixed ak lq 3 [] Tryz.func128 (by rfl) (by rfl) (by rfl) ?_
  repeat'((conv=>whnf);first|refine Exists.intro (2) ?_|(intro hq;(try simp only[vw]at hq);try first|exact absurd hq (by decide)|exfalso;omega)|apply aI|with_reducible exact vM rfl|exact⟨⟩|apply nM|apply fM)
  all_goals((try apply vM);(try simp only[vq]at*);try omega)
  all_goals(try first|omega|(rw[hte];decide))
  conv=>whnf
  refine aM (X:=Nat) (fun i=>i≤s.cs.length) (fun i=>[(30,.int .i64 i)]) (fun i=>[(1,.cells (.ints .u32 (ms (dlt s.cs x i))) false)]) (fun i=>s.cs.length-i) 0 ⟨aK,mixed,ak,lq,aP⟩ (by rfl) (by omega) ?_ ?_
  ·repeat'((conv=>whnf);first|intro _|apply aI|with_reducible exact vM rfl|exact⟨⟩|apply nM|apply fM)
   all_goals((try apply vM);(try simp only[vq]at*);try omega)
   all_goals(try rw[yE])
  intro i hi;have hl1:=dL (dlt s.cs x i);have hl2:=oJ s.cs x i;by_cases hlt:i<s.cs.length
  ·have hAi:=(h.asc _ hlt).1
   have hmi:(ms (dlt s.cs x i)).getD i 0=(mk (s.cd i):Nat):=by rw[fD (by omega),Gu hlt];rfl
   have hdi:=qN hAi.inM (show 0≤x∧x≤31 by omega)
   repeat'((conv=>whnf);first|(intro hq;(try simp only[vw]at hq);try first|exact absurd hq (by decide)|exfalso;omega)|apply aI|with_reducible exact vM rfl|exact⟨⟩|apply nM|apply fM)
   all_goals((try apply vM);(try simp only[vq]at*);try omega)
   all_goals(try omega)
   refine⟨i+1,[],⟨by omega,by omega⟩,?_⟩
   repeat'((conv=>whnf);first|intro _|apply aI|with_reducible exact vM rfl|exact⟨⟩|apply nM|apply fM)
   all_goals((try apply vM);(try simp only[vq]at*);try omega)
   all_goals(rw[hmi,hdi,nI];exact congrArg ms (yF hlt))
  ·have:i=s.cs.length:=by omega
   subst this;rw[Bq]at*
   repeat'((conv=>whnf);first|(intro hq;(try simp only[vw]at hq);try first|exact absurd hq (by decide)|exfalso;omega)|apply aI|with_reducible exact vM rfl|exact⟨⟩|apply nM|apply fM)
   all_goals((try apply vM);(try simp only[vq]at*);try omega)
   all_goals(try omega)
   all_goals(rw[hone];exact nI _ _ _)
 ·rw[hg,show apl (aiw 3) s y x=⟨(s.cs.map fun l=>dP l x).set y.toNat [x],s.ds.set y.toNat true⟩from rfl]
  refine bH (md:=1) (rf:=[]) mixed ak lq 3 [] Tryz.func128 (by rfl) (by rfl) (by rfl) ?_
  repeat'((conv=>whnf);first|refine Exists.intro (3) ?_|(intro hq;(try simp only[vw]at hq);try first|exact absurd hq (by decide)|exfalso;omega)|apply aI|with_reducible exact vM rfl|exact⟨⟩|apply nM|apply fM)
  all_goals((try apply vM);(try simp only[vq]at*);try omega)
  all_goals(try first|omega|(rw[hte];decide))
  conv=>whnf
  refine aM (X:=Nat) (fun i=>i≤s.cs.length) (fun i=>[(30,.int .i64 i)]) (fun i=>[(1,.cells (.ints .u32 (ms (dlt s.cs x i))) false)]) (fun i=>s.cs.length-i) 0 ⟨aK,mixed,ak,lq,aP⟩ (by rfl) (by omega) ?_ ?_
  ·repeat'((conv=>whnf);first|intro _|apply aI|with_reducible exact vM rfl|exact⟨⟩|apply nM|apply fM)
   all_goals((try apply vM);(try simp only[vq]at*);try omega)
   all_goals(try rw[yE])
  intro i hi;have hl1:=dL (dlt s.cs x i);have hl2:=oJ s.cs x i;by_cases hlt:i<s.cs.length
  ·have hAi:=(h.asc _ hlt).1
   have hmi:(ms (dlt s.cs x i)).getD i 0=(mk (s.cd i):Nat):=by rw[fD (by omega),Gu hlt];rfl
   have hdi:=qN hAi.inM (show 0≤x∧x≤31 by omega)
   repeat'((conv=>whnf);first|(intro hq;(try simp only[vw]at hq);try first|exact absurd hq (by decide)|exfalso;omega)|apply aI|with_reducible exact vM rfl|exact⟨⟩|apply nM|apply fM)
   all_goals((try apply vM);(try simp only[vq]at*);try omega)
   all_goals(try omega)
   refine⟨i+1,[],⟨by omega,by omega⟩,?_⟩
   repeat'((conv=>whnf);first|intro _|apply aI|with_reducible exact vM rfl|exact⟨⟩|apply nM|apply fM)
   all_goals((try apply vM);(try simp only[vq]at*);try omega)
   all_goals(rw[hmi,hdi,nI];exact congrArg ms (yF hlt))
  ·have:i=s.cs.length:=by omega
   subst this;rw[Bq]at*
   repeat'((conv=>whnf);first|(intro hq;(try simp only[vw]at hq);try first|exact absurd hq (by decide)|exfalso;omega)|apply aI|with_reducible exact vM rfl|exact⟨⟩|apply nM|apply fM)
   all_goals((try apply vM);(try simp only[vq]at*);try omega)
   all_goals(try omega)
   all_goals(rw[hone];exact nI _ _ _)
 ·rw[hg,show apl (aiw 4) s y x=⟨s.cs.set y.toNat (dP (s.cd y.toNat) x),s.ds⟩from rfl]
  refine bH (md:=1) (rf:=[]) mixed ak lq 3 [] Tryz.func128 (by rfl) (by rfl) (by rfl) ?_
  repeat'((conv=>whnf);first|refine Exists.intro (4) ?_|(intro hq;(try simp only[vw]at hq);try first|exact absurd hq (by decide)|exfalso;omega)|apply aI|with_reducible exact vM rfl|exact⟨⟩|apply nM|apply fM)
  all_goals((try apply vM);(try simp only[vq]at*);try omega)
  all_goals(try first|omega|(rw[hte];decide))
  all_goals(try rw[hm,hdel,nI])
 ·rw[hg,show apl (aiw 5) s y x=⟨s.cs.set y.toNat (dP (s.cd y.toNat) x),s.ds⟩from rfl]
  refine bH (md:=1) (rf:=[]) mixed ak lq 3 [] Tryz.func128 (by rfl) (by rfl) (by rfl) ?_
  repeat'((conv=>whnf);first|refine Exists.intro (5) ?_|(intro hq;(try simp only[vw]at hq);try first|exact absurd hq (by decide)|exfalso;omega)|apply aI|with_reducible exact vM rfl|exact⟨⟩|apply nM|apply fM)
  all_goals((try apply vM);(try simp only[vq]at*);try omega)
  all_goals(try first|omega|(rw[hte];decide))
  all_goals(try rw[hm,hdel,nI])
 have:=hd.g;omega
def fH (c:Int) (ls:List (List Int)) (r:ByteArray) (y x k:Int):Int:=
 if bG r=0 then 13 else if y<0∨c≤y then 10 else if x<1∨c<x then 3 else if bG r=2∨bG r=3 then(if k≠ -1 then 10 else 0)else if k<0∨ls.length≤k∨y∉ls.getD k.toNat []then 10 else 0
noncomputable def afc:CPT:=aA 88 (aB jf) (aA 89 (aB eG) (aA 94 (aB zO) (aA 101 (aB oI) (aA 130 (aB pG) noC))))
theorem lu:aU Tryz.prog afc:=aj (au iI) (aj (au iR) (aj (au Bf) (aj (au qx) (aj (au pI) aC))))
theorem Uj (c:Int) (ls:List (List Int)) (sum:Int) (gv:List Int) (h:bK ls) (r:ByteArray) (y x k:Int):
 aF Tryz.prog 126 [pzV c ls sum gv,ddV r y x k] (.int .i64 (fH c ls r y x k)):=by
 have hte:=zD;have h4:=fun i=>h.at' i;have h2:=h.len;by_cases hg:bG r=0
 ·rw[show fH c ls r y x k=13 by unfold fH;rw[if_pos hg]]
  refine av (md:=1) (rf:=[]) mixed ak lu Tryz.func126 (by rfl) (by rfl) (by rfl) ?_
  repeat'((conv=>whnf);first|refine Exists.intro (0) ?_|(intro hq;(try simp only[vw]at hq);try first|exact absurd hq (by decide)|exfalso;omega)|apply aI|with_reducible exact vM rfl|exact⟨⟩|apply nM|apply fM)
  all_goals((try apply vM);(try simp only[vq]at*);try omega)
  all_goals first|exact hg|(exfalso;simp[aJ]at hq;done)|(exact Sup.of (by simp[bE,aJ]))|skip
 by_cases hy:y<0∨c≤y
 ·rw[show fH c ls r y x k=10 by unfold fH;rw[if_neg hg,if_pos hy]]
  refine av (md:=1) (rf:=[]) mixed ak lu Tryz.func126 (by rfl) (by rfl) (by rfl) ?_
  repeat'((conv=>whnf);first|refine Exists.intro (bG r) ?_|(intro hq;(try simp only[vw]at hq);try first|exact absurd hq (by decide)|exfalso;omega)|apply aI|with_reducible exact vM rfl|exact⟨⟩|apply nM|apply fM)
  all_goals((try apply vM);(try simp only[vq]at*);try omega)
  all_goals(try rw[if_neg hg]at hq)
  all_goals(try rw[if_neg hg])
  all_goals first|(exfalso;simp_all[aJ];done)|(exact Sup.of (by simp_all[bE,aJ]))|skip
 by_cases hx:x<1∨c<x
 ·rw[show fH c ls r y x k=3 by unfold fH;rw[if_neg hg,if_neg hy,if_pos hx]]
  have hy1:¬y<0:=fun e=>hy (.inl e);have hy2:¬c≤y:=fun e=>hy (.inr e);clear hy;refine av (md:=1) (rf:=[]) mixed ak lu Tryz.func126 (by rfl) (by rfl) (by rfl) ?_
  repeat'((conv=>whnf);first|refine Exists.intro (bG r) ?_|(intro hq;(try simp only[vw]at hq);try first|exact absurd hq (by decide)|exfalso;omega)|apply aI|with_reducible exact vM rfl|exact⟨⟩|apply nM|apply fM)
  all_goals((try apply vM);(try simp only[vq]at*);try omega)
  all_goals(try rw[if_neg hg]at hq)
  all_goals(try rw[if_neg hg])
  all_goals first|(exfalso;simp_all[aJ];done)|(exact Sup.of (by simp_all[bE,aJ]))|skip
 have hy1:¬y<0:=fun e=>hy (.inl e);have hy2:¬c≤y:=fun e=>hy (.inr e);have hx1:¬x<1:=fun e=>hx (.inl e);have hx2:¬c<x:=fun e=>hx (.inr e);obtain⟨rfl,hgr⟩|⟨rfl,hgr⟩|⟨rfl,hgr⟩|⟨rfl,hgr⟩|⟨rfl,hgr⟩|hgr:=sQ r
 ·rw[show fH c ls bM y x k=if k<0∨ls.length≤k∨y∉ls.getD k.toNat []then 10 else 0 by unfold fH;rw[if_neg (by rw[hgr];decide),if_neg hy,if_neg hx,if_neg (by rw[hgr];decide)]]
  clear hy hx hg;refine av (md:=1) (rf:=[]) mixed ak lu Tryz.func126 (by rfl) (by rfl) (by rfl) ?_
  repeat'((conv=>whnf);first|refine Exists.intro (1) ?_|(intro hq;(try simp only[vw]at hq);try first|exact absurd hq (by decide)|exfalso;omega)|apply aI|with_reducible exact vM rfl|exact⟨⟩|apply nM|apply fM)
  all_goals((try apply vM);(try simp only[vq]at*);try omega)
  all_goals first|exact hgr|(rw[hte];decide)|(exfalso;simp_all[aJ];done)|(have:=h4 k.toNat;omega)|skip
  all_goals(refine Sup.of (congrArg (PV.int .i64) ?_))
  ·rename_i h9
   by_cases hm:y∈ls.getD k.toNat []
   ·rw[if_neg (show¬(k<0∨ ↑ls.length≤k∨¬y∈ls.getD k.toNat [])from fun e=>by rcases e with e|e|e;exact h9 e;exact hq e;exact e hm),decide_eq_true hm];rfl
   ·rw[if_pos (show k<0∨ ↑ls.length≤k∨¬y∈ls.getD k.toNat []from .inr (.inr hm)),decide_eq_false hm];rfl
  ·rw[if_pos trivial,if_pos (.inr (.inl hq))]
  ·rw[if_pos trivial,if_pos (.inl hq)]
 ·rw[show fH c ls bT y x k=if k≠ -1 then 10 else 0 by unfold fH;rw[if_neg (by rw[hgr];decide),if_neg hy,if_neg hx,if_pos (by rw[hgr];decide)]]
  clear hy hx hg;refine av (md:=1) (rf:=[]) mixed ak lu Tryz.func126 (by rfl) (by rfl) (by rfl) ?_
  repeat'((conv=>whnf);first|refine Exists.intro (2) ?_|(intro hq;(try simp only[vw]at hq);try first|exact absurd hq (by decide)|exfalso;omega)|apply aI|with_reducible exact vM rfl|exact⟨⟩|apply nM|apply fM)
  all_goals((try apply vM);(try simp only[vq]at*);try omega)
  all_goals first|exact hgr|(rw[hte];decide)|(exfalso;simp_all[aJ];done)|(exact Sup.of (by simp[bE]))|skip
 ·rw[show fH c ls bU y x k=if k≠ -1 then 10 else 0 by unfold fH;rw[if_neg (by rw[hgr];decide),if_neg hy,if_neg hx,if_pos (by rw[hgr];decide)]]
  clear hy hx hg;refine av (md:=1) (rf:=[]) mixed ak lu Tryz.func126 (by rfl) (by rfl) (by rfl) ?_
  repeat'((conv=>whnf);first|refine Exists.intro (3) ?_|(intro hq;(try simp only[vw]at hq);try first|exact absurd hq (by decide)|exfalso;omega)|apply aI|with_reducible exact vM rfl|exact⟨⟩|apply nM|apply fM)
  all_goals((try apply vM);(try simp only[vq]at*);try omega)
  all_goals first|exact hgr|(rw[hte];decide)|(exfalso;simp_all[aJ];done)|(exact Sup.of (by simp[bE]))|skip
 ·rw[show fH c ls bR y x k=if k<0∨ls.length≤k∨y∉ls.getD k.toNat []then 10 else 0 by unfold fH;rw[if_neg (by rw[hgr];decide),if_neg hy,if_neg hx,if_neg (by rw[hgr];decide)]]
  clear hy hx hg;refine av (md:=1) (rf:=[]) mixed ak lu Tryz.func126 (by rfl) (by rfl) (by rfl) ?_
  repeat'((conv=>whnf);first|refine Exists.intro (4) ?_|(intro hq;(try simp only[vw]at hq);try first|exact absurd hq (by decide)|exfalso;omega)|apply aI|with_reducible exact vM rfl|exact⟨⟩|apply nM|apply fM)
  all_goals((try apply vM);(try simp only[vq]at*);try omega)
  all_goals first|exact hgr|(rw[hte];decide)|(exfalso;simp_all[aJ];done)|(have:=h4 k.toNat;omega)|skip
  all_goals(refine Sup.of (congrArg (PV.int .i64) ?_))
  ·rename_i h9
   by_cases hm:y∈ls.getD k.toNat []
   ·rw[if_neg (show¬(k<0∨ ↑ls.length≤k∨¬y∈ls.getD k.toNat [])from fun e=>by rcases e with e|e|e;exact h9 e;exact hq e;exact e hm),decide_eq_true hm];rfl
   ·rw[if_pos (show k<0∨ ↑ls.length≤k∨¬y∈ls.getD k.toNat []from .inr (.inr hm)),decide_eq_false hm];rfl
  ·rw[if_pos trivial,if_pos (.inr (.inl hq))]
  ·rw[if_pos trivial,if_pos (.inl hq)]
 ·rw[show fH c ls bS y x k=if k<0∨ls.length≤k∨y∉ls.getD k.toNat []then 10 else 0 by unfold fH;rw[if_neg (by rw[hgr];decide),if_neg hy,if_neg hx,if_neg (by rw[hgr];decide)]]
  clear hy hx hg;refine av (md:=1) (rf:=[]) mixed ak lu Tryz.func126 (by rfl) (by rfl) (by rfl) ?_
  repeat'((conv=>whnf);first|refine Exists.intro (5) ?_|(intro hq;(try simp only[vw]at hq);try first|exact absurd hq (by decide)|exfalso;omega)|apply aI|with_reducible exact vM rfl|exact⟨⟩|apply nM|apply fM)
  all_goals((try apply vM);(try simp only[vq]at*);try omega)
  all_goals first|exact hgr|(rw[hte];decide)|(exfalso;simp_all[aJ];done)|(have:=h4 k.toNat;omega)|skip
  all_goals(refine Sup.of (congrArg (PV.int .i64) ?_))
  ·rename_i h9
   by_cases hm:y∈ls.getD k.toNat []
   ·rw[if_neg (show¬(k<0∨ ↑ls.length≤k∨¬y∈ls.getD k.toNat [])from fun e=>by rcases e with e|e|e;exact h9 e;exact hq e;exact e hm),decide_eq_true hm];rfl
   ·rw[if_pos (show k<0∨ ↑ls.length≤k∨¬y∈ls.getD k.toNat []from .inr (.inr hm)),decide_eq_false hm];rfl
  ·rw[if_pos trivial,if_pos (.inr (.inl hq))]
  ·rw[if_pos trivial,if_pos (.inl hq)]
 exact absurd hgr hg
def Uk:PSp:=fun xs K=>match xs with
 | [.agg [.int .i64 c,.isl (.rows .i64 ls) .none,.int .i64 sum,.isl (.ints .i64 gv) .none],.agg [.str r,.int .i64 y,.int .i64 x,.int .i64 k]]=>VC (bK ls)∧K (.int .i64 (fH c ls r y x k))
 |_=>False
theorem ac0:POK Tryz.prog 126 Uk:=by
 intro xs K h;unfold Uk at h;split at h
 ·exact⟨_,h.2,Uj _ _ _ _ h.1.get _ _ _ _⟩
 ·exact h.elim
theorem Bp.of {c:Int} {ls:List (List Int)} {r:ByteArray} {y x k:Int} (h:fH c ls r y x k=0):Bp c ls r y x k:=by
 unfold fH at h;by_cases h1:bG r=0
 ·rw[if_pos h1]at h;cases h
 rw[if_neg h1]at h;by_cases h2:y<0∨c≤y
 ·rw[if_pos h2]at h;cases h
 rw[if_neg h2]at h;by_cases h3:x<1∨c<x
 ·rw[if_pos h3]at h;cases h
 rw[if_neg h3]at h;have hg:1≤bG r:=by
  obtain⟨_,hg⟩|⟨_,hg⟩|⟨_,hg⟩|⟨_,hg⟩|⟨_,hg⟩|hg:=sQ r;all_goals omega
 refine⟨hg,by omega,by omega,?_⟩
 by_cases h4:bG r=2∨bG r=3
 ·rcases h4 with h4|h4
  ·exact .inl h4
  ·exact .inr (.inl h4)
 rw[if_neg h4]at h;by_cases h5:k<0∨ls.length≤k∨y∉ls.getD k.toNat []
 ·rw[if_pos h5]at h;cases h
 ·refine .inr (.inr ?_)
  constructor
  ·exact Int.not_lt.1 fun e=>h5 (.inl e)
  ·exact Int.not_le.1 fun e=>h5 (.inr (.inl e))
theorem qU {go:List PV→Bool} {L A B:List PV} {d:PV} (h:L=A++d::B) (hg:GoTo go L A.length):Nxt go L A d:=⟨A.length,by rw[h];simp,by rw[h];simp,by rw[h];simp,hg⟩
theorem vD {L A B:List PV} {d:PV} (h:L=A++d::B):L.take (A.length+1)=A++[d]:=by
 rw[h,List.take_append,ai2 (by omega)];simp
theorem pJ {go:List PV→Bool} {L A B:List PV} {d:PV} (h:L=A++d::B) (hg:GoTo go L A.length) (ht:go (A++[d])=true):GoTo go L (A++[d]).length:=by
 rw[ahl];exact hg.succ (by rw[vD h];exact ht)
theorem pK {go:List PV→Bool} {L A B:List PV} {d:PV} (h:L=A++d::B) (hg:GoTo go L A.length) (ht:go (A++[d])=false):A++[d]=iy go [] L:=by
 rw[←vD h,uP (by rw[h];simp) hg (by rw[vD h];exact ht)]
theorem pO {go:List PV→Bool} {L:List PV} (hg:GoTo go L L.length):L=iy go [] L:=by rw[xS (af3 _) hg]
theorem Gv {α:Type} (f:Nat→List α) {j:Nat}:∀{m:Nat},j<m→∃B,(agc m).flatMap f=(agc j).flatMap f++(f j++B):=by
 intro m;induction m with
 |zero=>intro h;omega
 |succ m ih=>
  intro h;rw[ai3,ai4];by_cases e:j=m
  ·subst e;exact⟨[],by simp⟩
  ·obtain⟨B,hB⟩:=ih (by omega)
   exact⟨B++[m].flatMap f,by rw[hB];simp⟩
theorem jh {α:Type} (f:Nat→List α) (j:Nat):(agc (j+1)).flatMap f=(agc j).flatMap f++f j:=by
 rw[ai3,ai4];simp
def lnG (g:Nat):Bool:=g==1||g==4||g==5
def cO (g:Nat) (nm:ByteArray) (s:St) (sum:Int) (l:List Int) (k:Int) (i t:Nat):List PV:=(((s.cd i).take t).filter fun x=>jst g s sum l i x).map fun x=>ddV nm i x k
def dG (g:Nat) (nm:ByteArray) (s:St) (sum:Int) (l:List Int) (k:Int) (i:Nat):List PV:=if s.dc i||(lnG g&&!decide ((i:Int)∈l))then []else cO g nm s sum l k i (s.cd i).length
def bA (g:Nat) (nm:ByteArray) (s:St) (sum:Int) (ls:List (List Int)) (k:Int) (n:Nat):List PV:=(agc n).flatMap fun i=>dG g nm s sum (ls.getD k.toNat []) k i
def bg (g:Nat) (nm:ByteArray) (s:St) (sum:Int) (ls:List (List Int)) (fr:Int) (m:Nat):List PV:=(agc m).flatMap fun j:Nat=>bA g nm s sum ls (fr+j) s.cs.length
theorem fQ {g:Nat} {nm:ByteArray} {s:St} {sum:Int} {l:List Int} {k:Int} {i:Nat}:cO g nm s sum l k i 0=[]:=rfl
theorem fT {g:Nat} {nm:ByteArray} {s:St} {sum:Int} {l:List Int} {k:Int} {i t:Nat} (h:t<(s.cd i).length):
 cO g nm s sum l k i (t+1)=cO g nm s sum l k i t++if jst g s sum l i ((s.cd i).getD t 0)then [ddV nm i ((s.cd i).getD t 0) k]else []:=by
 unfold cO;rw[dZ h,ai5,ah5,ai6,ai7];split<;>simp
theorem NP {g:Nat} {nm:ByteArray} {s:St} {sum:Int} {l:List Int} {k:Int} {i t:Nat} (h:t<(s.cd i).length) (hj:jst g s sum l i ((s.cd i).getD t 0)=true):
 ∃B,cO g nm s sum l k i (s.cd i).length=cO g nm s sum l k i t++ddV nm i ((s.cd i).getD t 0) k::B:=by
 have e:(s.cd i).take (s.cd i).length=(s.cd i).take t++((s.cd i).getD t 0::(s.cd i).drop (t+1)):=by rw[ah6,←drop_cons h,List.take_append_drop]
 unfold cO;rw[e,ai5,ah5,ai6,if_pos hj,ah1];exact⟨_,rfl⟩
theorem nJ {g:Nat} {nm:ByteArray} {s:St} {sum:Int} {ls:List (List Int)} {fr:Int} {m j i t:Nat} (hj:j<m) (hi:i<s.cs.length) (ht:t<(s.cd i).length)
 (hc:(s.dc i||(lnG g&&!decide ((i:Int)∈ls.getD (fr+j).toNat [])))=false) (hh:jst g s sum (ls.getD (fr+j).toNat []) i ((s.cd i).getD t 0)=true):
 ∃B,bg g nm s sum ls fr m=(bg g nm s sum ls fr j++bA g nm s sum ls (fr+j) i++cO g nm s sum (ls.getD (fr+j).toNat []) (fr+j) i t)++ddV nm i ((s.cd i).getD t 0) (fr+j)::B:=by
 obtain⟨B1,h1⟩:=Gv (fun j:Nat=>bA g nm s sum ls (fr+j) s.cs.length) hj;obtain⟨B2,h2⟩:=Gv (fun i=>dG g nm s sum (ls.getD (fr+j).toNat []) (fr+j) i) hi;obtain⟨B3,h3⟩:=NP (nm:=nm) (k:=fr+j) ht hh;have h4:dG g nm s sum (ls.getD (fr+j).toNat []) (fr+j) i=cO g nm s sum (ls.getD (fr+j).toNat []) (fr+j) i (s.cd i).length:=by
  unfold dG;rw[hc];rfl
 refine⟨B3++B2++B1,?_⟩;unfold bg;rw[h1];simp only[bA,h2,h4,h3,ai8,List.cons_append]
noncomputable def Br:CPT:=aA 94 (aB zO) (aA 149 (aB zK) (aA 172 (aB (nH AQ)) (aA 173 (aB (qR fun s y x=>AU s y)) (aA 174 (aB (qR sJ)) (aA 175 (aB (nH AV)) (aA 176 (aB (nH AX)) noC))))))
theorem eX:aU Tryz.prog Br:=aj (au Bf) (aj (au Bd) (aj (au ZJ) (aj (au ZK) (aj (au TV) (aj (au ND) (aj (au DT) aC))))))
abbrev rlV (nm:ByteArray) (d l:Bool) (k:Nat):PV:=.ip (.pv [.str nm,.bool d,.bool l,kF k]) 0
theorem QI (c:Int) (ls:List (List Int)) (sum:Int) (gv:List Int) (s:St) (h:bL c ls sum s):
 mY Tryz.prog 180 [] [.ip (.pv [.int .i64 0]) 0,.ip (.pv [.int .i64 ls.length]) 0,.ip (.pv [bdV c ls sum gv s]) 0,rlV bM true true 172] 1 (bg 1 bM s sum ls 0 ls.length):=by
 refine kQ (md:=1) (rf:=[]) mixed ak Tryz.func180 (by rfl) (by rfl) (by rfl) fun G go b hY=>⟨_,eX,?_⟩
 obtain⟨L,hL⟩:∃L,L=bg 1 bM s sum ls 0 ls.length:=⟨_,rfl⟩;rw[←hL]at hY⊢;have W:Walk Tryz.prog none j5 tab.get Br (sj b 1 G go L):=⟨aK,mixed,ak,eX,hY _ _⟩;have hcl:=h.cl;have hdl:=h.dl;have hc1:=h.c1;have hms:=dL s.cs;have hll:=h.ll
 repeat'((conv=>whnf);first|intro _|apply aI|with_reducible exact vM rfl|exact⟨⟩|apply nM|apply fM)
 all_goals((try apply vM);(try simp only[vq]at*);try omega)
 conv=>whnf
 refine aM (X:=Nat) (fun j=>j≤ls.length∧GoTo go L (bg 1 bM s sum ls 0 j).length) (fun j=>[(6,.rp 2 0)]) (fun j=>[(0,.ext G (bg 1 bM s sum ls 0 j)),(2,.cells (.pv [.int .i64 (0+(j:Int))]) false)]) (fun j=>ls.length-j) 0 W (by rfl) ⟨by omega,.zero⟩ ?_ ?_
 ·repeat'((conv=>whnf);first|intro _|apply aI|with_reducible exact vM rfl|exact⟨⟩|apply nM|apply fM)
  all_goals((try apply vM);(try simp only[vq]at*);try omega)
  all_goals rfl
 intro j ⟨hj,hgo⟩;by_cases hlt:j<ls.length
 ·have e2:bg 1 bM s sum ls 0 (j+1)=bg 1 bM s sum ls 0 j++bA 1 bM s sum ls (0+(j:Int)) s.cs.length:=by unfold bg;rw[jh]
  have hln:=h.ln j hlt;have hlen:=hln.len;have ejt:(0+(j:Int)).toNat=j:=by omega
  repeat'((conv=>whnf);first|(intro hq;(try simp only[vw]at hq);try first|exact absurd hq (by decide)|exfalso;omega)|apply aI|with_reducible exact vM rfl|exact⟨⟩|apply nM|apply fM)
  all_goals((try apply vM);(try simp only[vq]at*);try omega)
  conv=>whnf
  refine aM (X:=Nat) (fun i=>i≤s.cs.length∧GoTo go L (bg 1 bM s sum ls 0 j++bA 1 bM s sum ls (0+(j:Int)) i).length) (fun i=>[(22,.int .i64 i)]) (fun i=>[(0,.ext G (bg 1 bM s sum ls 0 j++bA 1 bM s sum ls (0+(j:Int)) i))]) (fun i=>s.cs.length-i) 0 W (by rfl) ⟨by omega,by simpa [bA]using hgo⟩ ?_ ?_
  ·repeat'((conv=>whnf);first|intro _|apply aI|with_reducible exact vM rfl|exact⟨⟩|apply nM|apply fM)
   all_goals((try apply vM);(try simp only[vq]at*);try omega)
   all_goals(simp[bA])
  intro i ⟨hi,hgo2⟩;by_cases hlt2:i<s.cs.length
  ·have hm:(ms s.cs).getD i 0=(mk (s.cd i):Nat):=fD hlt2
   have hA:=(h.asc _ hlt2).1;have hAc:=(h.asc _ hlt2).2;have e1:bA 1 bM s sum ls (0+(j:Int)) (i+1)=bA 1 bM s sum ls (0+(j:Int)) i++dG 1 bM s sum (ls.getD (0+(j:Int)).toNat []) (0+(j:Int)) i:=by unfold bA;rw[jh]
   repeat'((conv=>whnf);first|(intro hq;(try simp only[vw]at hq);try first|exact absurd hq (by decide)|exfalso;omega)|apply aI|with_reducible exact vM rfl|exact⟨⟩|apply nM|apply fM)
   all_goals((try apply vM);(try simp only[vq]at*);try omega)
   all_goals(try first|omega|(rw[ejt];omega))
   ·have hce:dG 1 bM s sum (ls.getD (0+(j:Int)).toNat []) (0+(j:Int)) i=[]:=by unfold dG;rw[show decide ((i:Int)∈(ls.getD (0+(j:Int)).toNat []))=false by apply decide_eq_false;assumption];cases s.dc i<;>rfl
    rw[hce,ahZ]at e1;refine⟨i+1,[],⟨⟨by omega,by rw[e1];exact hgo2⟩,by omega⟩,?_⟩
    rw[e1]
    repeat'((conv=>whnf);first|intro _|apply aI|with_reducible exact vM rfl|exact⟨⟩|apply nM|apply fM)
    all_goals((try apply vM);(try simp only[vq]at*);try omega)
   ·have hcc:(s.dc i||(lnG 1&&!decide ((i:Int)∈(ls.getD (0+(j:Int)).toNat []))))=false:=by rw[show s.dc i=false by assumption,show decide ((i:Int)∈(ls.getD (0+(j:Int)).toNat []))=true by apply decide_eq_true;assumption];rfl
    have hce:dG 1 bM s sum (ls.getD (0+(j:Int)).toNat []) (0+(j:Int)) i=cO 1 bM s sum (ls.getD (0+(j:Int)).toNat []) (0+(j:Int)) i (s.cd i).length:=by unfold dG;rw[hcc];rfl
    rw[hce]at e1;have hsp:∀t,t<(s.cd i).length→jst 1 s sum (ls.getD (0+(j:Int)).toNat []) i ((s.cd i).getD t 0)=true→∃B,L=(bg 1 bM s sum ls 0 j++bA 1 bM s sum ls (0+(j:Int)) i++cO 1 bM s sum (ls.getD (0+(j:Int)).toNat []) (0+(j:Int)) i t)++ddV bM i ((s.cd i).getD t 0) (0+(j:Int))::B:=fun t ht hh=>by
     rw[hL];exact nJ (g:=1) (nm:=bM) (s:=s) (sum:=sum) (ls:=ls) (fr:=0) (m:=ls.length) (j:=j) (i:=i) (t:=t) hlt hlt2 ht hcc hh
    have hpos:∀t,t≤(s.cd i).length→(∀t',t'<t→(!jst 1 s sum (ls.getD (0+(j:Int)).toNat []) i ((s.cd i).getD t' 0)||go ((bg 1 bM s sum ls 0 j++bA 1 bM s sum ls (0+(j:Int)) i++cO 1 bM s sum (ls.getD (0+(j:Int)).toNat []) (0+(j:Int)) i t')++[ddV bM i ((s.cd i).getD t' 0) (0+(j:Int))]))=true)→GoTo go L (bg 1 bM s sum ls 0 j++bA 1 bM s sum ls (0+(j:Int)) i++cO 1 bM s sum (ls.getD (0+(j:Int)).toNat []) (0+(j:Int)) i t).length:=by
     intro t;induction t with
     |zero=>intro _ _;rw[fQ,ahZ];exact hgo2
     |succ t ih=>
      intro ht hall;have g0:=ih (by omega) fun t' h'=>hall t' (by omega)
      have g1:=hall t (by omega)
      rw[fT (by omega)]
      split
      ·rename_i hh
       rw[hh]at g1;obtain⟨B,hB⟩:=hsp t (by omega) hh
       rw[←ai8];exact pJ hB g0 (by simpa using g1)
      ·rw[ahZ];exact g0
    rw[hm];conv=>whnf
    refine iO aK mixed ak eX (fun r=>hY r _) (fs:=[]) (cs:=[.ip (.pv [.int .u32 (mk (s.cd i):Nat)]) 0]) ((s.cd i).map (PV.int .i64)) (fun t=>(!jst 1 s sum (ls.getD (0+(j:Int)).toNat []) i ((s.cd i).getD t 0)||go ((bg 1 bM s sum ls 0 j++bA 1 bM s sum ls (0+(j:Int)) i++cO 1 bM s sum (ls.getD (0+(j:Int)).toNat []) (0+(j:Int)) i t)++[ddV bM i ((s.cd i).getD t 0) (0+(j:Int))]))) (fun t=>[(0,.ext G (bg 1 bM s sum ls 0 j++bA 1 bM s sum ls (0+(j:Int)) i++cO 1 bM s sum (ls.getD (0+(j:Int)).toNat []) (0+(j:Int)) i t))]) (by rfl) (by rfl) (by rfl) (jK (s.cd i) hA) (by rfl) (by rfl) (by rfl) (by rfl) ?_ ?_ ?_
    ·repeat'((conv=>whnf);first|intro _|apply aI|with_reducible exact vM rfl|exact⟨⟩|apply nM|apply fM)
     all_goals((try apply vM);(try simp only[vq]at*);try omega)
     all_goals(rw[fQ,ahZ])
    ·intro hall
     rw[ah2]at hall⊢;have g9:=hpos _ (af3 _) hall
     repeat'((conv=>whnf);first|intro _|apply aI|with_reducible exact vM rfl|exact⟨⟩|apply nM|apply fM)
     all_goals((try apply vM);(try simp only[vq]at*);try omega)
     refine⟨i+1,[],⟨⟨by omega,by rw[e1,←ai8];exact g9⟩,by omega⟩,?_⟩
     rw[e1,←ai8]
     repeat'((conv=>whnf);first|intro _|apply aI|with_reducible exact vM rfl|exact⟨⟩|apply nM|apply fM)
     all_goals((try apply vM);(try simp only[vq]at*);try omega)
    ·intro t x hx hall lp
     obtain⟨ht,rfl⟩:=oD hx;have hxC:=cB ht;have hxr:=hA.rng _ hxC;have hxc:=hAc _ hxC;have g0:=hpos t (by omega) hall
     have hs1:=hsp t ht;have cs1:=fT (g:=1) (nm:=bM) (s:=s) (sum:=sum) (l:=(ls.getD (0+(j:Int)).toNat [])) (k:=(0+(j:Int))) ht
     repeat'((conv=>whnf);first|refine Exists.intro (s) ?_|(intro hq;(try simp only[vw]at hq);try first|exact absurd hq (by decide)|exfalso;omega)|apply aI|with_reducible exact vM rfl|exact⟨⟩|apply nM|apply fM)
     all_goals((try apply vM);(try simp only[vq]at*);try omega)
     all_goals(try omega)
     ·exact⟨h,by omega,by omega,by omega⟩
     ·obtain⟨B,hB⟩:=hs1 (by assumption)
      exact qU hB g0
     ·rw[show jst 1 s sum (ls.getD (0+(j:Int)).toNat []) i ((s.cd i).getD t 0)=true by assumption]
      assumption
     ·obtain⟨B,hB⟩:=hs1 (by assumption)
      exact pK hB g0 (by assumption)
     ·have q1:jst 1 s sum (ls.getD (0+(j:Int)).toNat []) i ((s.cd i).getD t 0)=true:=by assumption
      have q2:go ((bg 1 bM s sum ls 0 j++bA 1 bM s sum ls (0+(j:Int)) i++cO 1 bM s sum (ls.getD (0+(j:Int)).toNat []) (0+(j:Int)) i t)++[ddV bM i ((s.cd i).getD t 0) (0+(j:Int))])=true:=by assumption
      refine⟨[],?_⟩;rw[cs1,if_pos q1,←ai8]
      repeat'((conv=>whnf);first|intro _|apply aI|with_reducible exact vM rfl|exact⟨⟩|apply nM|apply fM)
      all_goals((try apply vM);(try simp only[vq]at*);try omega)
      all_goals(try first|(rw[q1,q2];rfl)|rfl)
     ·have q1:jst 1 s sum (ls.getD (0+(j:Int)).toNat []) i ((s.cd i).getD t 0)=false:=by assumption
      refine⟨[],?_⟩;rw[cs1,if_neg (by rw[q1];decide),ahZ]
      repeat'((conv=>whnf);first|intro _|apply aI|with_reducible exact vM rfl|exact⟨⟩|apply nM|apply fM)
      all_goals((try apply vM);(try simp only[vq]at*);try omega)
      all_goals(try(rw[q1];rfl))
   ·have hce:dG 1 bM s sum (ls.getD (0+(j:Int)).toNat []) (0+(j:Int)) i=[]:=by unfold dG;rw[show s.dc i=true from hq];rfl
    rw[hce,ahZ]at e1;refine⟨i+1,[],⟨⟨by omega,by rw[e1];exact hgo2⟩,by omega⟩,?_⟩
    rw[e1]
    repeat'((conv=>whnf);first|intro _|apply aI|with_reducible exact vM rfl|exact⟨⟩|apply nM|apply fM)
    all_goals((try apply vM);(try simp only[vq]at*);try omega)
  ·have:i=s.cs.length:=by omega
   subst this;rw[←e2]at hgo2⊢
   repeat'((conv=>whnf);first|(intro hq;(try simp only[vw]at hq);try first|exact absurd hq (by decide)|exfalso;omega)|apply aI|with_reducible exact vM rfl|exact⟨⟩|apply nM|apply fM)
   all_goals((try apply vM);(try simp only[vq]at*);try omega)
   refine⟨j+1,[(21,2)],⟨⟨by omega,hgo2⟩,by omega⟩,?_⟩
   repeat'((conv=>whnf);first|intro _|apply aI|with_reducible exact vM rfl|exact⟨⟩|apply nM|apply fM)
   all_goals((try apply vM);(try simp only[vq]at*);try omega)
 ·have:j=ls.length:=by omega
  subst this
  repeat'((conv=>whnf);first|(intro hq;(try simp only[vw]at hq);try first|exact absurd hq (by decide)|exfalso;omega)|apply aI|with_reducible exact vM rfl|exact⟨⟩|apply nM|apply fM)
  all_goals((try apply vM);(try simp only[vq]at*);try omega)
  rw[hL];rw[hL]at hgo;exact pO hgo
theorem QJ (c:Int) (ls:List (List Int)) (sum:Int) (gv:List Int) (s:St) (h:bL c ls sum s):
 mY Tryz.prog 180 [] [.ip (.pv [.int .i64 (-1)]) 0,.ip (.pv [.int .i64 0]) 0,.ip (.pv [bdV c ls sum gv s]) 0,rlV bT true false 173] 1 (bg 2 bT s sum ls (-1) 1):=by
 refine kQ (md:=1) (rf:=[]) mixed ak Tryz.func180 (by rfl) (by rfl) (by rfl) fun G go b hY=>⟨_,eX,?_⟩
 obtain⟨L,hL⟩:∃L,L=bg 2 bT s sum ls (-1) 1:=⟨_,rfl⟩;rw[←hL]at hY⊢;have W:Walk Tryz.prog none j5 tab.get Br (sj b 1 G go L):=⟨aK,mixed,ak,eX,hY _ _⟩;have hcl:=h.cl;have hdl:=h.dl;have hc1:=h.c1;have hms:=dL s.cs;have hll:=h.ll
 repeat'((conv=>whnf);first|intro _|apply aI|with_reducible exact vM rfl|exact⟨⟩|apply nM|apply fM)
 all_goals((try apply vM);(try simp only[vq]at*);try omega)
 conv=>whnf
 refine aM (X:=Nat) (fun j=>j≤1∧GoTo go L (bg 2 bT s sum ls (-1) j).length) (fun j=>[(6,.rp 2 0)]) (fun j=>[(0,.ext G (bg 2 bT s sum ls (-1) j)),(2,.cells (.pv [.int .i64 ((-1)+(j:Int))]) false)]) (fun j=>1-j) 0 W (by rfl) ⟨by omega,.zero⟩ ?_ ?_
 ·repeat'((conv=>whnf);first|intro _|apply aI|with_reducible exact vM rfl|exact⟨⟩|apply nM|apply fM)
  all_goals((try apply vM);(try simp only[vq]at*);try omega)
  all_goals rfl
 intro j ⟨hj,hgo⟩;by_cases hlt:j<1
 ·have e2:bg 2 bT s sum ls (-1) (j+1)=bg 2 bT s sum ls (-1) j++bA 2 bT s sum ls ((-1)+(j:Int)) s.cs.length:=by unfold bg;rw[jh]
  repeat'((conv=>whnf);first|(intro hq;(try simp only[vw]at hq);try first|exact absurd hq (by decide)|exfalso;omega)|apply aI|with_reducible exact vM rfl|exact⟨⟩|apply nM|apply fM)
  all_goals((try apply vM);(try simp only[vq]at*);try omega)
  conv=>whnf
  refine aM (X:=Nat) (fun i=>i≤s.cs.length∧GoTo go L (bg 2 bT s sum ls (-1) j++bA 2 bT s sum ls ((-1)+(j:Int)) i).length) (fun i=>[(22,.int .i64 i)]) (fun i=>[(0,.ext G (bg 2 bT s sum ls (-1) j++bA 2 bT s sum ls ((-1)+(j:Int)) i))]) (fun i=>s.cs.length-i) 0 W (by rfl) ⟨by omega,by simpa [bA]using hgo⟩ ?_ ?_
  ·repeat'((conv=>whnf);first|intro _|apply aI|with_reducible exact vM rfl|exact⟨⟩|apply nM|apply fM)
   all_goals((try apply vM);(try simp only[vq]at*);try omega)
   all_goals(simp[bA])
  intro i ⟨hi,hgo2⟩;by_cases hlt2:i<s.cs.length
  ·have hm:(ms s.cs).getD i 0=(mk (s.cd i):Nat):=fD hlt2
   have hA:=(h.asc _ hlt2).1;have hAc:=(h.asc _ hlt2).2;have e1:bA 2 bT s sum ls ((-1)+(j:Int)) (i+1)=bA 2 bT s sum ls ((-1)+(j:Int)) i++dG 2 bT s sum (ls.getD ((-1)+(j:Int)).toNat []) ((-1)+(j:Int)) i:=by unfold bA;rw[jh]
   repeat'((conv=>whnf);first|(intro hq;(try simp only[vw]at hq);try first|exact absurd hq (by decide)|exfalso;omega)|apply aI|with_reducible exact vM rfl|exact⟨⟩|apply nM|apply fM)
   all_goals((try apply vM);(try simp only[vq]at*);try omega)
   all_goals(try first|omega|(rw[ejt];omega))
   ·have hcc:(s.dc i||(lnG 2&&!decide ((i:Int)∈(ls.getD ((-1)+(j:Int)).toNat []))))=false:=by rw[show s.dc i=false from hq];rfl
    have hce:dG 2 bT s sum (ls.getD ((-1)+(j:Int)).toNat []) ((-1)+(j:Int)) i=cO 2 bT s sum (ls.getD ((-1)+(j:Int)).toNat []) ((-1)+(j:Int)) i (s.cd i).length:=by unfold dG;rw[hcc];rfl
    rw[hce]at e1;have hsp:∀t,t<(s.cd i).length→jst 2 s sum (ls.getD ((-1)+(j:Int)).toNat []) i ((s.cd i).getD t 0)=true→∃B,L=(bg 2 bT s sum ls (-1) j++bA 2 bT s sum ls ((-1)+(j:Int)) i++cO 2 bT s sum (ls.getD ((-1)+(j:Int)).toNat []) ((-1)+(j:Int)) i t)++ddV bT i ((s.cd i).getD t 0) ((-1)+(j:Int))::B:=fun t ht hh=>by
     rw[hL];exact nJ (g:=2) (nm:=bT) (s:=s) (sum:=sum) (ls:=ls) (fr:=(-1)) (m:=1) (j:=j) (i:=i) (t:=t) hlt hlt2 ht hcc hh
    have hpos:∀t,t≤(s.cd i).length→(∀t',t'<t→(!jst 2 s sum (ls.getD ((-1)+(j:Int)).toNat []) i ((s.cd i).getD t' 0)||go ((bg 2 bT s sum ls (-1) j++bA 2 bT s sum ls ((-1)+(j:Int)) i++cO 2 bT s sum (ls.getD ((-1)+(j:Int)).toNat []) ((-1)+(j:Int)) i t')++[ddV bT i ((s.cd i).getD t' 0) ((-1)+(j:Int))]))=true)→GoTo go L (bg 2 bT s sum ls (-1) j++bA 2 bT s sum ls ((-1)+(j:Int)) i++cO 2 bT s sum (ls.getD ((-1)+(j:Int)).toNat []) ((-1)+(j:Int)) i t).length:=by
     intro t;induction t with
     |zero=>intro _ _;rw[fQ,ahZ];exact hgo2
     |succ t ih=>
      intro ht hall;have g0:=ih (by omega) fun t' h'=>hall t' (by omega)
      have g1:=hall t (by omega)
      rw[fT (by omega)]
      split
      ·rename_i hh
       rw[hh]at g1;obtain⟨B,hB⟩:=hsp t (by omega) hh
       rw[←ai8];exact pJ hB g0 (by simpa using g1)
      ·rw[ahZ];exact g0
    rw[hm];conv=>whnf
    refine iO aK mixed ak eX (fun r=>hY r _) (fs:=[]) (cs:=[.ip (.pv [.int .u32 (mk (s.cd i):Nat)]) 0]) ((s.cd i).map (PV.int .i64)) (fun t=>(!jst 2 s sum (ls.getD ((-1)+(j:Int)).toNat []) i ((s.cd i).getD t 0)||go ((bg 2 bT s sum ls (-1) j++bA 2 bT s sum ls ((-1)+(j:Int)) i++cO 2 bT s sum (ls.getD ((-1)+(j:Int)).toNat []) ((-1)+(j:Int)) i t)++[ddV bT i ((s.cd i).getD t 0) ((-1)+(j:Int))]))) (fun t=>[(0,.ext G (bg 2 bT s sum ls (-1) j++bA 2 bT s sum ls ((-1)+(j:Int)) i++cO 2 bT s sum (ls.getD ((-1)+(j:Int)).toNat []) ((-1)+(j:Int)) i t))]) (by rfl) (by rfl) (by rfl) (jK (s.cd i) hA) (by rfl) (by rfl) (by rfl) (by rfl) ?_ ?_ ?_
    ·repeat'((conv=>whnf);first|intro _|apply aI|with_reducible exact vM rfl|exact⟨⟩|apply nM|apply fM)
     all_goals((try apply vM);(try simp only[vq]at*);try omega)
     all_goals(rw[fQ,ahZ])
    ·intro hall
     rw[ah2]at hall⊢;have g9:=hpos _ (af3 _) hall
     repeat'((conv=>whnf);first|intro _|apply aI|with_reducible exact vM rfl|exact⟨⟩|apply nM|apply fM)
     all_goals((try apply vM);(try simp only[vq]at*);try omega)
     refine⟨i+1,[],⟨⟨by omega,by rw[e1,←ai8];exact g9⟩,by omega⟩,?_⟩
     rw[e1,←ai8]
     repeat'((conv=>whnf);first|intro _|apply aI|with_reducible exact vM rfl|exact⟨⟩|apply nM|apply fM)
     all_goals((try apply vM);(try simp only[vq]at*);try omega)
    ·intro t x hx hall lp
     obtain⟨ht,rfl⟩:=oD hx;have hxC:=cB ht;have hxr:=hA.rng _ hxC;have hxc:=hAc _ hxC;have g0:=hpos t (by omega) hall
     have hs1:=hsp t ht;have cs1:=fT (g:=2) (nm:=bT) (s:=s) (sum:=sum) (l:=(ls.getD ((-1)+(j:Int)).toNat [])) (k:=((-1)+(j:Int))) ht
     repeat'((conv=>whnf);first|refine Exists.intro (s) ?_|(intro hq;(try simp only[vw]at hq);try first|exact absurd hq (by decide)|exfalso;omega)|apply aI|with_reducible exact vM rfl|exact⟨⟩|apply nM|apply fM)
     all_goals((try apply vM);(try simp only[vq]at*);try omega)
     all_goals(try omega)
     ·exact⟨h,by omega,by omega⟩
     ·obtain⟨B,hB⟩:=hs1 (by assumption)
      exact qU hB g0
     ·rw[show jst 2 s sum (ls.getD ((-1)+(j:Int)).toNat []) i ((s.cd i).getD t 0)=true by assumption]
      assumption
     ·obtain⟨B,hB⟩:=hs1 (by assumption)
      exact pK hB g0 (by assumption)
     ·have q1:jst 2 s sum (ls.getD ((-1)+(j:Int)).toNat []) i ((s.cd i).getD t 0)=true:=by assumption
      have q2:go ((bg 2 bT s sum ls (-1) j++bA 2 bT s sum ls ((-1)+(j:Int)) i++cO 2 bT s sum (ls.getD ((-1)+(j:Int)).toNat []) ((-1)+(j:Int)) i t)++[ddV bT i ((s.cd i).getD t 0) ((-1)+(j:Int))])=true:=by assumption
      refine⟨[],?_⟩;rw[cs1,if_pos q1,←ai8]
      repeat'((conv=>whnf);first|intro _|apply aI|with_reducible exact vM rfl|exact⟨⟩|apply nM|apply fM)
      all_goals((try apply vM);(try simp only[vq]at*);try omega)
      all_goals(try first|(rw[q1,q2];rfl)|rfl)
     ·have q1:jst 2 s sum (ls.getD ((-1)+(j:Int)).toNat []) i ((s.cd i).getD t 0)=false:=by assumption
      refine⟨[],?_⟩;rw[cs1,if_neg (by rw[q1];decide),ahZ]
      repeat'((conv=>whnf);first|intro _|apply aI|with_reducible exact vM rfl|exact⟨⟩|apply nM|apply fM)
      all_goals((try apply vM);(try simp only[vq]at*);try omega)
      all_goals(try(rw[q1];rfl))
   ·have hce:dG 2 bT s sum (ls.getD ((-1)+(j:Int)).toNat []) ((-1)+(j:Int)) i=[]:=by unfold dG;rw[show s.dc i=true from hq];rfl
    rw[hce,ahZ]at e1;refine⟨i+1,[],⟨⟨by omega,by rw[e1];exact hgo2⟩,by omega⟩,?_⟩
    rw[e1]
    repeat'((conv=>whnf);first|intro _|apply aI|with_reducible exact vM rfl|exact⟨⟩|apply nM|apply fM)
    all_goals((try apply vM);(try simp only[vq]at*);try omega)
  ·have:i=s.cs.length:=by omega
   subst this;rw[←e2]at hgo2⊢
   repeat'((conv=>whnf);first|(intro hq;(try simp only[vw]at hq);try first|exact absurd hq (by decide)|exfalso;omega)|apply aI|with_reducible exact vM rfl|exact⟨⟩|apply nM|apply fM)
   all_goals((try apply vM);(try simp only[vq]at*);try omega)
   refine⟨j+1,[(21,2)],⟨⟨by omega,hgo2⟩,by omega⟩,?_⟩
   repeat'((conv=>whnf);first|intro _|apply aI|with_reducible exact vM rfl|exact⟨⟩|apply nM|apply fM)
   all_goals((try apply vM);(try simp only[vq]at*);try omega)
 ·have:j=1:=by omega
  subst this
  repeat'((conv=>whnf);first|(intro hq;(try simp only[vw]at hq);try first|exact absurd hq (by decide)|exfalso;omega)|apply aI|with_reducible exact vM rfl|exact⟨⟩|apply nM|apply fM)
  all_goals((try apply vM);(try simp only[vq]at*);try omega)
  rw[hL];rw[hL]at hgo;exact pO hgo
theorem QK (c:Int) (ls:List (List Int)) (sum:Int) (gv:List Int) (s:St) (h:bL c ls sum s):
 mY Tryz.prog 180 [] [.ip (.pv [.int .i64 (-1)]) 0,.ip (.pv [.int .i64 0]) 0,.ip (.pv [bdV c ls sum gv s]) 0,rlV bU true false 174] 1 (bg 3 bU s sum ls (-1) 1):=by
 refine kQ (md:=1) (rf:=[]) mixed ak Tryz.func180 (by rfl) (by rfl) (by rfl) fun G go b hY=>⟨_,eX,?_⟩
 obtain⟨L,hL⟩:∃L,L=bg 3 bU s sum ls (-1) 1:=⟨_,rfl⟩;rw[←hL]at hY⊢;have W:Walk Tryz.prog none j5 tab.get Br (sj b 1 G go L):=⟨aK,mixed,ak,eX,hY _ _⟩;have hcl:=h.cl;have hdl:=h.dl;have hc1:=h.c1;have hms:=dL s.cs;have hll:=h.ll
 repeat'((conv=>whnf);first|intro _|apply aI|with_reducible exact vM rfl|exact⟨⟩|apply nM|apply fM)
 all_goals((try apply vM);(try simp only[vq]at*);try omega)
 conv=>whnf
 refine aM (X:=Nat) (fun j=>j≤1∧GoTo go L (bg 3 bU s sum ls (-1) j).length) (fun j=>[(6,.rp 2 0)]) (fun j=>[(0,.ext G (bg 3 bU s sum ls (-1) j)),(2,.cells (.pv [.int .i64 ((-1)+(j:Int))]) false)]) (fun j=>1-j) 0 W (by rfl) ⟨by omega,.zero⟩ ?_ ?_
 ·repeat'((conv=>whnf);first|intro _|apply aI|with_reducible exact vM rfl|exact⟨⟩|apply nM|apply fM)
  all_goals((try apply vM);(try simp only[vq]at*);try omega)
  all_goals rfl
 intro j ⟨hj,hgo⟩;by_cases hlt:j<1
 ·have e2:bg 3 bU s sum ls (-1) (j+1)=bg 3 bU s sum ls (-1) j++bA 3 bU s sum ls ((-1)+(j:Int)) s.cs.length:=by unfold bg;rw[jh]
  repeat'((conv=>whnf);first|(intro hq;(try simp only[vw]at hq);try first|exact absurd hq (by decide)|exfalso;omega)|apply aI|with_reducible exact vM rfl|exact⟨⟩|apply nM|apply fM)
  all_goals((try apply vM);(try simp only[vq]at*);try omega)
  conv=>whnf
  refine aM (X:=Nat) (fun i=>i≤s.cs.length∧GoTo go L (bg 3 bU s sum ls (-1) j++bA 3 bU s sum ls ((-1)+(j:Int)) i).length) (fun i=>[(22,.int .i64 i)]) (fun i=>[(0,.ext G (bg 3 bU s sum ls (-1) j++bA 3 bU s sum ls ((-1)+(j:Int)) i))]) (fun i=>s.cs.length-i) 0 W (by rfl) ⟨by omega,by simpa [bA]using hgo⟩ ?_ ?_
  ·repeat'((conv=>whnf);first|intro _|apply aI|with_reducible exact vM rfl|exact⟨⟩|apply nM|apply fM)
   all_goals((try apply vM);(try simp only[vq]at*);try omega)
   all_goals(simp[bA])
  intro i ⟨hi,hgo2⟩;by_cases hlt2:i<s.cs.length
  ·have hm:(ms s.cs).getD i 0=(mk (s.cd i):Nat):=fD hlt2
   have hA:=(h.asc _ hlt2).1;have hAc:=(h.asc _ hlt2).2;have e1:bA 3 bU s sum ls ((-1)+(j:Int)) (i+1)=bA 3 bU s sum ls ((-1)+(j:Int)) i++dG 3 bU s sum (ls.getD ((-1)+(j:Int)).toNat []) ((-1)+(j:Int)) i:=by unfold bA;rw[jh]
   repeat'((conv=>whnf);first|(intro hq;(try simp only[vw]at hq);try first|exact absurd hq (by decide)|exfalso;omega)|apply aI|with_reducible exact vM rfl|exact⟨⟩|apply nM|apply fM)
   all_goals((try apply vM);(try simp only[vq]at*);try omega)
   all_goals(try first|omega|(rw[ejt];omega))
   ·have hcc:(s.dc i||(lnG 3&&!decide ((i:Int)∈(ls.getD ((-1)+(j:Int)).toNat []))))=false:=by rw[show s.dc i=false from hq];rfl
    have hce:dG 3 bU s sum (ls.getD ((-1)+(j:Int)).toNat []) ((-1)+(j:Int)) i=cO 3 bU s sum (ls.getD ((-1)+(j:Int)).toNat []) ((-1)+(j:Int)) i (s.cd i).length:=by unfold dG;rw[hcc];rfl
    rw[hce]at e1;have hsp:∀t,t<(s.cd i).length→jst 3 s sum (ls.getD ((-1)+(j:Int)).toNat []) i ((s.cd i).getD t 0)=true→∃B,L=(bg 3 bU s sum ls (-1) j++bA 3 bU s sum ls ((-1)+(j:Int)) i++cO 3 bU s sum (ls.getD ((-1)+(j:Int)).toNat []) ((-1)+(j:Int)) i t)++ddV bU i ((s.cd i).getD t 0) ((-1)+(j:Int))::B:=fun t ht hh=>by
     rw[hL];exact nJ (g:=3) (nm:=bU) (s:=s) (sum:=sum) (ls:=ls) (fr:=(-1)) (m:=1) (j:=j) (i:=i) (t:=t) hlt hlt2 ht hcc hh
    have hpos:∀t,t≤(s.cd i).length→(∀t',t'<t→(!jst 3 s sum (ls.getD ((-1)+(j:Int)).toNat []) i ((s.cd i).getD t' 0)||go ((bg 3 bU s sum ls (-1) j++bA 3 bU s sum ls ((-1)+(j:Int)) i++cO 3 bU s sum (ls.getD ((-1)+(j:Int)).toNat []) ((-1)+(j:Int)) i t')++[ddV bU i ((s.cd i).getD t' 0) ((-1)+(j:Int))]))=true)→GoTo go L (bg 3 bU s sum ls (-1) j++bA 3 bU s sum ls ((-1)+(j:Int)) i++cO 3 bU s sum (ls.getD ((-1)+(j:Int)).toNat []) ((-1)+(j:Int)) i t).length:=by
     intro t;induction t with
     |zero=>intro _ _;rw[fQ,ahZ];exact hgo2
     |succ t ih=>
      intro ht hall;have g0:=ih (by omega) fun t' h'=>hall t' (by omega)
      have g1:=hall t (by omega)
      rw[fT (by omega)]
      split
      ·rename_i hh
       rw[hh]at g1;obtain⟨B,hB⟩:=hsp t (by omega) hh
       rw[←ai8];exact pJ hB g0 (by simpa using g1)
      ·rw[ahZ];exact g0
    rw[hm];conv=>whnf
    refine iO aK mixed ak eX (fun r=>hY r _) (fs:=[]) (cs:=[.ip (.pv [.int .u32 (mk (s.cd i):Nat)]) 0]) ((s.cd i).map (PV.int .i64)) (fun t=>(!jst 3 s sum (ls.getD ((-1)+(j:Int)).toNat []) i ((s.cd i).getD t 0)||go ((bg 3 bU s sum ls (-1) j++bA 3 bU s sum ls ((-1)+(j:Int)) i++cO 3 bU s sum (ls.getD ((-1)+(j:Int)).toNat []) ((-1)+(j:Int)) i t)++[ddV bU i ((s.cd i).getD t 0) ((-1)+(j:Int))]))) (fun t=>[(0,.ext G (bg 3 bU s sum ls (-1) j++bA 3 bU s sum ls ((-1)+(j:Int)) i++cO 3 bU s sum (ls.getD ((-1)+(j:Int)).toNat []) ((-1)+(j:Int)) i t))]) (by rfl) (by rfl) (by rfl) (jK (s.cd i) hA) (by rfl) (by rfl) (by rfl) (by rfl) ?_ ?_ ?_
    ·repeat'((conv=>whnf);first|intro _|apply aI|with_reducible exact vM rfl|exact⟨⟩|apply nM|apply fM)
     all_goals((try apply vM);(try simp only[vq]at*);try omega)
     all_goals(rw[fQ,ahZ])
    ·intro hall
     rw[ah2]at hall⊢;have g9:=hpos _ (af3 _) hall
     repeat'((conv=>whnf);first|intro _|apply aI|with_reducible exact vM rfl|exact⟨⟩|apply nM|apply fM)
     all_goals((try apply vM);(try simp only[vq]at*);try omega)
     refine⟨i+1,[],⟨⟨by omega,by rw[e1,←ai8];exact g9⟩,by omega⟩,?_⟩
     rw[e1,←ai8]
     repeat'((conv=>whnf);first|intro _|apply aI|with_reducible exact vM rfl|exact⟨⟩|apply nM|apply fM)
     all_goals((try apply vM);(try simp only[vq]at*);try omega)
    ·intro t x hx hall lp
     obtain⟨ht,rfl⟩:=oD hx;have hxC:=cB ht;have hxr:=hA.rng _ hxC;have hxc:=hAc _ hxC;have g0:=hpos t (by omega) hall
     have hs1:=hsp t ht;have cs1:=fT (g:=3) (nm:=bU) (s:=s) (sum:=sum) (l:=(ls.getD ((-1)+(j:Int)).toNat [])) (k:=((-1)+(j:Int))) ht
     repeat'((conv=>whnf);first|refine Exists.intro (s) ?_|(intro hq;(try simp only[vw]at hq);try first|exact absurd hq (by decide)|exfalso;omega)|apply aI|with_reducible exact vM rfl|exact⟨⟩|apply nM|apply fM)
     all_goals((try apply vM);(try simp only[vq]at*);try omega)
     all_goals(try omega)
     ·exact⟨h,by omega,by omega⟩
     ·obtain⟨B,hB⟩:=hs1 (by assumption)
      exact qU hB g0
     ·rw[show jst 3 s sum (ls.getD ((-1)+(j:Int)).toNat []) i ((s.cd i).getD t 0)=true by assumption]
      assumption
     ·obtain⟨B,hB⟩:=hs1 (by assumption)
      exact pK hB g0 (by assumption)
     ·have q1:jst 3 s sum (ls.getD ((-1)+(j:Int)).toNat []) i ((s.cd i).getD t 0)=true:=by assumption
      have q2:go ((bg 3 bU s sum ls (-1) j++bA 3 bU s sum ls ((-1)+(j:Int)) i++cO 3 bU s sum (ls.getD ((-1)+(j:Int)).toNat []) ((-1)+(j:Int)) i t)++[ddV bU i ((s.cd i).getD t 0) ((-1)+(j:Int))])=true:=by assumption
      refine⟨[],?_⟩;rw[cs1,if_pos q1,←ai8]
      repeat'((conv=>whnf);first|intro _|apply aI|with_reducible exact vM rfl|exact⟨⟩|apply nM|apply fM)
      all_goals((try apply vM);(try simp only[vq]at*);try omega)
      all_goals(try first|(rw[q1,q2];rfl)|rfl)
     ·have q1:jst 3 s sum (ls.getD ((-1)+(j:Int)).toNat []) i ((s.cd i).getD t 0)=false:=by assumption
      refine⟨[],?_⟩;rw[cs1,if_neg (by rw[q1];decide),ahZ]
      repeat'((conv=>whnf);first|intro _|apply aI|with_reducible exact vM rfl|exact⟨⟩|apply nM|apply fM)
      all_goals((try apply vM);(try simp only[vq]at*);try omega)
      all_goals(try(rw[q1];rfl))
   ·have hce:dG 3 bU s sum (ls.getD ((-1)+(j:Int)).toNat []) ((-1)+(j:Int)) i=[]:=by unfold dG;rw[show s.dc i=true from hq];rfl
    rw[hce,ahZ]at e1;refine⟨i+1,[],⟨⟨by omega,by rw[e1];exact hgo2⟩,by omega⟩,?_⟩
    rw[e1]
    repeat'((conv=>whnf);first|intro _|apply aI|with_reducible exact vM rfl|exact⟨⟩|apply nM|apply fM)
    all_goals((try apply vM);(try simp only[vq]at*);try omega)
  ·have:i=s.cs.length:=by omega
   subst this;rw[←e2]at hgo2⊢
   repeat'((conv=>whnf);first|(intro hq;(try simp only[vw]at hq);try first|exact absurd hq (by decide)|exfalso;omega)|apply aI|with_reducible exact vM rfl|exact⟨⟩|apply nM|apply fM)
   all_goals((try apply vM);(try simp only[vq]at*);try omega)
   refine⟨j+1,[(21,2)],⟨⟨by omega,hgo2⟩,by omega⟩,?_⟩
   repeat'((conv=>whnf);first|intro _|apply aI|with_reducible exact vM rfl|exact⟨⟩|apply nM|apply fM)
   all_goals((try apply vM);(try simp only[vq]at*);try omega)
 ·have:j=1:=by omega
  subst this
  repeat'((conv=>whnf);first|(intro hq;(try simp only[vw]at hq);try first|exact absurd hq (by decide)|exfalso;omega)|apply aI|with_reducible exact vM rfl|exact⟨⟩|apply nM|apply fM)
  all_goals((try apply vM);(try simp only[vq]at*);try omega)
  rw[hL];rw[hL]at hgo;exact pO hgo
theorem QL (c:Int) (ls:List (List Int)) (sum:Int) (gv:List Int) (s:St) (h:bL c ls sum s):
 mY Tryz.prog 180 [] [.ip (.pv [.int .i64 0]) 0,.ip (.pv [.int .i64 ls.length]) 0,.ip (.pv [bdV c ls sum gv s]) 0,rlV bR false true 175] 1 (bg 4 bR s sum ls 0 ls.length):=by
 refine kQ (md:=1) (rf:=[]) mixed ak Tryz.func180 (by rfl) (by rfl) (by rfl) fun G go b hY=>⟨_,eX,?_⟩
 obtain⟨L,hL⟩:∃L,L=bg 4 bR s sum ls 0 ls.length:=⟨_,rfl⟩;rw[←hL]at hY⊢;have W:Walk Tryz.prog none j5 tab.get Br (sj b 1 G go L):=⟨aK,mixed,ak,eX,hY _ _⟩;have hcl:=h.cl;have hdl:=h.dl;have hc1:=h.c1;have hms:=dL s.cs;have hll:=h.ll
 repeat'((conv=>whnf);first|intro _|apply aI|with_reducible exact vM rfl|exact⟨⟩|apply nM|apply fM)
 all_goals((try apply vM);(try simp only[vq]at*);try omega)
 conv=>whnf
 refine aM (X:=Nat) (fun j=>j≤ls.length∧GoTo go L (bg 4 bR s sum ls 0 j).length) (fun j=>[(6,.rp 2 0)]) (fun j=>[(0,.ext G (bg 4 bR s sum ls 0 j)),(2,.cells (.pv [.int .i64 (0+(j:Int))]) false)]) (fun j=>ls.length-j) 0 W (by rfl) ⟨by omega,.zero⟩ ?_ ?_
 ·repeat'((conv=>whnf);first|intro _|apply aI|with_reducible exact vM rfl|exact⟨⟩|apply nM|apply fM)
  all_goals((try apply vM);(try simp only[vq]at*);try omega)
  all_goals rfl
 intro j ⟨hj,hgo⟩;by_cases hlt:j<ls.length
 ·have e2:bg 4 bR s sum ls 0 (j+1)=bg 4 bR s sum ls 0 j++bA 4 bR s sum ls (0+(j:Int)) s.cs.length:=by unfold bg;rw[jh]
  have hln:=h.ln j hlt;have hlen:=hln.len;have ejt:(0+(j:Int)).toNat=j:=by omega
  repeat'((conv=>whnf);first|(intro hq;(try simp only[vw]at hq);try first|exact absurd hq (by decide)|exfalso;omega)|apply aI|with_reducible exact vM rfl|exact⟨⟩|apply nM|apply fM)
  all_goals((try apply vM);(try simp only[vq]at*);try omega)
  conv=>whnf
  refine aM (X:=Nat) (fun i=>i≤s.cs.length∧GoTo go L (bg 4 bR s sum ls 0 j++bA 4 bR s sum ls (0+(j:Int)) i).length) (fun i=>[(22,.int .i64 i)]) (fun i=>[(0,.ext G (bg 4 bR s sum ls 0 j++bA 4 bR s sum ls (0+(j:Int)) i))]) (fun i=>s.cs.length-i) 0 W (by rfl) ⟨by omega,by simpa [bA]using hgo⟩ ?_ ?_
  ·repeat'((conv=>whnf);first|intro _|apply aI|with_reducible exact vM rfl|exact⟨⟩|apply nM|apply fM)
   all_goals((try apply vM);(try simp only[vq]at*);try omega)
   all_goals(simp[bA])
  intro i ⟨hi,hgo2⟩;by_cases hlt2:i<s.cs.length
  ·have hm:(ms s.cs).getD i 0=(mk (s.cd i):Nat):=fD hlt2
   have hA:=(h.asc _ hlt2).1;have hAc:=(h.asc _ hlt2).2;have e1:bA 4 bR s sum ls (0+(j:Int)) (i+1)=bA 4 bR s sum ls (0+(j:Int)) i++dG 4 bR s sum (ls.getD (0+(j:Int)).toNat []) (0+(j:Int)) i:=by unfold bA;rw[jh]
   repeat'((conv=>whnf);first|(intro hq;(try simp only[vw]at hq);try first|exact absurd hq (by decide)|exfalso;omega)|apply aI|with_reducible exact vM rfl|exact⟨⟩|apply nM|apply fM)
   all_goals((try apply vM);(try simp only[vq]at*);try omega)
   all_goals(try first|omega|(rw[ejt];omega))
   ·have hce:dG 4 bR s sum (ls.getD (0+(j:Int)).toNat []) (0+(j:Int)) i=[]:=by unfold dG;rw[show decide ((i:Int)∈(ls.getD (0+(j:Int)).toNat []))=false by apply decide_eq_false;assumption];cases s.dc i<;>rfl
    rw[hce,ahZ]at e1;refine⟨i+1,[],⟨⟨by omega,by rw[e1];exact hgo2⟩,by omega⟩,?_⟩
    rw[e1]
    repeat'((conv=>whnf);first|intro _|apply aI|with_reducible exact vM rfl|exact⟨⟩|apply nM|apply fM)
    all_goals((try apply vM);(try simp only[vq]at*);try omega)
   ·have hcc:(s.dc i||(lnG 4&&!decide ((i:Int)∈(ls.getD (0+(j:Int)).toNat []))))=false:=by rw[show s.dc i=false by assumption,show decide ((i:Int)∈(ls.getD (0+(j:Int)).toNat []))=true by apply decide_eq_true;assumption];rfl
    have hce:dG 4 bR s sum (ls.getD (0+(j:Int)).toNat []) (0+(j:Int)) i=cO 4 bR s sum (ls.getD (0+(j:Int)).toNat []) (0+(j:Int)) i (s.cd i).length:=by unfold dG;rw[hcc];rfl
    rw[hce]at e1;have hsp:∀t,t<(s.cd i).length→jst 4 s sum (ls.getD (0+(j:Int)).toNat []) i ((s.cd i).getD t 0)=true→∃B,L=(bg 4 bR s sum ls 0 j++bA 4 bR s sum ls (0+(j:Int)) i++cO 4 bR s sum (ls.getD (0+(j:Int)).toNat []) (0+(j:Int)) i t)++ddV bR i ((s.cd i).getD t 0) (0+(j:Int))::B:=fun t ht hh=>by
     rw[hL];exact nJ (g:=4) (nm:=bR) (s:=s) (sum:=sum) (ls:=ls) (fr:=0) (m:=ls.length) (j:=j) (i:=i) (t:=t) hlt hlt2 ht hcc hh
    have hpos:∀t,t≤(s.cd i).length→(∀t',t'<t→(!jst 4 s sum (ls.getD (0+(j:Int)).toNat []) i ((s.cd i).getD t' 0)||go ((bg 4 bR s sum ls 0 j++bA 4 bR s sum ls (0+(j:Int)) i++cO 4 bR s sum (ls.getD (0+(j:Int)).toNat []) (0+(j:Int)) i t')++[ddV bR i ((s.cd i).getD t' 0) (0+(j:Int))]))=true)→GoTo go L (bg 4 bR s sum ls 0 j++bA 4 bR s sum ls (0+(j:Int)) i++cO 4 bR s sum (ls.getD (0+(j:Int)).toNat []) (0+(j:Int)) i t).length:=by
     intro t;induction t with
     |zero=>intro _ _;rw[fQ,ahZ];exact hgo2
     |succ t ih=>
      intro ht hall;have g0:=ih (by omega) fun t' h'=>hall t' (by omega)
      have g1:=hall t (by omega)
      rw[fT (by omega)]
      split
      ·rename_i hh
       rw[hh]at g1;obtain⟨B,hB⟩:=hsp t (by omega) hh
       rw[←ai8];exact pJ hB g0 (by simpa using g1)
      ·rw[ahZ];exact g0
    rw[hm];conv=>whnf
    refine iO aK mixed ak eX (fun r=>hY r _) (fs:=[]) (cs:=[.ip (.pv [.int .u32 (mk (s.cd i):Nat)]) 0]) ((s.cd i).map (PV.int .i64)) (fun t=>(!jst 4 s sum (ls.getD (0+(j:Int)).toNat []) i ((s.cd i).getD t 0)||go ((bg 4 bR s sum ls 0 j++bA 4 bR s sum ls (0+(j:Int)) i++cO 4 bR s sum (ls.getD (0+(j:Int)).toNat []) (0+(j:Int)) i t)++[ddV bR i ((s.cd i).getD t 0) (0+(j:Int))]))) (fun t=>[(0,.ext G (bg 4 bR s sum ls 0 j++bA 4 bR s sum ls (0+(j:Int)) i++cO 4 bR s sum (ls.getD (0+(j:Int)).toNat []) (0+(j:Int)) i t))]) (by rfl) (by rfl) (by rfl) (jK (s.cd i) hA) (by rfl) (by rfl) (by rfl) (by rfl) ?_ ?_ ?_
    ·repeat'((conv=>whnf);first|intro _|apply aI|with_reducible exact vM rfl|exact⟨⟩|apply nM|apply fM)
     all_goals((try apply vM);(try simp only[vq]at*);try omega)
     all_goals(rw[fQ,ahZ])
    ·intro hall
     rw[ah2]at hall⊢;have g9:=hpos _ (af3 _) hall
     repeat'((conv=>whnf);first|intro _|apply aI|with_reducible exact vM rfl|exact⟨⟩|apply nM|apply fM)
     all_goals((try apply vM);(try simp only[vq]at*);try omega)
     refine⟨i+1,[],⟨⟨by omega,by rw[e1,←ai8];exact g9⟩,by omega⟩,?_⟩
     rw[e1,←ai8]
     repeat'((conv=>whnf);first|intro _|apply aI|with_reducible exact vM rfl|exact⟨⟩|apply nM|apply fM)
     all_goals((try apply vM);(try simp only[vq]at*);try omega)
    ·intro t x hx hall lp
     obtain⟨ht,rfl⟩:=oD hx;have hxC:=cB ht;have hxr:=hA.rng _ hxC;have hxc:=hAc _ hxC;have g0:=hpos t (by omega) hall
     have hs1:=hsp t ht;have cs1:=fT (g:=4) (nm:=bR) (s:=s) (sum:=sum) (l:=(ls.getD (0+(j:Int)).toNat [])) (k:=(0+(j:Int))) ht
     repeat'((conv=>whnf);first|refine Exists.intro (s) ?_|(intro hq;(try simp only[vw]at hq);try first|exact absurd hq (by decide)|exfalso;omega)|apply aI|with_reducible exact vM rfl|exact⟨⟩|apply nM|apply fM)
     all_goals((try apply vM);(try simp only[vq]at*);try omega)
     all_goals(try omega)
     ·exact⟨h,by omega,by omega,by omega⟩
     ·obtain⟨B,hB⟩:=hs1 (by assumption)
      exact qU hB g0
     ·rw[show jst 4 s sum (ls.getD (0+(j:Int)).toNat []) i ((s.cd i).getD t 0)=true by assumption]
      assumption
     ·obtain⟨B,hB⟩:=hs1 (by assumption)
      exact pK hB g0 (by assumption)
     ·have q1:jst 4 s sum (ls.getD (0+(j:Int)).toNat []) i ((s.cd i).getD t 0)=true:=by assumption
      have q2:go ((bg 4 bR s sum ls 0 j++bA 4 bR s sum ls (0+(j:Int)) i++cO 4 bR s sum (ls.getD (0+(j:Int)).toNat []) (0+(j:Int)) i t)++[ddV bR i ((s.cd i).getD t 0) (0+(j:Int))])=true:=by assumption
      refine⟨[],?_⟩;rw[cs1,if_pos q1,←ai8]
      repeat'((conv=>whnf);first|intro _|apply aI|with_reducible exact vM rfl|exact⟨⟩|apply nM|apply fM)
      all_goals((try apply vM);(try simp only[vq]at*);try omega)
      all_goals(try first|(rw[q1,q2];rfl)|rfl)
     ·have q1:jst 4 s sum (ls.getD (0+(j:Int)).toNat []) i ((s.cd i).getD t 0)=false:=by assumption
      refine⟨[],?_⟩;rw[cs1,if_neg (by rw[q1];decide),ahZ]
      repeat'((conv=>whnf);first|intro _|apply aI|with_reducible exact vM rfl|exact⟨⟩|apply nM|apply fM)
      all_goals((try apply vM);(try simp only[vq]at*);try omega)
      all_goals(try(rw[q1];rfl))
   ·have hce:dG 4 bR s sum (ls.getD (0+(j:Int)).toNat []) (0+(j:Int)) i=[]:=by unfold dG;rw[show s.dc i=true from hq];rfl
    rw[hce,ahZ]at e1;refine⟨i+1,[],⟨⟨by omega,by rw[e1];exact hgo2⟩,by omega⟩,?_⟩
    rw[e1]
    repeat'((conv=>whnf);first|intro _|apply aI|with_reducible exact vM rfl|exact⟨⟩|apply nM|apply fM)
    all_goals((try apply vM);(try simp only[vq]at*);try omega)
  ·have:i=s.cs.length:=by omega
   subst this;rw[←e2]at hgo2⊢
   repeat'((conv=>whnf);first|(intro hq;(try simp only[vw]at hq);try first|exact absurd hq (by decide)|exfalso;omega)|apply aI|with_reducible exact vM rfl|exact⟨⟩|apply nM|apply fM)
   all_goals((try apply vM);(try simp only[vq]at*);try omega)
   refine⟨j+1,[(21,2)],⟨⟨by omega,hgo2⟩,by omega⟩,?_⟩
   repeat'((conv=>whnf);first|intro _|apply aI|with_reducible exact vM rfl|exact⟨⟩|apply nM|apply fM)
   all_goals((try apply vM);(try simp only[vq]at*);try omega)
 ·have:j=ls.length:=by omega
  subst this
  repeat'((conv=>whnf);first|(intro hq;(try simp only[vw]at hq);try first|exact absurd hq (by decide)|exfalso;omega)|apply aI|with_reducible exact vM rfl|exact⟨⟩|apply nM|apply fM)
  all_goals((try apply vM);(try simp only[vq]at*);try omega)
  rw[hL];rw[hL]at hgo;exact pO hgo
theorem QM (c:Int) (ls:List (List Int)) (sum:Int) (gv:List Int) (s:St) (h:bL c ls sum s):
 mY Tryz.prog 180 [] [.ip (.pv [.int .i64 0]) 0,.ip (.pv [.int .i64 ls.length]) 0,.ip (.pv [bdV c ls sum gv s]) 0,rlV bS false true 176] 1 (bg 5 bS s sum ls 0 ls.length):=by
 refine kQ (md:=1) (rf:=[]) mixed ak Tryz.func180 (by rfl) (by rfl) (by rfl) fun G go b hY=>⟨_,eX,?_⟩
 obtain⟨L,hL⟩:∃L,L=bg 5 bS s sum ls 0 ls.length:=⟨_,rfl⟩;rw[←hL]at hY⊢;have W:Walk Tryz.prog none j5 tab.get Br (sj b 1 G go L):=⟨aK,mixed,ak,eX,hY _ _⟩;have hcl:=h.cl;have hdl:=h.dl;have hc1:=h.c1;have hms:=dL s.cs;have hll:=h.ll
 repeat'((conv=>whnf);first|intro _|apply aI|with_reducible exact vM rfl|exact⟨⟩|apply nM|apply fM)
 all_goals((try apply vM);(try simp only[vq]at*);try omega)
 conv=>whnf
 refine aM (X:=Nat) (fun j=>j≤ls.length∧GoTo go L (bg 5 bS s sum ls 0 j).length) (fun j=>[(6,.rp 2 0)]) (fun j=>[(0,.ext G (bg 5 bS s sum ls 0 j)),(2,.cells (.pv [.int .i64 (0+(j:Int))]) false)]) (fun j=>ls.length-j) 0 W (by rfl) ⟨by omega,.zero⟩ ?_ ?_
 ·repeat'((conv=>whnf);first|intro _|apply aI|with_reducible exact vM rfl|exact⟨⟩|apply nM|apply fM)
  all_goals((try apply vM);(try simp only[vq]at*);try omega)
  all_goals rfl
 intro j ⟨hj,hgo⟩;by_cases hlt:j<ls.length
 ·have e2:bg 5 bS s sum ls 0 (j+1)=bg 5 bS s sum ls 0 j++bA 5 bS s sum ls (0+(j:Int)) s.cs.length:=by unfold bg;rw[jh]
  have hln:=h.ln j hlt;have hlen:=hln.len;have ejt:(0+(j:Int)).toNat=j:=by omega
  repeat'((conv=>whnf);first|(intro hq;(try simp only[vw]at hq);try first|exact absurd hq (by decide)|exfalso;omega)|apply aI|with_reducible exact vM rfl|exact⟨⟩|apply nM|apply fM)
  all_goals((try apply vM);(try simp only[vq]at*);try omega)
  conv=>whnf
  refine aM (X:=Nat) (fun i=>i≤s.cs.length∧GoTo go L (bg 5 bS s sum ls 0 j++bA 5 bS s sum ls (0+(j:Int)) i).length) (fun i=>[(22,.int .i64 i)]) (fun i=>[(0,.ext G (bg 5 bS s sum ls 0 j++bA 5 bS s sum ls (0+(j:Int)) i))]) (fun i=>s.cs.length-i) 0 W (by rfl) ⟨by omega,by simpa [bA]using hgo⟩ ?_ ?_
  ·repeat'((conv=>whnf);first|intro _|apply aI|with_reducible exact vM rfl|exact⟨⟩|apply nM|apply fM)
   all_goals((try apply vM);(try simp only[vq]at*);try omega)
   all_goals(simp[bA])
  intro i ⟨hi,hgo2⟩;by_cases hlt2:i<s.cs.length
  ·have hm:(ms s.cs).getD i 0=(mk (s.cd i):Nat):=fD hlt2
   have hA:=(h.asc _ hlt2).1;have hAc:=(h.asc _ hlt2).2;have e1:bA 5 bS s sum ls (0+(j:Int)) (i+1)=bA 5 bS s sum ls (0+(j:Int)) i++dG 5 bS s sum (ls.getD (0+(j:Int)).toNat []) (0+(j:Int)) i:=by unfold bA;rw[jh]
   repeat'((conv=>whnf);first|(intro hq;(try simp only[vw]at hq);try first|exact absurd hq (by decide)|exfalso;omega)|apply aI|with_reducible exact vM rfl|exact⟨⟩|apply nM|apply fM)
   all_goals((try apply vM);(try simp only[vq]at*);try omega)
   all_goals(try first|omega|(rw[ejt];omega))
   ·have hce:dG 5 bS s sum (ls.getD (0+(j:Int)).toNat []) (0+(j:Int)) i=[]:=by unfold dG;rw[show decide ((i:Int)∈(ls.getD (0+(j:Int)).toNat []))=false by apply decide_eq_false;assumption];cases s.dc i<;>rfl
    rw[hce,ahZ]at e1;refine⟨i+1,[],⟨⟨by omega,by rw[e1];exact hgo2⟩,by omega⟩,?_⟩
    rw[e1]
    repeat'((conv=>whnf);first|intro _|apply aI|with_reducible exact vM rfl|exact⟨⟩|apply nM|apply fM)
    all_goals((try apply vM);(try simp only[vq]at*);try omega)
   ·have hcc:(s.dc i||(lnG 5&&!decide ((i:Int)∈(ls.getD (0+(j:Int)).toNat []))))=false:=by rw[show s.dc i=false by assumption,show decide ((i:Int)∈(ls.getD (0+(j:Int)).toNat []))=true by apply decide_eq_true;assumption];rfl
    have hce:dG 5 bS s sum (ls.getD (0+(j:Int)).toNat []) (0+(j:Int)) i=cO 5 bS s sum (ls.getD (0+(j:Int)).toNat []) (0+(j:Int)) i (s.cd i).length:=by unfold dG;rw[hcc];rfl
    rw[hce]at e1;have hsp:∀t,t<(s.cd i).length→jst 5 s sum (ls.getD (0+(j:Int)).toNat []) i ((s.cd i).getD t 0)=true→∃B,L=(bg 5 bS s sum ls 0 j++bA 5 bS s sum ls (0+(j:Int)) i++cO 5 bS s sum (ls.getD (0+(j:Int)).toNat []) (0+(j:Int)) i t)++ddV bS i ((s.cd i).getD t 0) (0+(j:Int))::B:=fun t ht hh=>by
     rw[hL];exact nJ (g:=5) (nm:=bS) (s:=s) (sum:=sum) (ls:=ls) (fr:=0) (m:=ls.length) (j:=j) (i:=i) (t:=t) hlt hlt2 ht hcc hh
    have hpos:∀t,t≤(s.cd i).length→(∀t',t'<t→(!jst 5 s sum (ls.getD (0+(j:Int)).toNat []) i ((s.cd i).getD t' 0)||go ((bg 5 bS s sum ls 0 j++bA 5 bS s sum ls (0+(j:Int)) i++cO 5 bS s sum (ls.getD (0+(j:Int)).toNat []) (0+(j:Int)) i t')++[ddV bS i ((s.cd i).getD t' 0) (0+(j:Int))]))=true)→GoTo go L (bg 5 bS s sum ls 0 j++bA 5 bS s sum ls (0+(j:Int)) i++cO 5 bS s sum (ls.getD (0+(j:Int)).toNat []) (0+(j:Int)) i t).length:=by
     intro t;induction t with
     |zero=>intro _ _;rw[fQ,ahZ];exact hgo2
     |succ t ih=>
      intro ht hall;have g0:=ih (by omega) fun t' h'=>hall t' (by omega)
      have g1:=hall t (by omega)
      rw[fT (by omega)]
      split
      ·rename_i hh
       rw[hh]at g1;obtain⟨B,hB⟩:=hsp t (by omega) hh
       rw[←ai8];exact pJ hB g0 (by simpa using g1)
      ·rw[ahZ];exact g0
    rw[hm];conv=>whnf
    refine iO aK mixed ak eX (fun r=>hY r _) (fs:=[]) (cs:=[.ip (.pv [.int .u32 (mk (s.cd i):Nat)]) 0]) ((s.cd i).map (PV.int .i64)) (fun t=>(!jst 5 s sum (ls.getD (0+(j:Int)).toNat []) i ((s.cd i).getD t 0)||go ((bg 5 bS s sum ls 0 j++bA 5 bS s sum ls (0+(j:Int)) i++cO 5 bS s sum (ls.getD (0+(j:Int)).toNat []) (0+(j:Int)) i t)++[ddV bS i ((s.cd i).getD t 0) (0+(j:Int))]))) (fun t=>[(0,.ext G (bg 5 bS s sum ls 0 j++bA 5 bS s sum ls (0+(j:Int)) i++cO 5 bS s sum (ls.getD (0+(j:Int)).toNat []) (0+(j:Int)) i t))]) (by rfl) (by rfl) (by rfl) (jK (s.cd i) hA) (by rfl) (by rfl) (by rfl) (by rfl) ?_ ?_ ?_
    ·repeat'((conv=>whnf);first|intro _|apply aI|with_reducible exact vM rfl|exact⟨⟩|apply nM|apply fM)
     all_goals((try apply vM);(try simp only[vq]at*);try omega)
     all_goals(rw[fQ,ahZ])
    ·intro hall
     rw[ah2]at hall⊢;have g9:=hpos _ (af3 _) hall
     repeat'((conv=>whnf);first|intro _|apply aI|with_reducible exact vM rfl|exact⟨⟩|apply nM|apply fM)
     all_goals((try apply vM);(try simp only[vq]at*);try omega)
     refine⟨i+1,[],⟨⟨by omega,by rw[e1,←ai8];exact g9⟩,by omega⟩,?_⟩
     rw[e1,←ai8]
     repeat'((conv=>whnf);first|intro _|apply aI|with_reducible exact vM rfl|exact⟨⟩|apply nM|apply fM)
     all_goals((try apply vM);(try simp only[vq]at*);try omega)
    ·intro t x hx hall lp
     obtain⟨ht,rfl⟩:=oD hx;have hxC:=cB ht;have hxr:=hA.rng _ hxC;have hxc:=hAc _ hxC;have g0:=hpos t (by omega) hall
     have hs1:=hsp t ht;have cs1:=fT (g:=5) (nm:=bS) (s:=s) (sum:=sum) (l:=(ls.getD (0+(j:Int)).toNat [])) (k:=(0+(j:Int))) ht
     repeat'((conv=>whnf);first|refine Exists.intro (s) ?_|(intro hq;(try simp only[vw]at hq);try first|exact absurd hq (by decide)|exfalso;omega)|apply aI|with_reducible exact vM rfl|exact⟨⟩|apply nM|apply fM)
     all_goals((try apply vM);(try simp only[vq]at*);try omega)
     all_goals(try omega)
     ·exact⟨h,by omega,by omega,by omega⟩
     ·obtain⟨B,hB⟩:=hs1 (by assumption)
      exact qU hB g0
     ·rw[show jst 5 s sum (ls.getD (0+(j:Int)).toNat []) i ((s.cd i).getD t 0)=true by assumption]
      assumption
     ·obtain⟨B,hB⟩:=hs1 (by assumption)
      exact pK hB g0 (by assumption)
     ·have q1:jst 5 s sum (ls.getD (0+(j:Int)).toNat []) i ((s.cd i).getD t 0)=true:=by assumption
      have q2:go ((bg 5 bS s sum ls 0 j++bA 5 bS s sum ls (0+(j:Int)) i++cO 5 bS s sum (ls.getD (0+(j:Int)).toNat []) (0+(j:Int)) i t)++[ddV bS i ((s.cd i).getD t 0) (0+(j:Int))])=true:=by assumption
      refine⟨[],?_⟩;rw[cs1,if_pos q1,←ai8]
      repeat'((conv=>whnf);first|intro _|apply aI|with_reducible exact vM rfl|exact⟨⟩|apply nM|apply fM)
      all_goals((try apply vM);(try simp only[vq]at*);try omega)
      all_goals(try first|(rw[q1,q2];rfl)|rfl)
     ·have q1:jst 5 s sum (ls.getD (0+(j:Int)).toNat []) i ((s.cd i).getD t 0)=false:=by assumption
      refine⟨[],?_⟩;rw[cs1,if_neg (by rw[q1];decide),ahZ]
      repeat'((conv=>whnf);first|intro _|apply aI|with_reducible exact vM rfl|exact⟨⟩|apply nM|apply fM)
      all_goals((try apply vM);(try simp only[vq]at*);try omega)
      all_goals(try(rw[q1];rfl))
   ·have hce:dG 5 bS s sum (ls.getD (0+(j:Int)).toNat []) (0+(j:Int)) i=[]:=by unfold dG;rw[show s.dc i=true from hq];rfl
    rw[hce,ahZ]at e1;refine⟨i+1,[],⟨⟨by omega,by rw[e1];exact hgo2⟩,by omega⟩,?_⟩
    rw[e1]
    repeat'((conv=>whnf);first|intro _|apply aI|with_reducible exact vM rfl|exact⟨⟩|apply nM|apply fM)
    all_goals((try apply vM);(try simp only[vq]at*);try omega)
  ·have:i=s.cs.length:=by omega
   subst this;rw[←e2]at hgo2⊢
   repeat'((conv=>whnf);first|(intro hq;(try simp only[vw]at hq);try first|exact absurd hq (by decide)|exfalso;omega)|apply aI|with_reducible exact vM rfl|exact⟨⟩|apply nM|apply fM)
   all_goals((try apply vM);(try simp only[vq]at*);try omega)
   refine⟨j+1,[(21,2)],⟨⟨by omega,hgo2⟩,by omega⟩,?_⟩
   repeat'((conv=>whnf);first|intro _|apply aI|with_reducible exact vM rfl|exact⟨⟩|apply nM|apply fM)
   all_goals((try apply vM);(try simp only[vq]at*);try omega)
 ·have:j=ls.length:=by omega
  subst this
  repeat'((conv=>whnf);first|(intro hq;(try simp only[vw]at hq);try first|exact absurd hq (by decide)|exfalso;omega)|apply aI|with_reducible exact vM rfl|exact⟨⟩|apply nM|apply fM)
  all_goals((try apply vM);(try simp only[vq]at*);try omega)
  rw[hL];rw[hL]at hgo;exact pO hgo
structure Dd where
 g:Nat
 y:Int
 x:Int
 k:Int
abbrev Bt (d:Dd):PV:=ddV (nmG d.g) d.y d.x d.k
def frG (g:Nat):Int:=if lnG g then 0 else-1
def mG (g:Nat) (ls:List (List Int)):Nat:=if lnG g then ls.length else 1
def Bu (g:Nat) (s:St) (sum:Int) (l:List Int) (k:Int) (i:Nat):List Dd:=
 if s.dc i||(lnG g&&!decide ((i:Int)∈l))then []else((s.cd i).filter fun x=>jst g s sum l i x).map fun x=>⟨g,i,x,k⟩
def nP (g:Nat) (s:St) (sum:Int) (ls:List (List Int)):List Dd:=
 (agc (mG g ls)).flatMap fun j:Nat=>(agc s.cs.length).flatMap fun i=>Bu g s sum (ls.getD (frG g+(j:Int)).toNat []) (frG g+(j:Int)) i
theorem ZR (g:Nat) (s:St) (sum:Int) (l:List Int) (k:Int) (i:Nat):dG g (nmG g) s sum l k i=(Bu g s sum l k i).map Bt:=by
 unfold dG Bu;split
 ·rfl
 ·unfold cO;rw[ah6,List.map_map];rfl
theorem ZT (g:Nat) (s:St) (sum:Int) (ls:List (List Int)):bg g (nmG g) s sum ls (frG g) (mG g ls)=(nP g s sum ls).map Bt:=by
 unfold bg nP bA;rw[ai9];congr 1;funext j;rw[ai9];congr 1;funext i;exact ZR _ _ _ _ _ _
theorem Gw {g:Nat} {s:St} {sum:Int} {ls:List (List Int)} {d:Dd}:d∈nP g s sum ls↔
 d.g=g∧(0≤d.y∧d.y<s.cs.length)∧(if lnG g then(0≤d.k∧d.k<ls.length)∧d.y∈ls.getD d.k.toNat []else d.k= -1)∧okJ g s sum (ls.getD d.k.toNat []) d.y d.x=true:=by
 unfold nP;rw[aja];constructor
 ·rintro⟨j,hj,hd⟩
  rw[aja]at hd;obtain⟨i,hi,hd⟩:=hd;have hj:=ahT.1 hj;have hi:=ahT.1 hi;unfold Bu at hd;split at hd
  ·simp at hd
  ·rename_i hc
   obtain⟨x,hx,rfl⟩:=aiT.1 hd;obtain⟨hx,hJ⟩:=aij.1 hx;have hc:(s.dc i||(lnG g&&!decide ((i:Int)∈ls.getD (frG g+(j:Int)).toNat [])))=false:=by
    cases h:(s.dc i||(lnG g&&!decide ((i:Int)∈ls.getD (frG g+(j:Int)).toNat [])))with
    |false=>rfl
    |true=>exact absurd h hc
   rw[Bool.or_eq_false_iff]at hc;refine⟨rfl,⟨by simp,by simp;omega⟩,?_,?_⟩
   ·cases hl:lnG g with
    |true=>
     rw[hl]at hc;simp only[mG,frG,hl,if_true]at hj⊢;refine⟨⟨by omega,by omega⟩,?_⟩
     have:=hc.2;simp only[frG,hl,if_true,Bool.true_and,Bool.not_eq_false',decide_eq_true_eq]at this;exact this
    |false=>
     simp only[mG,frG,hl]at hj⊢;simp at hj⊢;omega
   ·unfold okJ
    simp only[ag9];rw[hc.1,decide_eq_true hx,hJ];rfl
 ·rintro⟨h1,⟨h2,h3⟩,h4,h5⟩
  unfold okJ at h5;simp only[ags,ajb,decide_eq_true_eq]at h5;obtain⟨a1,a2,a3⟩:=h5;have e:((d.y.toNat:Nat):Int)=d.y:=by omega
  cases hl:lnG g with
  |true=>
   rw[hl]at h4;simp only[if_true]at h4;refine⟨d.k.toNat,ahT.2 (by simp only[mG,hl,if_true];omega),?_⟩
   rw[aja];refine⟨d.y.toNat,ahT.2 (by omega),?_⟩
   have ek:(frG g+((d.k.toNat:Nat):Int))=d.k:=by simp only[frG,hl,if_true];omega
   rw[ek];unfold Bu;rw[a1,hl,e,decide_eq_true h4.2];simp only[Bool.not_true,Bool.and_false,ajc];exact aiT.2 ⟨d.x,aij.2 ⟨a2,a3⟩,by subst h1;rfl⟩
  |false=>
   rw[hl]at h4;simp only[Bool.false_eq_true,if_false]at h4;refine⟨0,ahT.2 (by simp[mG,hl]),?_⟩
   rw[aja];refine⟨d.y.toNat,ahT.2 (by omega),?_⟩
   have ek:(frG g+((0:Nat):Int))=d.k:=by simp only[frG,hl];rw[h4];rfl
   rw[ek];unfold Bu;rw[a1,hl,e];simp only[Bool.false_and,ajc];exact aiT.2 ⟨d.x,aij.2 ⟨a2,a3⟩,by subst h1;rfl⟩
def jL (s:St) (sum:Int) (ls:List (List Int)):Nat→Option Dd
 |0=>none
 |n+1=>match jL s sum ls n with
  |some d=>some d
  |none=>(nP (n+1) s sum ls).head?
theorem Gx {s:St} {sum:Int} {ls:List (List Int)} {d:Dd}:∀{n:Nat},jL s sum ls n=some d→∃g,1≤g∧g≤n∧d∈nP g s sum ls:=by
 intro n;induction n with
 |zero=>intro h;cases h
 |succ n ih=>
  intro h;unfold jL at h;split at h
  ·rename_i d' h1
   cases h
   obtain⟨g,g1,g2,g3⟩:=ih h1;exact⟨g,g1,by omega,g3⟩
  ·exact⟨n+1,by omega,by omega,List.mem_of_head? h⟩
def Ul (g:Nat):Bool:=g≤3
def fnG:Nat→Nat
 |1=>172
 |2=>173
 |3=>174
 |4=>175
 |_=>176
def toG (g:Nat) (ls:List (List Int)):Int:=if lnG g then ls.length else 0
noncomputable def afd:CPT:=aA 130 (aB pG) noC
theorem ZU:aU Tryz.prog afd:=aj (au pI) aC
abbrev itV (g:Nat) (c:Int) (ls:List (List Int)) (sum:Int) (gv:List Int) (s:St):PV:=.fn (.func 180) [] [.ip (.pv [.int .i64 (frG g)]) 0,.ip (.pv [.int .i64 (toG g ls)]) 0,.ip (.pv [bdV c ls sum gv s]) 0,rlV (nmG g) (Ul g) (lnG g) (fnG g)]
theorem Um (g:Nat) (hg:1≤g∧g≤5) (c:Int) (ls:List (List Int)) (sum:Int) (gv:List Int) (s:St) (h:bL c ls sum s):
 mY Tryz.prog 180 [] [.ip (.pv [.int .i64 (frG g)]) 0,.ip (.pv [.int .i64 (toG g ls)]) 0,.ip (.pv [bdV c ls sum gv s]) 0,rlV (nmG g) (Ul g) (lnG g) (fnG g)] 1 ((nP g s sum ls).map Bt):=by
 rw[←ZT];obtain rfl|rfl|rfl|rfl|rfl:g=1∨g=2∨g=3∨g=4∨g=5:=by omega
 ·exact QI c ls sum gv s h
 ·exact QJ c ls sum gv s h
 ·exact QK c ls sum gv s h
 ·exact QL c ls sum gv s h
 ·exact QM c ls sum gv s h
theorem Un (c:Int) (ls:List (List Int)) (sum:Int) (gv:List Int) (s:St) (g:Nat) (hg:1≤g∧g≤5):aF Tryz.prog 134 [bdV c ls sum gv s,.int .i64 (g:Int)] (itV g c ls sum gv s):=by
 have hte:=zD;obtain rfl|rfl|rfl|rfl|rfl:g=1∨g=2∨g=3∨g=4∨g=5:=by omega
 all_goals
  refine av (md:=1) (rf:=[]) mixed ak ZU Tryz.func134 (by rfl) (by rfl) (by rfl) ?_
  repeat'((conv=>whnf);first|(intro hq;(try simp only[vw]at hq);try first|exact absurd hq (by decide)|exfalso;omega)|apply aI|with_reducible exact vM rfl|exact⟨⟩|apply nM|apply fM)
  all_goals((try apply vM);(try simp only[vq]at*);try omega)
  all_goals first|exact Sup.of rfl|(rw[hte];decide)|decide|skip
def NQ:PSp:=fun xs K=>match xs with
 | [.ip (.pv [.int .i64 c,.isl (.rows .i64 ls) .none,.int .i64 sum,.isl (.ints .i64 gv) .none,.isl (.ints .u32 M) .none,.isl (.bools D) .none]) 0,.int .i64 g]=>∃(s:St) (n:Nat),VC (M=ms s.cs∧D=s.ds∧g=n∧1≤n∧n≤5)∧K (itV n c ls sum gv s)
 |_=>False
theorem ZV:POK Tryz.prog 134 NQ:=by
 intro xs K hk;unfold NQ at hk;split at hk
 ·obtain⟨s,n,⟨rfl,rfl,rfl,h⟩,hk⟩:=hk
  exact⟨_,hk,Un _ _ _ _ s n h⟩
 ·exact hk.elim
noncomputable def afe:CPT:=aA 134 (aB NQ) noC
theorem Bv:aU Tryz.prog afe:=aj (au ZV) aC
def ac1 (o:Option Dd):PV:=match o with
 |some d=>.tup [Bt d,.bp true]
 |none=>.tup [ddV sP 0 0 0,.bp false]
theorem ZW {s:St} {sum:Int} {ls:List (List Int)} {d:Dd} {i:Nat} (h0:jL s sum ls i=none) (h1:(nP (i+1) s sum ls).head? =some d):∀n,i+1≤n→jL s sum ls n=some d:=by
 intro n hn;induction n with
 |zero=>omega
 |succ n ih=>
  unfold jL;by_cases e:i=n
  ·subst e;rw[h0];exact h1
  ·rw[ih (by omega)]
theorem QN (p:PV) (b:Bool):Sup (bE [p,PV.bool b]) (PV.tup [p,.bp b]):=⟨fun hr=>by
 cases hr with
 |tup _ _ vs hl hh=>
  refine .tup _ _ _ hl fun i hi=>?_;have:=hh i hi;obtain rfl|rfl:i=0∨i=1:=by simp at hi;omega
  ·exact this
  ·simp only[aD]at this⊢
   generalize vs.getD 1 undef=v1 at this
   cases this;exact .bp _ _⟩
theorem NR (c:Int) (ls:List (List Int)) (sum:Int) (gv:List Int) (s:St) (h:bL c ls sum s) (n:Nat) (hn:n≤5):aF Tryz.prog 92 [bdV c ls sum gv s,.int .i64 (n:Int)] (ac1 (jL s sum ls n)):=by
 refine av (md:=1) (rf:=[]) mixed ak Bv Tryz.func92 (by rfl) (by rfl) (by rfl) ?_
 repeat'((conv=>whnf);first|(intro hq;(try simp only[vw]at hq);try first|exact absurd hq (by decide)|exfalso;omega)|apply aI|with_reducible exact vM rfl|exact⟨⟩|apply nM|apply fM)
 all_goals((try apply vM);(try simp only[vq]at*);try omega)
 conv=>whnf
 refine aM (X:=Nat) (fun i=>i≤n∧jL s sum ls i=none) (fun i=>[(6,.int .i64 ((i:Int)+1))]) (fun i=>[]) (fun i=>n-i) 0 ⟨aK,mixed,ak,Bv,aP⟩ (by rfl) ⟨by omega,rfl⟩ ?_ ?_
 ·repeat'((conv=>whnf);first|intro _|apply aI|with_reducible exact vM rfl|exact⟨⟩|apply nM|apply fM)
  all_goals((try apply vM);(try simp only[vq]at*);try omega)
 intro i ⟨hi,hok⟩;by_cases hlt:i<n
 ·repeat'((conv=>whnf);first|refine Exists.intro (s) ?_|refine Exists.intro (i+1) ?_|(intro hq;(try simp only[vw]at hq);try first|exact absurd hq (by decide)|exfalso;omega)|apply aI|with_reducible exact vM rfl|exact⟨⟩|apply nM|apply fM)
  all_goals((try apply vM);(try simp only[vq]at*);try omega)
  conv=>whnf
  refine iO aK mixed ak Bv (fun r=>aP) (fs:=[]) (cs:=[.ip (.pv [.int .i64 (frG (i+1))]) 0,.ip (.pv [.int .i64 (toG (i+1) ls)]) 0,.ip (.pv [bdV c ls sum gv s]) 0,rlV (nmG (i+1)) (Ul (i+1)) (lnG (i+1)) (fnG (i+1))]) ((nP (i+1) s sum ls).map Bt) (fun _=>false) (fun _=>[]) (by rfl) (by rfl) (by rfl) (Um (i+1) (by omega) c ls sum gv s h) (by rfl) (by rfl) (by rfl) (by rfl) ?_ ?_ ?_
  ·repeat'((conv=>whnf);first|intro _|apply aI|with_reducible exact vM rfl|exact⟨⟩|apply nM|apply fM)
   all_goals((try apply vM);(try simp only[vq]at*);try omega)
  ·intro hall
   have hE:nP (i+1) s sum ls=[]:=by
    cases hL:nP (i+1) s sum ls with
    |nil=>rfl
    |cons d l=>rw[hL]at hall;exact absurd (hall 0 (by simp)) (by decide)
   repeat'((conv=>whnf);first|(intro hq;(try simp only[vw]at hq);try first|exact absurd hq (by decide)|exfalso;omega)|apply aI|with_reducible exact vM rfl|exact⟨⟩|apply nM|apply fM)
   all_goals((try apply vM);(try simp only[vq]at*);try omega)
   refine⟨i+1,[],⟨⟨by omega,?_⟩,by omega⟩,?_⟩
   ·unfold jL;rw[hok,hE];rfl
   repeat'((conv=>whnf);first|intro _|apply aI|with_reducible exact vM rfl|exact⟨⟩|apply nM|apply fM)
   all_goals((try apply vM);(try simp only[vq]at*);try omega)
  ·intro t x hx hall lp
   have ht:t=0:=by
    rcases Nat.eq_zero_or_pos t with h0|h0
    ·exact h0
    ·exact absurd (hall 0 h0) (by decide)
   subst ht;rw[ag2]at hx;cases hL:nP (i+1) s sum ls with
   |nil=>rw[hL]at hx;cases hx
   |cons d l=>
    rw[hL]at hx;cases hx
    rw[ZW hok (by rw[hL];rfl) n (by omega)]
    repeat'((conv=>whnf);first|(intro hq;(try simp only[vw]at hq);try first|exact absurd hq (by decide)|exfalso;omega)|apply aI|with_reducible exact vM rfl|exact⟨⟩|apply nM|apply fM)
    all_goals((try apply vM);(try simp only[vq]at*);try omega)
    exact QN _ _
 ·have:i=n:=by omega
  subst this;rw[hok]
  repeat'((conv=>whnf);first|(intro hq;(try simp only[vw]at hq);try first|exact absurd hq (by decide)|exfalso;omega)|apply aI|with_reducible exact vM rfl|exact⟨⟩|apply nM|apply fM)
  all_goals((try apply vM);(try simp only[vq]at*);try omega)
  exact QN _ _
def wL:PSp:=fun xs K=>match xs with
 | [.ip (.pv [.int .i64 c,.isl (.rows .i64 ls) .none,.int .i64 sum,.isl (.ints .i64 gv) .none,.isl (.ints .u32 M) .none,.isl (.bools D) .none]) 0,.int .i64 g]=>∃(s:St) (o:Option Dd),VC (M=ms s.cs∧D=s.ds∧(0≤g∧g≤5)∧bL c ls sum s∧jL s sum ls g.toNat=o)∧K (ac1 o)
 |_=>False
theorem Dh:POK Tryz.prog 92 wL:=by
 intro xs K hk;unfold wL at hk;split at hk
 ·obtain⟨s,o,⟨rfl,rfl,hg,h,rfl⟩,hk⟩:=hk
  rename_i g;obtain⟨n,rfl⟩:∃n:Nat,g=n:=⟨g.toNat,by omega⟩
  rw[ag9]at hk;exact⟨_,hk,NR _ _ _ _ s h n (by omega)⟩
 ·exact hk.elim
structure dF (c:Int) (ls:List (List Int)) (sum:Int) (gv:List Int):Prop where
 c1:1≤c∧c≤16
 ll:1≤ls.length∧ls.length≤128
 ln:∀i,i<ls.length→Tx c (ls.getD i [])
 sm: -999999999≤sum∧sum≤999999999
 gl:(gv.length:Int)=c
 gr:∀x∈gv,0≤x∧x≤c
 gd:∀i j,i<j→j<gv.length→0<gv.getD j 0→gv.getD i 0≠gv.getD j 0
def frL (c:Int) (l:List Int):List Int:=((agc c.toNat).map fun i:Nat=>(i:Int)+1).filter fun y=>!decide (y∈l)
theorem Bw {c:Int} {l:List Int} {x:Int} (hc:0≤c):x∈frL c l↔(1≤x∧x≤c)∧x∉l:=by
 unfold frL;rw[aij,aiT];constructor
 ·rintro⟨⟨i,hi,rfl⟩,h⟩
  have:=ahT.1 hi;exact⟨by omega,by simpa using h⟩
 ·rintro⟨h,h2⟩
  exact⟨⟨(x-1).toNat,ahT.2 (by omega),by omega⟩,by simpa using h2⟩
theorem Ky {c:Int} {l:List Int} (hc:1≤c∧c≤16):Asc (frL c l):=by
 refine⟨?_,fun x hx=>?_⟩
 ·unfold frL
  refine List.Pairwise.filter _ ?_;rw[List.pairwise_map];exact List.Pairwise.imp (fun h=>by omega) List.pairwise_lt_range
 ·have:=(Bw (by omega)).1 hx;omega
theorem ZX (c:Int) (l:List Int) (x:Int):dP (frL c l) x=frL c (l++[x]):=by
 unfold dP frL;rw[List.filter_filter];congr 1
 funext y
 simp[agh,Bool.and_comm]
theorem Uo {c:Int} {l:List Int} {x:Int} (h:x≤0):frL c (l++[x])=frL c l:=by
 unfold frL;refine List.filter_congr fun y hy=>?_;obtain⟨i,_,rfl⟩:=aiT.1 hy;have:¬((i:Int)+1=x):=by omega
 simp[this]
def nQ (c:Int) (gv:List Int) (l:List Int):List (List Int):=l.map fun x=>if 0<x then [x]else frL c gv
def nR (l:List Int):List Bool:=l.map fun x=>decide (0<x)
def bgn (c:Int) (gv:List Int):St:=⟨nQ c gv gv,nR gv⟩
theorem zS {c:Int} {ls:List (List Int)} {sum:Int} {gv:List Int} (h:dF c ls sum gv):bL c ls sum (bgn c gv):=by
 have hc:=h.c1;have hg:=h.gl;have hat:∀i,i<gv.length→(bgn c gv).cd i=if 0<gv.getD i 0 then [gv.getD i 0]else frL c gv:=fun i hi=>by
  simp[bgn,nQ,St.cd,agf,hi]
 have hdt:∀i,i<gv.length→(bgn c gv).dc i=decide (0<gv.getD i 0):=fun i hi=>by
  simp[bgn,nR,St.dc,agf,hi]
 have hl:(bgn c gv).cs.length=gv.length:=by simp[bgn,nQ]
 refine⟨hc,h.ll,h.ln,h.sm,by rw[hl];exact hg,by simp[bgn,nR];exact hg,fun i hi=>?_,fun i hi hd=>?_⟩
 ·rw[hl]at hi
  rw[hat i hi];have hm:=h.gr _ (cB hi);split
  ·exact⟨.one (by omega),fun x hx=>by rw[aiO.1 hx];omega⟩
  ·exact⟨Ky hc,fun x hx=>((Bw (by omega)).1 hx).1.2⟩
 ·rw[hl]at hi
  rw[hdt i hi,decide_eq_true_eq]at hd;rw[hat i hi,if_pos hd];rfl
theorem cK {α:Type} {l:List α} {i:Nat} (h:l.length=i):aiK (i-0) (aiL 0 l)=l:=by rw[aiM,aiN,←h,ah6]
theorem NS (c:Int) (ls:List (List Int)) (sum:Int) (gv:List Int) (h:dF c ls sum gv):
 iM Tryz.prog 86 [pzV c ls sum gv] [] [.rp 0 0] (bdO c ls sum gv (bgn c gv) gv.length):=by
 have hc:=h.c1;have hg:=h.gl;have hsb:=kH (c+1).toNat (by omega)
 have ham:=yC hc;have hfr0:((agc c.toNat).map fun i:Nat=>(i:Int)+1)=frL c []:=by unfold frL;simp;rw[ajd.2 (fun _ _=>rfl)]
 rw[hfr0]at ham;refine bH (md:=1) (rf:=[53,61]) mixed ak aC 0 [(1,0),(20,1),(21,2)] Tryz.func86 (by rfl) (by rfl) (by rfl) ?_
 repeat'((conv=>whnf);first|(intro hq;(try simp only[vw]at hq);try first|exact absurd hq (by decide)|exfalso;omega)|apply aI|with_reducible exact vM rfl|exact⟨⟩|apply nM|apply fM)
 all_goals((try apply vM);(try simp only[vq]at*);try omega)
 all_goals(try omega)
 conv=>whnf
 refine aM (X:=Nat) (fun i=>i≤gv.length) (fun i=>[(22,.int .i64 i),(4,.int .u32 (mk (frL c (gv.take i)):Nat))]) (fun i=>[]) (fun i=>gv.length-i) 0 ⟨aK,mixed,ak,aC,aP⟩ (by rfl) (by omega) ?_ ?_
 ·repeat'((conv=>whnf);first|intro _|apply aI|with_reducible exact vM rfl|exact⟨⟩|apply nM|apply fM)
  all_goals((try apply vM);(try simp only[vq]at*);try omega)
  all_goals exact ham
 intro i hi;by_cases hlt:i<gv.length
 ·have hx:=h.gr _ (cB hlt)
  have hsx:=kH (gv.getD i 0).toNat (by omega)
  have hdel:=qN (Ky (l:=gv.take i) hc).inM (show 0≤gv.getD i 0∧gv.getD i 0≤31 by omega)
  rw[ZX,←dZ hlt]at hdel
  repeat'((conv=>whnf);first|(intro hq;(try simp only[vw]at hq);try first|exact absurd hq (by decide)|exfalso;omega)|apply aI|with_reducible exact vM rfl|exact⟨⟩|apply nM|apply fM)
  all_goals((try apply vM);(try simp only[vq]at*);try omega)
  all_goals(try omega)
  ·refine⟨i+1,[],⟨by omega,by omega⟩,?_⟩
   repeat'((conv=>whnf);first|intro _|apply aI|with_reducible exact vM rfl|exact⟨⟩|apply nM|apply fM)
   all_goals((try apply vM);(try simp only[vq]at*);try omega)
   all_goals exact hdel
  ·refine⟨i+1,[],⟨by omega,by omega⟩,?_⟩
   rw[dZ hlt,Uo (by omega)]
   repeat'((conv=>whnf);first|intro _|apply aI|with_reducible exact vM rfl|exact⟨⟩|apply nM|apply fM)
   all_goals((try apply vM);(try simp only[vq]at*);try omega)
 ·have:i=gv.length:=by omega
  subst this;rw[ah6]
  repeat'((conv=>whnf);first|(intro hq;(try simp only[vw]at hq);try first|exact absurd hq (by decide)|exfalso;omega)|apply aI|with_reducible exact vM rfl|exact⟨⟩|apply nM|apply fM)
  all_goals((try apply vM);(try simp only[vq]at*);try omega)
  conv=>whnf
  refine SL (X:=Nat) (fun i=>1≤i∧i≤gv.length) (fun i=>[(36,.int .i64 i)]) (fun i=>[(1,.cells (.pv [.int .i64 c,.isl (.rows .i64 ls) .none,.int .i64 sum,.isl (.ints .i64 gv) .none,.rsl 20 0 i,.rsl 21 0 i]) false),(20,.cells (.ints .u32 (ms (nQ c gv (gv.take i)))) false),(21,.cells (.bools (nR (gv.take i))) false)]) (fun i=>gv.length-i) gv.length ⟨aK,mixed,ak,aC,aP⟩ (by rfl) ?_ ?_
  ·have hx:0≤gv.getD (aiw 0) 0∧gv.getD (aiw 0) 0≤c:=h.gr _ (cB (show 0<gv.length by omega))
   have hsx:=kH (gv.getD (aiw 0) 0).toNat (by omega)
   have e0:gv.take 1=[gv.getD (aiw 0) 0]:=dZ (l:=gv) (i:=0) (by omega)
   have ec:∀q:List Int,(if 0<gv.getD (aiw 0) 0 then [gv.getD (aiw 0) 0]else frL c gv)=q→ms (nQ c gv (gv.take 1))=[((mk q:Nat):Int)]:=fun q hq=>by rw[e0,←hq];rfl
   have ed:nR (gv.take 1)=[decide (0<gv.getD (aiw 0) 0)]:=by rw[e0];rfl
   have hone:(1:Int)*2 ^ (gv.getD (aiw 0) 0).toNat=((mk [gv.getD (aiw 0) 0]:Nat):Int):=by rw[mk_one,aic];norm_cast
   repeat'((conv=>whnf);first|(intro hq;(try simp only[vw]at hq);try first|exact absurd hq (by decide)|exfalso;omega)|apply aI|with_reducible exact vM rfl|exact⟨⟩|apply nM|apply fM)
   all_goals((try apply vM);(try simp only[vq]at*);try omega)
   all_goals(try omega)
   ·refine⟨1,[(3,20),(5,21)],⟨⟨by omega,by omega⟩,by omega⟩,?_⟩
    rw[ec _ (if_pos hq),ed]
    repeat'((conv=>whnf);first|intro _|apply aI|with_reducible exact vM rfl|exact⟨⟩|apply nM|apply fM)
    all_goals((try apply vM);(try simp only[vq]at*);try omega)
    all_goals first|(rw[hone];done)|(rw[hone])|skip
   ·refine⟨1,[(3,20),(5,21)],⟨⟨by omega,by omega⟩,by omega⟩,?_⟩
    rw[ec _ (if_neg hq),ed]
    repeat'((conv=>whnf);first|intro _|apply aI|with_reducible exact vM rfl|exact⟨⟩|apply nM|apply fM)
    all_goals((try apply vM);(try simp only[vq]at*);try omega)
  ·intro i ⟨hi1,hi2⟩
   have hbl:(ms (nQ c gv (gv.take i))).length=i∧(nR (gv.take i)).length=i:=by
    constructor
    ·rw[dL];unfold nQ;rw[ah2,agU];omega
    ·unfold nR;rw[ah2,agU];omega
   by_cases hlt:i<gv.length
   ·have hx:=h.gr _ (cB hlt)
    have hsx:=kH (gv.getD i 0).toNat (by omega)
    have e0:=dZ hlt;have ec:∀q:List Int,(if 0<gv.getD i 0 then [gv.getD i 0]else frL c gv)=q→ms (nQ c gv (gv.take (i+1)))=ms (nQ c gv (gv.take i))++[((mk q:Nat):Int)]:=fun q hq=>by
     rw[e0,←hq];unfold nQ ms;rw[ah5,ah5];rfl
    have ed:nR (gv.take (i+1))=nR (gv.take i)++[decide (0<gv.getD i 0)]:=by rw[e0];unfold nR;rw[ah5];rfl
    have hone:(1:Int)*2 ^ (gv.getD i 0).toNat=((mk [gv.getD i 0]:Nat):Int):=by rw[mk_one,aic];norm_cast
    repeat'((conv=>whnf);first|(intro hq;(try simp only[vw]at hq);try first|exact absurd hq (by decide)|exfalso;omega)|apply aI|with_reducible exact vM rfl|exact⟨⟩|apply nM|apply fM)
    all_goals((try apply vM);(try simp only[vq]at*);try omega)
    all_goals(try omega)
    ·refine⟨i+1,[(3,20),(5,21)],⟨⟨by omega,by omega⟩,by omega⟩,?_⟩
     rw[ec _ (if_pos hq),ed]
     repeat'((conv=>whnf);first|intro _|apply aI|with_reducible exact vM rfl|exact⟨⟩|apply nM|apply fM)
     all_goals((try apply vM);(try simp only[vq]at*);try omega)
     all_goals first|rw[cK hbl.1,hone]|rw[cK hbl.2]
    ·refine⟨i+1,[(3,20),(5,21)],⟨⟨by omega,by omega⟩,by omega⟩,?_⟩
     rw[ec _ (if_neg hq),ed]
     repeat'((conv=>whnf);first|intro _|apply aI|with_reducible exact vM rfl|exact⟨⟩|apply nM|apply fM)
     all_goals((try apply vM);(try simp only[vq]at*);try omega)
     all_goals first|rw[cK hbl.1]|rw[cK hbl.2]
   ·have:i=gv.length:=by omega
    subst this;rw[ah6]at*
    repeat'((conv=>whnf);first|(intro hq;(try simp only[vw]at hq);try first|exact absurd hq (by decide)|exfalso;omega)|apply aI|with_reducible exact vM rfl|exact⟨⟩|apply nM|apply fM)
    all_goals((try apply vM);(try simp only[vq]at*);try omega)
    all_goals skip
def zT:LSp:=fun xs objs K=>match xs,objs with
 | [.agg [.int .i64 c,.isl (.rows .i64 ls) .none,.int .i64 sum,.isl (.ints .i64 gv) .none]],[]=>VC (dF c ls sum gv)∧K [.rp 0 0] (bdO c ls sum gv (bgn c gv) gv.length)
 |_,_=>False
theorem Gy:LOK Tryz.prog 86 zT:=by
 intro xs objs K hk;unfold zT at hk;split at hk
 ·exact⟨_,_,hk.2,NS _ _ _ _ hk.1.get⟩
 ·exact hk.elim
theorem qE {l:List Int} {k i:Nat} (hk:k<i) (hi:i≤l.length):l.getD k 0∈l.take i:=by
 rw[dM];exact⟨k,by rw[agU];omega,by simp[agf,List.getElem?_take,hk]⟩
theorem Kz {c:Int} {ls:List (List Int)} {sum:Int} {gv:List Int}:nO c ls sum gv=if eU c ls≠0 then eU c ls else if sum< -999999999∨999999999<sum then 3 else if(gv.length:Int)≠c then 2 else 0:=by
 unfold nO;simp only[aJ]
 (repeat' split)<;>simp_all
noncomputable def aff:CPT:=aA 51 (aB Bg) noC
theorem Bz:aU Tryz.prog aff:=aj (au Qz) aC
theorem Uq (c:Int) (ls:List (List Int)) (sum:Int) (gv:List Int) (h:bK ls) (hg:gv.length≤5000):aF Tryz.prog 18 [pzV c ls sum gv] (.int .i64 (pzE c ls sum gv)):=by
 obtain⟨E,hE⟩:∃E,nO c ls sum gv=E:=⟨_,rfl⟩;have hE0:=Kz (c:=c) (ls:=ls) (sum:=sum) (gv:=gv);unfold pzE;rw[hE]at hE0⊢;refine av (md:=1) (rf:=[]) mixed ak Bz Tryz.func18 (by rfl) (by rfl) (by rfl) ?_
 repeat'((conv=>whnf);first|(intro hq;(try simp only[vw]at hq);try first|exact absurd hq (by decide)|exfalso;omega)|apply aI|with_reducible exact vM rfl|exact⟨⟩|apply nM|apply fM)
 all_goals((try apply vM);(try simp only[vq]at*);try omega)
 all_goals first|exact h|skip
 ·rw[if_pos hq]at hE0
  rw[hE0,if_pos hq];exact Sup.of rfl
 ·rename_i h1 h2
  rw[if_neg h1,if_pos (.inr hq)]at hE0;rw[hE0];exact Sup.of rfl
 ·rename_i h1 h2 h3
  rw[if_neg h1,if_neg (by omega),if_pos hq]at hE0
  rw[hE0];exact Sup.of rfl
 rotate_left
 ·rename_i h1
  rw[if_neg h1,if_pos (.inl hq)]at hE0;rw[hE0];exact Sup.of rfl
 rename_i h1 h2 h3;rw[if_neg h1,if_neg (by omega),if_neg hq]at hE0
 rw[hE0,if_neg (by simp)]
 conv=>whnf
 refine aM (X:=Nat) (fun i=>i≤gv.length∧∀j,j<i→gvE c gv j=0) (fun i=>[(4,.int .i64 i)]) (fun i=>[]) (fun i=>gv.length-i) 0 ⟨aK,mixed,ak,Bz,aP⟩ (by rfl) ⟨by omega,fun j hj=>by omega⟩ ?_ ?_
 ·repeat'((conv=>whnf);first|intro _|apply aI|with_reducible exact vM rfl|exact⟨⟩|apply nM|apply fM)
  all_goals((try apply vM);(try simp only[vq]at*);try omega)
 intro i ⟨hi,hok⟩;by_cases hlt:i<gv.length
 ·have eS:gvE c gv i=if gv.getD i 0<0∨c<gv.getD i 0 then 3 else if 0<gv.getD i 0∧gv.getD i 0∈gv.take i then 9 else 0:=rfl
  have fin:∀e,gvE c gv i=e→e≠0→cZ (gvE c gv) gv.length=e:=fun e a1 a2=>(dX hlt (by rw[a1];exact a2) hok).trans a1
  have nxt:gvE c gv i=0→∀j,j<i+1→gvE c gv j=0:=fun a j hj=>by
   by_cases e:j=i
   ·subst e;exact a
   ·exact hok j (by omega)
  repeat'((conv=>whnf);first|(intro hq;(try simp only[vw]at hq);try first|exact absurd hq (by decide)|exfalso;omega)|apply aI|with_reducible exact vM rfl|exact⟨⟩|apply nM|apply fM)
  all_goals((try apply vM);(try simp only[vq]at*);try omega)
  ·refine Sup.of (congrArg (PV.int .i64) (fin _ ?_ ?_).symm)
   ·rw[eS,if_pos (.inr hq)]
   ·omega
  ·conv=>whnf
   refine aM (X:=Nat) (fun k=>k≤i∧(0<gv.getD i 0→gv.getD i 0∉gv.take k)) (fun k=>[(5,.int .i64 k)]) (fun k=>[]) (fun k=>i-k) 0 ⟨aK,mixed,ak,Bz,aP⟩ (by rfl) ⟨by omega,fun _=>by simp⟩ ?_ ?_
   ·repeat'((conv=>whnf);first|intro _|apply aI|with_reducible exact vM rfl|exact⟨⟩|apply nM|apply fM)
    all_goals((try apply vM);(try simp only[vq]at*);try omega)
   intro k ⟨hk,hok2⟩;by_cases hlk:k<i
   ·repeat'((conv=>whnf);first|(intro hq;(try simp only[vw]at hq);try first|exact absurd hq (by decide)|exfalso;omega)|apply aI|with_reducible exact vM rfl|exact⟨⟩|apply nM|apply fM)
    all_goals((try apply vM);(try simp only[vq]at*);try omega)
    ·refine Sup.of (congrArg (PV.int .i64) (fin _ ?_ ?_).symm)
     ·rw[eS,if_neg (by omega),if_pos ⟨by assumption,by rw[←hq];exact qE hlk hi⟩]
     ·omega
    ·refine⟨k+1,[],⟨⟨by omega,fun h hm=>?_⟩,by omega⟩,?_⟩
     ·rcases(tQ gv _ k (by omega)).1 hm with h1|h1
      ·exact hok2 h h1
      ·exact hq h1.symm
     repeat'((conv=>whnf);first|intro _|apply aI|with_reducible exact vM rfl|exact⟨⟩|apply nM|apply fM)
     all_goals((try apply vM);(try simp only[vq]at*);try omega)
    ·refine⟨k+1,[],⟨⟨by omega,fun h hm=>absurd h hq⟩,by omega⟩,?_⟩
     repeat'((conv=>whnf);first|intro _|apply aI|with_reducible exact vM rfl|exact⟨⟩|apply nM|apply fM)
     all_goals((try apply vM);(try simp only[vq]at*);try omega)
   ·have:k=i:=by omega
    subst this
    repeat'((conv=>whnf);first|(intro hq;(try simp only[vw]at hq);try first|exact absurd hq (by decide)|exfalso;omega)|apply aI|with_reducible exact vM rfl|exact⟨⟩|apply nM|apply fM)
    all_goals((try apply vM);(try simp only[vq]at*);try omega)
    refine⟨k+1,[],⟨⟨by omega,nxt ?_⟩,by omega⟩,?_⟩
    ·rw[eS,if_neg (by omega),if_neg (fun h=>hok2 h.1 h.2)]
    repeat'((conv=>whnf);first|intro _|apply aI|with_reducible exact vM rfl|exact⟨⟩|apply nM|apply fM)
    all_goals((try apply vM);(try simp only[vq]at*);try omega)
  ·refine Sup.of (congrArg (PV.int .i64) (fin _ ?_ ?_).symm)
   ·rw[eS,if_pos (.inl hq)]
   ·omega
 ·have:gv.length=i:=by omega
  rw[fO (n:=gv.length) (by rw[this];exact hok)]
  repeat'((conv=>whnf);first|intro _|apply aI|with_reducible exact vM rfl|exact⟨⟩|apply nM|apply fM)
  all_goals((try apply vM);(try simp only[vq]at*);try omega)
  exact Sup.of rfl
def Gz:PSp:=fun xs K=>match xs with
 | [.agg [.int .i64 c,.isl (.rows .i64 ls) .none,.int .i64 sum,.isl (.ints .i64 gv) .none]]=>VC (bK ls∧gv.length≤5000)∧K (.int .i64 (pzE c ls sum gv))
 |_=>False
theorem GA:POK Tryz.prog 18 Gz:=by
 intro xs K h;unfold Gz at h;split at h
 ·exact⟨_,h.2,Uq _ _ _ _ h.1.get.1 h.1.get.2⟩
 ·exact h.elim
def nS (p:List Int) (i:Nat):Int:=if p.getD i 0<0∨p.length≤p.getD i 0∨p.getD i 0∈p.take i then 14 else 0
def gF (e1:Int) (p:List Int):Int:=if 256<p.length then e1 else cZ (nS p) p.length
def jy (p:List Int) (i:Nat):List Bool:=(agc p.length).map fun x:Nat=>decide ((x:Int)∈p.take i)
theorem Di (p:List Int) (i:Nat):(jy p i).length=p.length:=by simp[jy]
theorem GD (p:List Int) (i:Nat) (x:Int) (h:0≤x∧x<p.length):(jy p i).getD x.toNat false=decide (x∈p.take i):=by
 have:x.toNat<p.length:=by omega
 simp[jy,agf,this,show max x 0=x by omega]
theorem zU (p:List Int):List.replicate p.length false=jy p 0:=by
 refine aiY (by simp[jy]) fun j h1 h2=>by simp[jy]
theorem zV (p:List Int) (i:Nat) (hi:i<p.length) (h:0≤p.getD i 0∧p.getD i 0<p.length):(jy p i).set (p.getD i 0).toNat true=jy p (i+1):=by
 refine aiY (by simp[jy]) fun j h1 h2=>?_
 rw[aiZ];have hj:j<p.length:=by simpa [jy]using h1
 simp only[jy,ai0,ai1,tQ p _ i hi];by_cases e:(p.getD i 0).toNat=j
 ·rw[if_pos e];exact(decide_eq_true (.inr (by omega))).symm
 ·rw[if_neg e]
  have:¬((j:Int)=p.getD i 0):=by omega
  simp only[this,or_false]
theorem QO (p:List Int) (hp:p.length≤5000):aF Tryz.prog 123 [.isl (.ints .i64 p) .none] (.int .i64 (gF 5 p)):=by
 unfold gF;refine av (md:=1) (rf:=[]) mixed ak aC Tryz.func123 (by rfl) (by rfl) (by rfl) ?_
 repeat'((conv=>whnf);first|(intro hq;(try simp only[vw]at hq);try first|exact absurd hq (by decide)|exfalso;omega)|apply aI|with_reducible exact vM rfl|exact⟨⟩|apply nM|apply fM)
 all_goals((try apply vM);(try simp only[vq]at*);try omega)
 ·rw[if_pos (by omega)];exact Sup.of rfl
 ·exact .inl trivial
 rw[if_neg (by omega)]
 conv=>whnf
 refine aM (X:=Nat) (fun i=>i≤p.length∧∀j,j<i→nS p j=0) (fun i=>[(14,.int .i64 i)]) (fun i=>[(0,.cells (.bools (jy p i)) false)]) (fun i=>p.length-i) 0 ⟨aK,mixed,ak,aC,aP⟩ (by rfl) ⟨by omega,fun j hj=>by omega⟩ ?_ ?_
 ·repeat'((conv=>whnf);first|intro _|apply aI|with_reducible exact vM rfl|exact⟨⟩|apply nM|apply fM)
  all_goals((try apply vM);(try simp only[vq]at*);try omega)
  all_goals exact zU p
 intro i ⟨hi,hok⟩;have hsl:=Di p i;by_cases hlt:i<p.length
 ·have eS:nS p i=if p.getD i 0<0∨p.length≤p.getD i 0∨p.getD i 0∈p.take i then 14 else 0:=rfl
  have eA:=GD p i (p.getD i 0);have fin:∀e,nS p i=e→e≠0→cZ (nS p) p.length=e:=fun e a1 a2=>(dX hlt (by rw[a1];exact a2) hok).trans a1
  repeat'((conv=>whnf);first|(intro hq;(try simp only[vw]at hq);try first|exact absurd hq (by decide)|exfalso;omega)|apply aI|with_reducible exact vM rfl|exact⟨⟩|apply nM|apply fM)
  all_goals((try apply vM);(try simp only[vq]at*);try omega)
  all_goals(try(rw[hsl];omega))
  ·rw[eA (by omega),decide_eq_true_eq]at hq
   refine Sup.of (congrArg (PV.int .i64) (fin _ ?_ (by omega)).symm)
   rw[eS,if_pos (.inr (.inr hq))]
  ·rw[eA (by omega),decide_eq_false_iff_not]at hq
   refine⟨i+1,[],⟨⟨by omega,fun j hj=>?_⟩,by omega⟩,?_⟩
   ·by_cases e:j=i
    ·subst e;rw[eS,if_neg (by rintro(h|h|h);omega;omega;exact hq h)]
    ·exact hok j (by omega)
   repeat'((conv=>whnf);first|intro _|apply aI|with_reducible exact vM rfl|exact⟨⟩|apply nM|apply fM)
   all_goals((try apply vM);(try simp only[vq]at*);try omega)
   all_goals exact zV p i hlt (by omega)
  ·refine Sup.of (congrArg (PV.int .i64) (fin _ ?_ (by omega)).symm)
   rw[eS,if_pos (.inr (.inl hq))]
  ·refine Sup.of (congrArg (PV.int .i64) (fin _ ?_ (by omega)).symm)
   rw[eS,if_pos (.inl hq)]
 ·have:p.length=i:=by omega
  rw[fO (n:=p.length) (by rw[this];exact hok)]
  repeat'((conv=>whnf);first|(intro hq;(try simp only[vw]at hq);try first|exact absurd hq (by decide)|exfalso;omega)|apply aI|with_reducible exact vM rfl|exact⟨⟩|apply nM|apply fM)
  all_goals((try apply vM);(try simp only[vq]at*);try omega)
  exact Sup.of rfl
theorem NT (p:List Int) (hp:p.length≤5000):aF Tryz.prog 56 [.isl (.ints .i64 p) .none] (.int .i64 (gF 5 p)):=by
 unfold gF;refine av (md:=1) (rf:=[]) mixed ak aC Tryz.func56 (by rfl) (by rfl) (by rfl) ?_
 repeat'((conv=>whnf);first|(intro hq;(try simp only[vw]at hq);try first|exact absurd hq (by decide)|exfalso;omega)|apply aI|with_reducible exact vM rfl|exact⟨⟩|apply nM|apply fM)
 all_goals((try apply vM);(try simp only[vq]at*);try omega)
 ·rw[if_pos (by omega)];exact Sup.of rfl
 ·exact .inl trivial
 rw[if_neg (by omega)]
 conv=>whnf
 refine aM (X:=Nat) (fun i=>i≤p.length∧∀j,j<i→nS p j=0) (fun i=>[(4,.int .i64 i)]) (fun i=>[(0,.cells (.bools (jy p i)) false)]) (fun i=>p.length-i) 0 ⟨aK,mixed,ak,aC,aP⟩ (by rfl) ⟨by omega,fun j hj=>by omega⟩ ?_ ?_
 ·repeat'((conv=>whnf);first|intro _|apply aI|with_reducible exact vM rfl|exact⟨⟩|apply nM|apply fM)
  all_goals((try apply vM);(try simp only[vq]at*);try omega)
  all_goals exact zU p
 intro i ⟨hi,hok⟩;have hsl:=Di p i;by_cases hlt:i<p.length
 ·have eS:nS p i=if p.getD i 0<0∨p.length≤p.getD i 0∨p.getD i 0∈p.take i then 14 else 0:=rfl
  have eA:=GD p i (p.getD i 0);have fin:∀e,nS p i=e→e≠0→cZ (nS p) p.length=e:=fun e a1 a2=>(dX hlt (by rw[a1];exact a2) hok).trans a1
  repeat'((conv=>whnf);first|(intro hq;(try simp only[vw]at hq);try first|exact absurd hq (by decide)|exfalso;omega)|apply aI|with_reducible exact vM rfl|exact⟨⟩|apply nM|apply fM)
  all_goals((try apply vM);(try simp only[vq]at*);try omega)
  all_goals(try(rw[hsl];omega))
  ·rw[eA (by omega),decide_eq_true_eq]at hq
   refine Sup.of (congrArg (PV.int .i64) (fin _ ?_ (by omega)).symm)
   rw[eS,if_pos (.inr (.inr hq))]
  ·rw[eA (by omega),decide_eq_false_iff_not]at hq
   refine⟨i+1,[],⟨⟨by omega,fun j hj=>?_⟩,by omega⟩,?_⟩
   ·by_cases e:j=i
    ·subst e;rw[eS,if_neg (by rintro(h|h|h);omega;omega;exact hq h)]
    ·exact hok j (by omega)
   repeat'((conv=>whnf);first|intro _|apply aI|with_reducible exact vM rfl|exact⟨⟩|apply nM|apply fM)
   all_goals((try apply vM);(try simp only[vq]at*);try omega)
   all_goals exact zV p i hlt (by omega)
  ·refine Sup.of (congrArg (PV.int .i64) (fin _ ?_ (by omega)).symm)
   rw[eS,if_pos (.inr (.inl hq))]
  ·refine Sup.of (congrArg (PV.int .i64) (fin _ ?_ (by omega)).symm)
   rw[eS,if_pos (.inl hq)]
 ·have:p.length=i:=by omega
  rw[fO (n:=p.length) (by rw[this];exact hok)]
  repeat'((conv=>whnf);first|(intro hq;(try simp only[vw]at hq);try first|exact absurd hq (by decide)|exfalso;omega)|apply aI|with_reducible exact vM rfl|exact⟨⟩|apply nM|apply fM)
  all_goals((try apply vM);(try simp only[vq]at*);try omega)
  exact Sup.of rfl
def Eo:PSp:=fun xs K=>match xs with
 | [.isl (.ints .i64 p) .none]=>VC (p.length≤5000)∧K (.int .i64 (gF 5 p))
 |_=>False
theorem KA:POK Tryz.prog 123 Eo:=by
 intro xs K h;unfold Eo at h;split at h
 ·exact⟨_,h.2,QO _ h.1.get⟩
 ·exact h.elim
def GH:PSp:=fun xs K=>match xs with
 | [.isl (.ints .i64 p) .none]=>VC (p.length≤5000)∧K (.int .i64 (gF 5 p))
 |_=>False
theorem Ur:POK Tryz.prog 56 GH:=by
 intro xs K h;unfold GH at h;split at h
 ·exact⟨_,h.2,NT _ h.1.get⟩
 ·exact h.elim
theorem ji {l:List Int} {i:Nat} (h:i<l.length):l.getD i 0=l[i]:=by rw[agf,agl h];rfl
theorem xw {l:List Int} (h:∀k,0<k→k<l.length→l.getD (k-1) 0<l.getD k 0):l.Pairwise (·< ·):=by
 have key:∀d i,i+d+1<l.length→l.getD i 0<l.getD (i+d+1) 0:=by
  intro d;induction d with
  |zero=>intro i hi;have:=h (i+1) (by omega) hi;simpa using this
  |succ d ih=>
   intro i hi;have h1:=ih i (by omega)
   have h2:=h (i+(d+1)+1) (by omega) hi
   rw[show i+(d+1)+1-1=i+d+1 by omega]at h2
   omega
 rw[List.pairwise_iff_getElem];intro i j hi hj hij;have:=key (j-i-1) i (by omega)
 rw[show i+(j-i-1)+1=j by omega,ji hi,ji hj]at this
 exact this
theorem GI {l:List Int} {c:Int} (hp:l.Pairwise (·< ·)) (hr:∀x∈l,0≤x∧x<c) (hc:0≤c):(l.length:Int)≤c:=by
 have:=F4 l (-1) (c-1) hp (fun x hx=>by have:=hr x hx;omega) (by omega)
 omega
theorem dF.of {c:Int} {ls:List (List Int)} {sum:Int} {gv:List Int} (h:pzE c ls sum gv=0):dF c ls sum gv:=by
 unfold pzE at h;have h0:nO c ls sum gv=0:=by
  by_cases e:nO c ls sum gv=0
  ·exact e
  ·rw[if_pos e]at h;exact h
 rw[if_neg (by rw[h0];simp)]at h
 have hg:=fP h;rw[Kz]at h0;have hb:eU c ls=0:=by
  by_cases e:eU c ls=0
  ·exact e
  ·rw[if_pos e]at h0;exact h0
 rw[if_neg (by rw[hb];simp)]at h0
 have hs:¬(sum< -999999999∨999999999<sum):=fun e=>by rw[if_pos e]at h0;cases h0
 rw[if_neg hs]at h0;have hl:(gv.length:Int)=c:=by
  by_cases e:(gv.length:Int)=c
  ·exact e
  ·rw[if_pos e]at h0;cases h0
 unfold eU at hb;simp only[aJ]at hb;have hsy:fC c ls=0:=by
  by_cases e:fC c ls=0
  ·exact e
  ·rw[if_neg e]at hb;exact absurd hb e
 rw[if_pos hsy]at hb;have hc16:¬16<c:=fun e=>by rw[if_pos e]at hb;simp at hb
 rw[if_neg hc16,if_pos rfl]at hb;have hls:ls.length≠0:=fun e=>by rw[if_pos e]at hb;simp at hb
 unfold fC at hsy;have hcr:¬(c<1∨256<c):=fun e=>by rw[if_pos e]at hsy;cases hsy
 rw[if_neg hcr]at hsy;have hln:¬128<ls.length:=fun e=>by rw[if_pos e]at hsy;cases hsy
 rw[if_neg hln]at hsy;have hlE:=fP hsy;refine⟨by omega,by omega,fun i hi=>?_,by omega,hl,fun x hx=>?_,fun i j hij hj hpos e=>?_⟩
 ·have hL:=hlE i hi
  unfold gV at hL;have hne:¬(ls.getD i []).length=0:=fun e=>by rw[if_pos e]at hL;cases hL
  rw[if_neg hne]at hL;have hst:cZ (bP c (ls.getD i [])) (ls.getD i []).length=0:=by
   by_cases e:cZ (bP c (ls.getD i [])) (ls.getD i []).length=0
   ·exact e
   ·rw[if_pos e]at hL;exact hL
  have hst:=fP hst;have hk:∀k,k<(ls.getD i []).length→(0≤(ls.getD i []).getD k 0∧(ls.getD i []).getD k 0<c)∧(0<k→(ls.getD i []).getD (k-1) 0<(ls.getD i []).getD k 0):=fun k hk=>by
   have:=hst k hk;unfold bP at this;have h1:¬((ls.getD i []).getD k 0<0∨c≤(ls.getD i []).getD k 0):=fun e=>by rw[if_pos e]at this;cases this
   rw[if_neg h1]at this;refine⟨by omega,fun h0=>?_⟩
   have h2:¬(0<k∧(ls.getD i []).getD k 0≤(ls.getD i []).getD (k-1) 0):=fun e=>by rw[if_pos e]at this;cases this
   omega
  have hr:∀x∈ls.getD i [],0≤x∧x<c:=fun x hx=>by
   obtain⟨k,h1,rfl⟩:=(dM _ x).1 hx;exact(hk k h1).1
  have hp:=xw fun k h0 h1=>(hk k h1).2 h0;have:=GI hp hr (by omega)
  exact⟨by omega,by omega,hr,hp⟩
 ·obtain⟨i,h1,rfl⟩:=(dM _ x).1 hx
  have:=hg i h1;unfold gvE at this;have h2:¬(gv.getD i 0<0∨c<gv.getD i 0):=fun e=>by rw[if_pos e]at this;cases this
  omega
 ·have:=hg j hj
  unfold gvE at this;have h2:¬(gv.getD j 0<0∨c<gv.getD j 0):=fun e=>by rw[if_pos e]at this;cases this
  rw[if_neg h2,if_pos ⟨hpos,by rw[←e];exact qE hij (by omega)⟩]at this
  cases this
def StI (s:St):Prop:=∀i j,i<s.cs.length→j<s.cs.length→i≠j→s.dc i=true→hd0 (s.cd i)∉s.cd j
theorem kT {l:List Int} {x y:Int}:y∈dP l x↔y∈l∧y≠x:=by unfold dP;rw[aij];simp
theorem Dj {l:List Int} {x:Int} (h:x∉l):dP l x=l:=by
 unfold dP;rw[ajd];intro y hy;have:y≠x:=fun e=>h (e▸hy);simp[this]
theorem BA {g:Nat} {s:St} {y x:Int}:(apl g s y x).cs.length=s.cs.length∧(apl g s y x).ds.length=s.ds.length:=by
 unfold apl;split<;>simp
theorem QS {g:Nat} {s:St} {y x:Int} (hy:y.toNat<s.ds.length) (i:Nat):(apl g s y x).dc i=if g≤3∧i=y.toNat then true else s.dc i:=by
 unfold apl St.dc;by_cases hg:g≤3
 ·rw[if_pos hg]
  by_cases e:i=y.toNat
  ·subst e;simp[hg,agf,hy]
  ·rw[if_neg (fun h=>e h.2)]
   simp[agf,agI (Ne.symm e)]
 ·rw[if_neg hg,if_neg (fun h=>hg h.1)]
theorem QT {g:Nat} {s:St} {y x:Int} (hy:y.toNat<s.cs.length) (i:Nat) (hi:i<s.cs.length):(apl g s y x).cd i=if g≤3 then(if i=y.toNat then [x]else dP (s.cd i) x)else if i=y.toNat then dP (s.cd i) x else s.cd i:=by
 unfold apl St.cd;by_cases hg:g≤3
 ·rw[if_pos hg,if_pos hg]
  by_cases e:i=y.toNat
  ·subst e;simp[agf,hy]
  ·rw[if_neg e]
   simp[agf,agI (Ne.symm e),aje (Ne.symm e),hi]
 ·rw[if_neg hg,if_neg hg]
  by_cases e:i=y.toNat
  ·subst e;simp[agf,hy]
  ·rw[if_neg e]
   simp[agf,agI (Ne.symm e),aje (Ne.symm e),hi]
theorem zW {c:Int} {ls:List (List Int)} {sum:Int} {s:St} (h:bL c ls sum s) (hI:StI s) {g:Nat} {y x:Int} (hy:0≤y∧y<c) (hx:1≤x∧x≤c) (hd:s.dc y.toNat=false) (hm:x∈s.cd y.toNat):
 bL c ls sum (apl g s y x)∧StI (apl g s y x):=by
 have hc:=h.c1;obtain⟨hyc,hyd⟩:=h.at hy;have hln:=BA (g:=g) (s:=s) (y:=y) (x:=x);have cdi:=fun i hi=>QT (g:=g) (x:=x) hyc i hi;have dci:=fun i=>QS (g:=g) (s:=s) (x:=x) hyd i;have hnot:∀i,i<s.cs.length→s.dc i=true→x∉s.cd i:=fun i hi hdi hxi=>by
  have h1:=h.dec i hi hdi;obtain⟨z,hz⟩:=List.length_eq_one_iff.1 h1;rw[hz,aiO]at hxi;have hne:i≠y.toNat:=fun e=>by rw[e,hd]at hdi;cases hdi
  have:=hI i y.toNat hi hyc hne hdi;rw[hz]at this;exact this (by rw[hxi]at hm;exact hm)
 refine⟨⟨hc,h.ll,h.ln,h.sm,by rw[hln.1];exact h.cl,by rw[hln.2];exact h.dl,fun i hi=>?_,fun i hi hdi=>?_⟩,fun i j hi hj hij hdi=>?_⟩
 ·rw[hln.1]at hi
  rw[cdi i hi];have hA:=h.asc i hi;split
  ·split
   ·exact⟨.one (by omega),fun z hz=>by rw[aiO.1 hz];omega⟩
   ·exact⟨hA.1.out x,fun z hz=>hA.2 z (kT.1 hz).1⟩
  ·split
   ·exact⟨hA.1.out x,fun z hz=>hA.2 z (kT.1 hz).1⟩
   ·exact hA
 ·rw[hln.1]at hi
  rw[dci i]at hdi;rw[cdi i hi];split
  ·rename_i hg
   split
   ·rfl
   ·rename_i hne
    rw[if_neg (fun e=>hne e.2)]at hdi;rw[Dj (hnot i hi hdi)];exact h.dec i hi hdi
  ·rename_i hg
   rw[if_neg (fun e=>hg e.1)]at hdi;split
   ·rename_i e
    rw[e,hd]at hdi;cases hdi
   ·exact h.dec i hi hdi
 ·rw[hln.1]at hi hj
  rw[dci i]at hdi;rw[cdi i hi,cdi j hj];by_cases hg:g≤3
  ·rw[if_pos hg,if_pos hg]
   by_cases ei:i=y.toNat
   ·rw[if_pos ei,if_neg (fun e=>hij (ei.trans e.symm))]
    exact fun hz=>(kT.1 hz).2 rfl
   ·rw[if_neg (fun e=>ei e.2)]at hdi
    rw[if_neg ei,Dj (hnot i hi hdi)];have h1:=hI i j hi hj hij hdi;by_cases ej:j=y.toNat
    ·rw[if_pos ej,aiO]
     have h2:=h.dec i hi hdi;have h3:=qO (l:=s.cd i) (by omega)
     exact fun e=>hnot i hi hdi (e▸h3)
    ·rw[if_neg ej]
     exact fun hz=>h1 (kT.1 hz).1
  ·rw[if_neg hg,if_neg hg]
   rw[if_neg (fun e=>hg e.1)]at hdi;have ei:i≠y.toNat:=fun e=>by rw[e,hd]at hdi;cases hdi
   rw[if_neg ei];have h1:=hI i j hi hj hij hdi;split
   ·exact fun hz=>h1 (kT.1 hz).1
   ·exact h1
theorem QU {c:Int} {gv:List Int} {i:Nat} (hi:i<gv.length):(bgn c gv).cd i=if 0<gv.getD i 0 then [gv.getD i 0]else frL c gv:=by
 simp[bgn,nQ,St.cd,agf,hi]
theorem ac2 {c:Int} {gv:List Int} {i:Nat} (hi:i<gv.length):(bgn c gv).dc i=decide (0<gv.getD i 0):=by
 simp[bgn,nR,St.dc,agf,hi]
theorem lC {c:Int} {gv:List Int}:(bgn c gv).cs.length=gv.length∧(bgn c gv).ds.length=gv.length:=by simp[bgn,nQ,nR]
theorem KC {c:Int} {ls:List (List Int)} {sum:Int} {gv:List Int} (h:dF c ls sum gv):StI (bgn c gv):=by
 have hc:=h.c1;intro i j hi hj hij hd;rw[lC.1]at hi hj;rw[ac2 hi,decide_eq_true_eq]at hd;rw[QU hi,if_pos hd,QU hj];have e:hd0 [gv.getD i 0]=gv.getD i 0:=rfl;rw[e];split
 ·rename_i hp
  rw[aiO];intro he;rcases Nat.lt_or_ge i j with h1|h1
  ·exact h.gd i j h1 hj hp he
  ·exact h.gd j i (by omega) hi hd he.symm
 ·intro hm
  exact((Bw (by omega)).1 hm).2 (cB hi)
def vE:List Bool→Nat
 | []=>0
 |b::r=>(if b then 0 else 1)+vE r
def ku:List (List Int)→Nat
 | []=>0
 |l::r=>l.length+ku r
def muS (s:St):Nat:=ku s.cs+vE s.ds
theorem Us:∀(l:List Bool) (i:Nat),i<l.length→l.getD i false=false→vE (l.set i true)+1=vE l:=by
 intro l;induction l with
 |nil=>intro i hi;simp at hi
 |cons b r ih=>
  intro i hi hb;cases i with
  |zero=>simp at hb;subst hb;simp[vE];omega
  |succ i=>
   have:=ih i (by simpa using hi) (by simpa using hb)
   simp only[ajf,vE];omega
theorem GJ:∀(l:List (List Int)) (i:Nat) (x:List Int),i<l.length→ku (l.set i x)+(l.getD i []).length=ku l+x.length:=by
 intro l;induction l with
 |nil=>intro i x hi;simp at hi
 |cons b r ih=>
  intro i x hi;cases i with
  |zero=>simp[ku];omega
  |succ i=>
   have:=ih i x (by simpa using hi)
   simp only[ajf,ku,List.getD_cons_succ];omega
theorem GK (l:List Int) (x:Int):(dP l x).length≤l.length:=aiP _ _
theorem KD {l:List Int} {x:Int} (h:x∈l):(dP l x).length<l.length:=by
 unfold dP;rw[List.length_filter_lt_length_iff_exists];exact⟨x,h,by simp⟩
theorem Ut (f:List Int→List Int) (hf:∀l,(f l).length≤l.length):∀l,ku (l.map f)≤ku l:=by
 intro l;induction l with
 |nil=>exact af3 _
 |cons a r ih=>simp only[ah1,ku];have:=hf a;omega
theorem ac3 {g:Nat} {s:St} {y x:Int} (hy:y.toNat<s.cs.length) (hyd:y.toNat<s.ds.length) (hd:s.dc y.toNat=false) (hm:x∈s.cd y.toNat):muS (apl g s y x)<muS s:=by
 unfold muS apl;split
 ·have h1:=Us s.ds y.toNat hyd hd
  have h2:=GJ (s.cs.map fun l=>dP l x) y.toNat [x] (by simpa using hy)
  have h3:((s.cs.map fun l=>dP l x).getD y.toNat [])=dP (s.cd y.toNat) x:=by unfold St.cd;simp[agf,hy]
  have h4:ku (s.cs.map fun l=>dP l x)+1≤ku s.cs:=by
   have key:∀(l:List (List Int)) (i:Nat),i<l.length→x∈l.getD i []→ku (l.map fun l=>dP l x)+1≤ku l:=by
    intro l;induction l with
    |nil=>intro i hi;simp at hi
    |cons a r ih=>
     intro i hi hx;simp only[ah1,ku];cases i with
     |zero=>
      have q1:=KD (l:=a) (x:=x) (by simpa using hx)
      have q2:=Ut (fun l=>dP l x) (fun l=>GK l x) r;omega
     |succ i=>
      have q1:=GK a x;have q2:=ih i (by simpa using hi) (by simpa using hx)
      omega
   exact key s.cs y.toNat hy hm
  simp only[List.length_singleton]at h2;simp only;omega
 ·have h2:=GJ s.cs y.toNat (dP (s.cd y.toNat) x) hy
  have h3:=KD hm;unfold St.cd at h2 h3⊢;simp only;omega
theorem ac4 {c:Int} {ls:List (List Int)} {sum:Int} {s:St} (h:bL c ls sum s):muS s≤272:=by
 have hc:=h.c1;have hcl:=h.cl;have hdl:=h.dl;have h1:∀(l:List (List Int)),(∀a∈l,a.length≤16)→ku l≤16*l.length:=by
  intro l;induction l with
  |nil=>intro _;exact af3 _
  |cons a r ih=>
   intro hl;have:=hl a (by simp)
   have:=ih fun b hb=>hl b (by simp[hb])
   simp only[ku,afY];omega
 have h2:∀(l:List Bool),vE l≤l.length:=by
  intro l;induction l with
  |nil=>exact af3 _
  |cons a r ih=>simp only[vE,afY];split<;>omega
 have h3:=h1 s.cs fun a ha=>by
  obtain⟨j,hj,rfl⟩:=agk ha;have:=Kc (h.asc j hj).1;unfold St.cd at this;rw[agf,agl hj]at this;exact this
 have h4:=h2 s.ds;unfold muS;omega
def pQ (c:Int) (ls:List (List Int)) (sum:Int) (n:Nat):Nat→St→List Dd→List Dd × St × Int
 |0,s,l=>(l,s,0)
 |f+1,s,l=>if brk c ls sum s then([],s,21)else if don s then(l,s,0)else match jL s sum ls n with
  |none=>(l,s,23)
  |some d=>pQ c ls sum n f (apl d.g s d.y d.x) (l++[d])
def sol (c:Int) (ls:List (List Int)) (sum:Int) (gv:List Int) (n:Nat):List Dd × St × Int:=pQ c ls sum n 273 (bgn c gv) []
theorem QV {c:Int} {ls:List (List Int)} {sum:Int} {s:St} (h:bL c ls sum s) {n:Nat} (hn:n≤5) {d:Dd} (hf:jL s sum ls n=some d):
 Bp c ls (nmG d.g) d.y d.x d.k∧bG (nmG d.g)=d.g∧s.dc d.y.toNat=false∧d.x∈s.cd d.y.toNat:=by
 obtain⟨g,g1,g2,hm⟩:=Gx hf;rw[Gw]at hm;obtain⟨h1,h2,h3,h4⟩:=hm;have hcl:=h.cl;have hg:bG (nmG d.g)=d.g:=by
  rw[h1];have:=qw;obtain rfl|rfl|rfl|rfl|rfl:g=1∨g=2∨g=3∨g=4∨g=5:=by omega
  all_goals first|exact this.1|exact this.2.1|exact this.2.2.1|exact this.2.2.2.1|exact this.2.2.2.2
 unfold okJ at h4;simp only[ags,ajb,decide_eq_true_eq]at h4;have hA:=h.asc d.y.toNat (by omega)
 refine⟨⟨by rw[hg];omega,by omega,?_,?_⟩,hg,h4.1,h4.2.1⟩
 ·have:=hA.1.rng _ h4.2.1;have:=hA.2 _ h4.2.1;omega
 ·rw[hg,h1]
  cases hl:lnG g with
  |true=>rw[hl]at h3;exact .inr (.inr h3.1)
  |false=>
   obtain rfl|rfl|rfl|rfl|rfl:g=1∨g=2∨g=3∨g=4∨g=5:=by omega
   all_goals first|(cases hl;done)|exact .inl rfl|exact .inr (.inl rfl)
def GL:LSp:=fun xs objs K=>match xs,objs with
 | [.rp 0 0,.agg [.str r,.int .i64 y,.int .i64 x,.int .i64 k]],[.cells (.pv [.int .i64 c,.isl (.rows .i64 ls) .none,.int .i64 sum,.isl (.ints .i64 gv) .none,.rsl 1 0 n,.rsl 2 0 m]) false,.cells (.ints .u32 M) false,.cells (.bools D) false]=>
  ∃s:St,VC (M=ms s.cs∧D=s.ds∧bL c ls sum s∧n=s.cs.length∧m=n∧Bp c ls r y x k)∧K [] (bdO c ls sum gv (apl (bG r).toNat s y x) n)
 |_,_=>False
theorem Uu:LOK Tryz.prog 128 GL:=by
 intro xs objs K hk;unfold GL at hk;split at hk
 ·obtain⟨s,⟨rfl,rfl,h,h1,rfl,h2⟩,hk⟩:=hk
  exact⟨_,_,hk,NM _ _ _ _ s _ h h1 _ _ _ _ h2⟩
 ·exact hk.elim
abbrev ddC (d:Dd):List PV:=[.str (nmG d.g),.int .i64 d.y,.int .i64 d.x,.int .i64 d.k]
def dd0:Dd:=⟨0,0,0,0⟩
abbrev dlC (l:List Dd):CL:=.genr 4 l.length fun i=>ddC (l.getD i dd0)
theorem ac5 (l:List Dd) (t:Tok):Sup (.isl (.recs 4 (l.map ddC)) t) (.isl (dlC l) .none):=⟨fun{S w ι v} hr=>by
 have hn:(CL.recs 4 (l.map ddC)).ncell=(dlC l).ncell:=by simp[CL.ncell]
 have hc:(CL.recs 4 (l.map ddC)).cnt=(dlC l).cnt:=by simp[CL.cnt]
 have hg:∀j,j<(dlC l).ncell→(CL.recs 4 (l.map ddC)).get j=(dlC l).get j:=fun j hj=>by
  simp only[CL.ncell]at hj;have:j / 4<l.length:=by omega
  simp only[CL.get];rw[agf,ag2,agf,agl this];rfl
 cases hr with
 |islnil _ _ _ h=>exact .islnil _ _ _ (by rw[←hc];exact h)
 |isl _ _ _ b off cap h1 h2 h3 h4 h5=>
  rw[hc];exact .isl _ _ _ _ _ _ (by rw[←hc];exact h1) (fun j hj=>h2 j (by rw[hn];exact hj)) (fun j hj=>by rw[←hg j hj];exact h3 j (by rw[hn];exact hj)) (fun h=>by cases h) (fun k h=>by cases h)⟩
theorem wM {us ws:List PV} (hl:us.length=ws.length) (h:∀i,i<us.length→Sup (aD us i) (aD ws i)):Sup (.tup us) (.tup ws):=⟨fun hr=>by
 cases hr with
 |tup _ _ vs hv hh=>exact .tup _ _ _ (hl.symm.trans hv) fun i hi=>(h i (by omega)).get (hh i (by omega))⟩
theorem dw (p:PV):Sup p p:=⟨fun h=>h⟩
def sS (c:Int) (ls:List (List Int)) (sum:Int) (gv:List Int) (r:List Dd × St × Int):PV:=
 if r.2.2=21 then .tup [.isl (dlC []) .none,.nilp,.int .i64 21]else .tup [.isl (dlC r.1) .none,bdV c ls sum gv r.2.1,.int .i64 r.2.2]
noncomputable def afg:CPT:=aA 86 (dV [] zT) (aA 90 (jH (qp brk)) (aA 91 (jH (qp fun _ _ _ s=>don s)) (aA 92 (jH wL) (aA 128 (dV [] GL) noC))))
theorem KE:aU Tryz.prog afg:=aj (dh [] Gy) (aj (gJ Df) (aj (gJ Kt) (aj (gJ Dh) (aj (dh [] Uu) aC))))
structure SoX where
 f:Nat
 s:St
 l:List Dd
theorem NU (c:Int) (ls:List (List Int)) (sum:Int) (gv:List Int) (h:dF c ls sum gv) (n:Nat) (hn:n≤5):aF Tryz.prog 99 [pzV c ls sum gv,.int .i64 (n:Int)] (sS c ls sum gv (sol c ls sum gv n)):=by
 have hgl:=h.gl;refine bF (md:=1) (rf:=[]) mixed ak KE Tryz.func99 (by rfl) (by rfl) (by rfl) ?_
 repeat'((conv=>whnf);first|intro _|apply aI|with_reducible exact vM rfl|exact⟨⟩|apply nM|apply fM)
 all_goals((try apply vM);(try simp only[vq]at*);try omega)
 conv=>whnf
 refine aM (X:=SoX) (fun x=>bL c ls sum x.s∧StI x.s∧muS x.s<x.f∧x.s.cs.length=gv.length∧x.l.length≤273-x.f∧x.f≤273∧pQ c ls sum n x.f x.s x.l=sol c ls sum gv n)
  (fun x=>[(8,.isl (.recs 4 (x.l.map ddC)) (.own 20))]) (fun x=>[(2,.cells (.ints .u32 (ms x.s.cs)) false),(3,.cells (.bools x.s.ds) false),(20,.tok 4 x.l.length)]) (fun x=>x.f) ⟨273,bgn c gv,[]⟩ ⟨aK,mixed,ak,KE,aP⟩ (by rfl) ?_ ?_ ?_
 ·have:=zS h
  exact⟨this,KC h,by have:=ac4 this;show muS (bgn c gv)<273;omega,lC.1,by simp,by simp,rfl⟩
 ·repeat'((conv=>whnf);first|intro _|apply aI|with_reducible exact vM rfl|exact⟨⟩|apply nM|apply fM)
  all_goals((try apply vM);(try simp only[vq]at*);try omega)
  all_goals skip
 rintro⟨f,s,l⟩ ⟨hB,hI,hmu,hlen,hl,hf,hsol⟩
 simp only at hB hI hmu hlen hl hf hsol⊢;cases f with
 |zero=>omega
 |succ f=>
  have hfin:∀r,sol c ls sum gv n=r→∀p,Sup p (sS c ls sum gv r)→Sup p (sS c ls sum gv (sol c ls sum gv n)):=fun r hr p hp=>by rw[hr];exact hp
  have t1:aiK (gv.length-0) (aiL 0 (ms s.cs))=ms s.cs:=cK (by rw[dL];exact hlen)
  have hdl:s.ds.length=gv.length:=by have:=hB.cl;have:=hB.dl;omega
  have t2:aiK (gv.length-0) (aiL 0 s.ds)=s.ds:=cK hdl;have hml:=dL s.cs;have s1:(CL.ints .u32 (ms s.cs)).sub 0 gv.length=.ints .u32 (ms s.cs):=congrArg (CL.ints .u32) t1;have s2:(CL.bools s.ds).sub 0 gv.length=.bools s.ds:=congrArg CL.bools t2;have rok:∀e,e≠21→Sup (bE ([PV.isl (CL.recs 4 (List.map ddC l)) Tok.none]++PV.ip (CL.pv [PV.int IntKind.i64 c,PV.isl (CL.rows IntKind.i64 ls) Tok.none,PV.int IntKind.i64 sum,PV.isl (CL.ints IntKind.i64 gv) Tok.none,PV.isl ((CL.ints IntKind.u32 (ms s.cs)).sub 0 gv.length) Tok.none,PV.isl ((CL.bools s.ds).sub 0 gv.length) Tok.none]) 0::([PV.int IntKind.i64 e]++[]))) (sS c ls sum gv (l,s,e)):=fun e he=>by
   rw[s1,s2];unfold sS;rw[if_neg he];refine wM rfl fun i hi=>?_;obtain rfl|rfl|rfl:i=0∨i=1∨i=2:=by simp at hi;omega
   ·exact ac5 l .none
   ·exact dw _
   ·exact dw _
  have rin:Sup (bE ([PV.nils]++([PV.nilp]++([PV.int IntKind.i64 21]++[])))) (sS c ls sum gv ([],s,21)):=by
   unfold sS;rw[if_pos rfl];all_goals(refine Sup.via ?_;repeat'((conv=>whnf);first|intro _|apply aI|with_reducible exact vM rfl|exact⟨⟩|apply nM|apply fM);all_goals((try apply vM);(try simp only[vq]at*);try omega);all_goals(try(simp[CL.sub];done)))
  unfold pQ at hsol;cases ho:jL s sum ls n with
  |none=>
   rw[ho]at hsol
   repeat'((conv=>whnf);first|refine Exists.intro (s) ?_|refine Exists.intro (none) ?_|(intro hq;(try simp only[vw]at hq);try first|exact absurd hq (by decide)|exfalso;omega)|apply aI|with_reducible exact vM rfl|exact⟨⟩|apply nM|apply fM)
   all_goals((try apply vM);(try simp only[vq]at*);try omega)
   all_goals(try omega)
   all_goals(try first|exact⟨t1,t2,hB⟩|exact⟨t1,t2,⟨by omega,by omega⟩,hB,ho⟩)
   ·exact hfin ([],s,21) (by rw[←hsol,if_pos ‹brk c ls sum s=true›]) _ rin
   ·exact hfin (l,s,0) (by rw[←hsol,if_neg (by rw[‹brk c ls sum s=false›];simp),if_pos ‹don s=true›]) _ (rok 0 (by omega))
   ·exact hfin (l,s,23) (by rw[←hsol,if_neg (by rw[‹brk c ls sum s=false›];simp),if_neg (by rw[‹don s=false›];simp)]) _ (rok 23 (by omega))
  |some d=>
   rw[ho]at hsol;obtain⟨o1,o2,o3,o4⟩:=QV hB hn ho;obtain⟨b1,b2⟩:=zW hB hI (g:=d.g) o1.y o1.x o3 o4;have hyl:=hB.at o1.y;have b3:=ac3 (g:=d.g) hyl.1 hyl.2 o3 o4;have b4:=BA (g:=d.g) (s:=s) (y:=d.y) (x:=d.x);have hgn:(bG (nmG d.g)).toNat=d.g:=by rw[o2];rfl
   repeat'((conv=>whnf);first|refine Exists.intro (s) ?_|refine Exists.intro (some d) ?_|(intro hq;(try simp only[vw]at hq);try first|exact absurd hq (by decide)|exfalso;omega)|apply aI|with_reducible exact vM rfl|exact⟨⟩|apply nM|apply fM)
   all_goals((try apply vM);(try simp only[vq]at*);try omega)
   all_goals(try omega)
   all_goals(try first|exact⟨t1,t2,hB⟩|exact⟨t1,t2,⟨by omega,by omega⟩,hB,ho⟩|rfl|(rw[ah2];done)|(simp only[ahl,ah2,afY,afU];omega))
   ·exact hfin ([],s,21) (by rw[←hsol,if_pos ‹brk c ls sum s=true›]) _ rin
   ·exact hfin (l,s,0) (by rw[←hsol,if_neg (by rw[‹brk c ls sum s=false›];simp),if_pos ‹don s=true›]) _ (rok 0 (by omega))
   ·rw[ahl,ah2];show _+1≤_;omega
   ·exact⟨hB,by omega,o1⟩
   ·refine⟨⟨f,apl d.g s d.y d.x,l++[d]⟩,[],⟨⟨b1,b2,by simp only;omega,by simp only;omega,by simp only[ahl,afY,afU];omega,by simp only;omega,?_⟩,by simp only;omega⟩,?_⟩
    ·rw[←hsol,if_neg (by rw[‹brk c ls sum s=false›];simp),if_neg (by rw[‹don s=false›];simp)]
    ·simp only
     repeat'((conv=>whnf);first|intro _|apply aI|with_reducible exact vM rfl|exact⟨⟩|apply nM|apply fM)
     all_goals((try apply vM);(try simp only[vq]at*);try omega)
     all_goals first|rw[hgn]|(rw[ah5];rfl)|(rw[ahl];rfl)|rfl
theorem ZY {c:Int} {ls:List (List Int)} {sum:Int} {n:Nat} (hn:n≤5):∀(f:Nat) (s:St) (l:List Dd),bL c ls sum s→StI s→bL c ls sum (pQ c ls sum n f s l).2.1∧StI (pQ c ls sum n f s l).2.1:=by
 intro f;induction f with
 |zero=>exact fun s l h h2=>⟨h,h2⟩
 |succ f ih=>
  intro s l h h2;unfold pQ;split
  ·exact⟨h,h2⟩
  ·split
   ·exact⟨h,h2⟩
   ·split
    ·exact⟨h,h2⟩
    ·rename_i d hd
     obtain⟨o1,o2,o3,o4⟩:=QV h hn hd;obtain⟨b1,b2⟩:=zW h h2 (g:=d.g) o1.y o1.x o3 o4;exact ih _ _ b1 b2
theorem ac6 {c:Int} {ls:List (List Int)} {sum:Int} {gv:List Int} (h:dF c ls sum gv) {n:Nat} (hn:n≤5):bL c ls sum (sol c ls sum gv n).2.1∧StI (sol c ls sum gv n).2.1:=ZY hn _ _ _ (zS h) (KC h)
def Xo (c:Int) (ls:List (List Int)) (sum:Int) (gv:List Int) (o:Option (List Dd × St × Int)):PV:=match o with
 |none=>.tup [.isl (dlC []) .none,.nilp,.int .i64 21]
 |some r=>.tup [.isl (dlC r.1) .none,bdV c ls sum gv r.2.1,.int .i64 r.2.2]
def jm (r:List Dd × St × Int):Option (List Dd × St × Int):=if r.2.2=21 then none else some r
theorem Uv (c:Int) (ls:List (List Int)) (sum:Int) (gv:List Int) (r:List Dd × St × Int):sS c ls sum gv r=Xo c ls sum gv (jm r):=by
 unfold sS jm;split<;>rfl
def zX:PSp:=fun xs K=>match xs with
 | [.agg [.int .i64 c,.isl (.rows .i64 ls) .none,.int .i64 sum,.isl (.ints .i64 gv) .none],.int .i64 g]=>∃o:Option (List Dd × St × Int),VC (dF c ls sum gv∧(0≤g∧g≤5)∧jm (sol c ls sum gv g.toNat)=o)∧K (Xo c ls sum gv o)
 |_=>False
theorem GN:POK Tryz.prog 99 zX:=by
 intro xs K hk;unfold zX at hk;split at hk
 ·obtain⟨o,⟨h,hg,rfl⟩,hk⟩:=hk
  rename_i g;obtain⟨n,rfl⟩:∃n:Nat,g=n:=⟨g.toNat,by omega⟩
  rw[ag9,←Uv]at hk;exact⟨_,hk,NU _ _ _ _ h n (by omega)⟩
 ·exact hk.elim
noncomputable def afh:CPT:=aA 22 (aB lS) (aA 86 (dV [] zT) (aA 87 (ME Gl) (aA 88 (aB jf) (aA 89 (aB eG) (aA 90 (jH (qp brk)) (aA 91 (jH (qp fun _ _ _ s=>don s)) (aA 92 (jH wL) (aA 98 (aB qo) (aA 99 (aB zX) noC)))))))))
theorem fu:aU Tryz.prog afh:=aj (au kS) (aj (dh [] Gy) (aj (SQ TW) (aj (au iI) (aj (au iR) (aj (gJ Df) (aj (gJ Kt) (aj (gJ Dh) (aj (au xu) (aj (au GN) aC)))))))))
def noS:St:=⟨[],[]⟩
def vF (c:Int) (ls:List (List Int)) (sum:Int) (gv:List Int):St:=if pzE c ls sum gv=0 then bgn c gv else noS
theorem NV (c:Int) (ls:List (List Int)) (sum:Int) (gv:List Int) (h:bK ls) (hg:gv.length≤5000):aF Tryz.prog 20 [pzV c ls sum gv] (.tup [stV (vF c ls sum gv),.int .i64 (pzE c ls sum gv)]):=by
 by_cases he:pzE c ls sum gv=0
 ·have hp:=dF.of he
  have hb:=zS hp;have hl:=hp.gl;have e1:vF c ls sum gv=bgn c gv:=by unfold vF;rw[if_pos he]
  rw[e1,he];have t1:aiK (gv.length-0) (aiL 0 (ms (bgn c gv).cs))=ms (bgn c gv).cs:=cK (by rw[dL];exact lC.1)
  have t2:aiK (gv.length-0) (aiL 0 (bgn c gv).ds)=(bgn c gv).ds:=cK lC.2;have hml:=dL (bgn c gv).cs;have hbl:=lC (c:=c) (gv:=gv);refine av (md:=1) (rf:=[]) mixed ak fu Tryz.func20 (by rfl) (by rfl) (by rfl) ?_
  repeat'((conv=>whnf);first|refine Exists.intro (bgn c gv) ?_|(intro hq;(try simp only[vw]at hq);try first|exact absurd hq (by decide)|exfalso;omega)|apply aI|with_reducible exact vM rfl|exact⟨⟩|apply nM|apply fM)
  all_goals((try apply vM);(try simp only[vq]at*);try omega)
  ·exact⟨h,hg⟩
  ·exact⟨t1,t2,hb⟩
  ·exact Sup.of rfl
 ·have e1:vF c ls sum gv=noS:=by unfold vF;rw[if_neg he]
  rw[e1];refine av (md:=1) (rf:=[]) mixed ak fu Tryz.func20 (by rfl) (by rfl) (by rfl) ?_
  repeat'((conv=>whnf);first|(intro hq;(try simp only[vw]at hq);try first|exact absurd hq (by decide)|exfalso;omega)|apply aI|with_reducible exact vM rfl|exact⟨⟩|apply nM|apply fM)
  all_goals((try apply vM);(try simp only[vq]at*);try omega)
  ·exact⟨h,hg⟩
  ·unfold noS;all_goals(refine Sup.via ?_;repeat'((conv=>whnf);first|intro _|apply aI|with_reducible exact vM rfl|exact⟨⟩|apply nM|apply fM);all_goals((try apply vM);(try simp only[vq]at*);try omega);all_goals(try(simp[CL.sub];done)))
def ddO (o:Option Dd):PV:=match o with
 |some d=>Bt d
 |none=>ddV sP 0 0 0
def sU (c:Int) (ls:List (List Int)) (sum:Int) (gv:List Int):Option Dd × Int:=
 if pzE c ls sum gv≠0 then(none,pzE c ls sum gv)else if brk c ls sum (bgn c gv)then(none,21)else if don (bgn c gv)then(none,29)else match jL (bgn c gv) sum ls 5 with
  |none=>(none,23)
  |some d=>(some d,0)
theorem QW (c:Int) (ls:List (List Int)) (sum:Int) (gv:List Int) (h:bK ls) (hg:gv.length≤5000):aF Tryz.prog 21 [pzV c ls sum gv] (.tup [ddO (sU c ls sum gv).1,.int .i64 (sU c ls sum gv).2]):=by
 by_cases he:pzE c ls sum gv=0
 ·have hp:=dF.of he
  have hb:=zS hp;have hl:=hp.gl;have t1:aiK (gv.length-0) (aiL 0 (ms (bgn c gv).cs))=ms (bgn c gv).cs:=cK (by rw[dL];exact lC.1)
  have t2:aiK (gv.length-0) (aiL 0 (bgn c gv).ds)=(bgn c gv).ds:=cK lC.2;have hml:=dL (bgn c gv).cs;have hbl:=lC (c:=c) (gv:=gv);have e1:sU c ls sum gv=if brk c ls sum (bgn c gv)then(none,(21:Int))else if don (bgn c gv)then(none,(29:Int))else match jL (bgn c gv) sum ls 5 with
   |none=>(none,(23:Int))
   |some d=>(some d,(0:Int)):=by unfold sU;rw[if_neg (by rw[he];simp)]
  cases hbk:brk c ls sum (bgn c gv)with
  |true=>
   rw[hbk,if_pos rfl]at e1;rw[e1];refine av (md:=1) (rf:=[]) mixed ak fu Tryz.func21 (by rfl) (by rfl) (by rfl) ?_
   repeat'((conv=>whnf);first|refine Exists.intro (bgn c gv) ?_|(intro hq;(try simp only[vw]at hq);try first|exact absurd hq (by decide)|exfalso;omega)|apply aI|with_reducible exact vM rfl|exact⟨⟩|apply nM|apply fM)
   all_goals((try apply vM);(try simp only[vq]at*);try omega)
   all_goals first|exact⟨h,hg⟩|exact⟨t1,t2,hb⟩|(exfalso;simp[aJ,hbk]at hq;done)|(exact Sup.of (by simp[bE,aJ,ddO,hbk];done))|exact Sup.of rfl|skip
  |false=>
   rw[hbk,if_neg (by simp)]at e1
   cases hdn:don (bgn c gv)with
   |true=>
    rw[hdn,if_pos rfl]at e1;rw[e1];refine av (md:=1) (rf:=[]) mixed ak fu Tryz.func21 (by rfl) (by rfl) (by rfl) ?_
    repeat'((conv=>whnf);first|refine Exists.intro (bgn c gv) ?_|(intro hq;(try simp only[vw]at hq);try first|exact absurd hq (by decide)|exfalso;omega)|apply aI|with_reducible exact vM rfl|exact⟨⟩|apply nM|apply fM)
    all_goals((try apply vM);(try simp only[vq]at*);try omega)
    all_goals first|exact⟨h,hg⟩|exact⟨t1,t2,hb⟩|(exfalso;simp[aJ,hbk,hdn]at hq;done)|(exact Sup.of (by simp[bE,aJ,ddO,hbk,hdn];done))|exact Sup.of rfl|skip
   |false=>
    rw[hdn,if_neg (by simp)]at e1
    cases ho:jL (bgn c gv) sum ls 5 with
    |none=>
     rw[ho]at e1;rw[e1];refine av (md:=1) (rf:=[]) mixed ak fu Tryz.func21 (by rfl) (by rfl) (by rfl) ?_
     repeat'((conv=>whnf);first|refine Exists.intro (bgn c gv) ?_|refine Exists.intro (none) ?_|(intro hq;(try simp only[vw]at hq);try first|exact absurd hq (by decide)|exfalso;omega)|apply aI|with_reducible exact vM rfl|exact⟨⟩|apply nM|apply fM)
     all_goals((try apply vM);(try simp only[vq]at*);try omega)
     all_goals first|exact⟨h,hg⟩|exact⟨t1,t2,hb⟩|exact⟨t1,t2,⟨by omega,by omega⟩,hb,ho⟩|(exfalso;simp[aJ,hbk,hdn]at hq;done)|(exact Sup.of (by simp[bE,aJ,ddO,hbk,hdn];done))|exact Sup.of rfl|skip
    |some d=>
     rw[ho]at e1;rw[e1];refine av (md:=1) (rf:=[]) mixed ak fu Tryz.func21 (by rfl) (by rfl) (by rfl) ?_
     repeat'((conv=>whnf);first|refine Exists.intro (bgn c gv) ?_|refine Exists.intro (some d) ?_|(intro hq;(try simp only[vw]at hq);try first|exact absurd hq (by decide)|exfalso;omega)|apply aI|with_reducible exact vM rfl|exact⟨⟩|apply nM|apply fM)
     all_goals((try apply vM);(try simp only[vq]at*);try omega)
     all_goals first|exact⟨h,hg⟩|exact⟨t1,t2,hb⟩|exact⟨t1,t2,⟨by omega,by omega⟩,hb,ho⟩|(exfalso;simp[aJ,hbk,hdn]at hq;done)|(exact Sup.of (by simp[bE,aJ,ddO,hbk,hdn];done))|exact Sup.of rfl|skip
 ·have e1:sU c ls sum gv=(none,pzE c ls sum gv):=by unfold sU;rw[if_pos he]
  rw[e1];refine av (md:=1) (rf:=[]) mixed ak fu Tryz.func21 (by rfl) (by rfl) (by rfl) ?_
  repeat'((conv=>whnf);first|(intro hq;(try simp only[vw]at hq);try first|exact absurd hq (by decide)|exfalso;omega)|apply aI|with_reducible exact vM rfl|exact⟨⟩|apply nM|apply fM)
  all_goals((try apply vM);(try simp only[vq]at*);try omega)
  ·exact⟨h,hg⟩
  ·exact Sup.of rfl
def sV (c:Int) (ls:List (List Int)) (sum:Int) (gv:List Int) (g:Int):List Dd × St × Int:=
 if aJ [pzE c ls sum gv,jl g]≠0 then([],noS,aJ [pzE c ls sum gv,jl g])else if(sol c ls sum gv g.toNat).2.2=21 then([],noS,21)else sol c ls sum gv g.toNat
abbrev ac7 (r:List Dd × St × Int):PV:=.tup [.isl (dlC r.1) .none,stV r.2.1,.int .i64 r.2.2]
theorem QX (e:Int):Sup (bE [PV.nils,PV.agg [PV.nils,PV.nils],PV.int IntKind.i64 e]) (ac7 ([],noS,e)):=by
 unfold noS;all_goals(refine Sup.via ?_;repeat'((conv=>whnf);first|intro _|apply aI|with_reducible exact vM rfl|exact⟨⟩|apply nM|apply fM);all_goals((try apply vM);(try simp only[vq]at*);try omega);all_goals(try(simp[CL.sub];done)))
theorem GQ {a b:Int} (h:aJ [a,b]=0):a=0∧b=0:=by
 simp only[aJ]at h;split at h
 ·split at h
  ·exact⟨‹_›,‹_›⟩
  ·exact absurd h ‹_›
 ·exact absurd h ‹_›
theorem QY {g:Int} (h:jl g=0):1≤g∧g≤5:=by
 unfold jl at h;by_cases e:g<1∨5<g
 ·rw[if_pos e]at h;cases h
 ·omega
theorem zY (c:Int) (ls:List (List Int)) (sum:Int) (gv:List Int) (g:Int) (h:bK ls) (hg:gv.length≤5000):aF Tryz.prog 30 [pzV c ls sum gv,.int .i64 g] (ac7 (sV c ls sum gv g)):=by
 by_cases he:aJ [pzE c ls sum gv,jl g]=0
 ·obtain⟨a1,a2⟩:=GQ he
  have hp:=dF.of a1;have hgr:=QY a2;have e1:sV c ls sum gv g=if(sol c ls sum gv g.toNat).2.2=21 then([],noS,21)else sol c ls sum gv g.toNat:=by unfold sV;rw[if_neg (by rw[he];simp)]
  have hsb:=(ac6 hp (show g.toNat≤5 by omega)).1
  by_cases h21:(sol c ls sum gv g.toNat).2.2=21
  ·rw[if_pos h21]at e1
   rw[e1];have hso:jm (sol c ls sum gv g.toNat)=none:=by unfold jm;rw[if_pos h21]
   refine av (md:=1) (rf:=[]) mixed ak fu Tryz.func30 (by rfl) (by rfl) (by rfl) ?_
   repeat'((conv=>whnf);first|refine Exists.intro (none) ?_|(intro hq;(try simp only[vw]at hq);try first|exact absurd hq (by decide)|exfalso;omega)|apply aI|with_reducible exact vM rfl|exact⟨⟩|apply nM|apply fM)
   all_goals((try apply vM);(try simp only[vq]at*);try omega)
   ·exact⟨h,hg⟩
   ·exact⟨hp,⟨by omega,by omega⟩,hso⟩
   ·exact QX 21
  ·rw[if_neg h21]at e1
   rw[e1];have hso:jm (sol c ls sum gv g.toNat)=some (sol c ls sum gv g.toNat):=by unfold jm;rw[if_neg h21]
   obtain⟨rr,hr⟩:∃r,sol c ls sum gv g.toNat=r:=⟨_,rfl⟩;rw[hr]at h21 hsb⊢;refine av (md:=1) (rf:=[]) mixed ak fu Tryz.func30 (by rfl) (by rfl) (by rfl) ?_
   repeat'((conv=>whnf);first|refine Exists.intro (some rr) ?_|refine Exists.intro (rr.2.1) ?_|(intro hq;(try simp only[vw]at hq);try first|exact absurd hq (by decide)|exfalso;omega)|apply aI|with_reducible exact vM rfl|exact⟨⟩|apply nM|apply fM)
   all_goals((try apply vM);(try simp only[vq]at*);try omega)
   all_goals first|exact⟨h,hg⟩|exact⟨hp,⟨by omega,by omega⟩,by rw[hso,hr]⟩|(exfalso;exact h21 hq)|exact hsb|exact⟨rfl,rfl,hsb⟩|exact Sup.of rfl
 ·have e1:sV c ls sum gv g=([],noS,aJ [pzE c ls sum gv,jl g]):=by unfold sV;rw[if_pos he]
  rw[e1];refine av (md:=1) (rf:=[]) mixed ak fu Tryz.func30 (by rfl) (by rfl) (by rfl) ?_
  repeat'((conv=>whnf);first|(intro hq;(try simp only[vw]at hq);try first|exact absurd hq (by decide)|exfalso;omega)|apply aI|with_reducible exact vM rfl|exact⟨⟩|apply nM|apply fM)
  all_goals((try apply vM);(try simp only[vq]at*);try omega)
  ·exact⟨h,hg⟩
  ·exact QX _
def sW (c:Int) (ls:List (List Int)) (sum:Int) (gv:List Int):Nat→Nat→Nat
 |0,g=>g
 |f+1,g=>if(sol c ls sum gv g).2.2=0 then g else sW c ls sum gv f (g+1)
def gP (c:Int) (ls:List (List Int)) (sum:Int) (gv:List Int):Int × List Dd × Int:=
 if(sol c ls sum gv 5).2.2≠0 then(0,[],(sol c ls sum gv 5).2.2)else((sW c ls sum gv 4 1:Nat),(sol c ls sum gv (sW c ls sum gv 4 1)).1,0)
theorem QZ {c:Int} {ls:List (List Int)} {sum:Int} {gv:List Int}:∀(f g k:Nat),(∀j,g≤j→j<k→(sol c ls sum gv j).2.2≠0)→(sol c ls sum gv k).2.2=0→g≤k→k≤g+f→sW c ls sum gv f g=k:=by
 intro f;induction f with
 |zero=>intro g k _ _ h1 h2;show g=k;omega
 |succ f ih=>
  intro g k hn hk h1 h2;unfold sW;by_cases e:g=k
  ·subst e;rw[if_pos hk]
  ·rw[if_neg (hn g (by omega) (by omega))]
   exact ih (g+1) k (fun j hj hk'=>hn j (by omega) hk') hk (by omega) (by omega)
theorem Jt (c:Int) (ls:List (List Int)) (sum:Int) (gv:List Int) (hp:dF c ls sum gv):
 aF Tryz.prog 100 [pzV c ls sum gv] (.tup [.int .i64 (gP c ls sum gv).1,.isl (dlC (gP c ls sum gv).2.1) .none,.int .i64 (gP c ls sum gv).2.2]):=by
 have sn:∀e:Int,Sup (bE [PV.int IntKind.i64 0,PV.nils,PV.int IntKind.i64 e]) (.tup [.int .i64 0,.isl (dlC []) .none,.int .i64 e]):=fun e=>by all_goals(refine Sup.via ?_;repeat'((conv=>whnf);first|intro _|apply aI|with_reducible exact vM rfl|exact⟨⟩|apply nM|apply fM);all_goals((try apply vM);(try simp only[vq]at*);try omega);all_goals(try(simp[CL.sub];done)))
 obtain⟨r5,h5⟩:∃r,sol c ls sum gv 5=r:=⟨_,rfl⟩;by_cases h21:r5.2.2=21
 ·have hso:jm (sol c ls sum gv 5)=none:=by unfold jm;rw[h5,if_pos h21]
  have hgr:gP c ls sum gv=(0,[],21):=by unfold gP;rw[h5,if_pos (by rw[h21];simp),h21]
  rw[hgr];refine av (md:=1) (rf:=[]) mixed ak fu Tryz.func100 (by rfl) (by rfl) (by rfl) ?_
  repeat'((conv=>whnf);first|refine Exists.intro (none) ?_|(intro hq;(try simp only[vw]at hq);try first|exact absurd hq (by decide)|exfalso;omega)|apply aI|with_reducible exact vM rfl|exact⟨⟩|apply nM|apply fM)
  all_goals((try apply vM);(try simp only[vq]at*);try omega)
  ·exact⟨hp,⟨by omega,by omega⟩,hso⟩
  ·exact sn 21
 ·have hso:jm (sol c ls sum gv 5)=some r5:=by unfold jm;rw[h5,if_neg h21]
  by_cases h50:r5.2.2=0
  ·skip
   refine av (md:=1) (rf:=[]) mixed ak fu Tryz.func100 (by rfl) (by rfl) (by rfl) ?_
   repeat'((conv=>whnf);first|refine Exists.intro (some r5) ?_|(intro hq;(try simp only[vw]at hq);try first|exact absurd hq (by decide)|exfalso;omega)|apply aI|with_reducible exact vM rfl|exact⟨⟩|apply nM|apply fM)
   all_goals((try apply vM);(try simp only[vq]at*);try omega)
   ·exact⟨hp,⟨by omega,by omega⟩,hso⟩
   conv=>whnf
   refine aM (X:=Nat) (fun g=>(1≤g∧g≤5)∧∀j,1≤j→j<g→(sol c ls sum gv j).2.2≠0) (fun g=>[(8,.int .i64 (g:Int))]) (fun g=>[]) (fun g=>6-g) 1 ⟨aK,mixed,ak,fu,aP⟩ (by rfl) ⟨by omega,fun j h1 h2=>by omega⟩ ?_ ?_
   ·repeat'((conv=>whnf);first|intro _|apply aI|with_reducible exact vM rfl|exact⟨⟩|apply nM|apply fM)
    all_goals((try apply vM);(try simp only[vq]at*);try omega)
   intro g ⟨hg,hok⟩;obtain⟨rg,hrg⟩:∃r,sol c ls sum gv g=r:=⟨_,rfl⟩;have nxt:rg.2.2≠0→(g+1≤5∧∀j,1≤j→j<g+1→(sol c ls sum gv j).2.2≠0):=fun h0=>by
    have:g≠5:=fun e=>by subst e;rw[←hrg,h5]at h0;exact h0 h50
    refine⟨by omega,fun j h1 h2=>?_⟩
    by_cases e:j=g
    ·subst e;rw[hrg];exact h0
    ·exact hok j h1 (by omega)
   by_cases hg21:rg.2.2=21
   ·have hso2:jm (sol c ls sum gv g)=none:=by unfold jm;rw[hrg,if_pos hg21]
    repeat'((conv=>whnf);first|refine Exists.intro (none) ?_|(intro hq;(try simp only[vw]at hq);try first|exact absurd hq (by decide)|exfalso;omega)|apply aI|with_reducible exact vM rfl|exact⟨⟩|apply nM|apply fM)
    all_goals((try apply vM);(try simp only[vq]at*);try omega)
    ·exact⟨hp,⟨by omega,by omega⟩,hso2⟩
    obtain⟨n1,n2⟩:=nxt (by rw[hg21];simp)
    refine⟨g+1,[],⟨⟨⟨by omega,n1⟩,n2⟩,by omega⟩,?_⟩
    repeat'((conv=>whnf);first|intro _|apply aI|with_reducible exact vM rfl|exact⟨⟩|apply nM|apply fM)
    all_goals((try apply vM);(try simp only[vq]at*);try omega)
   ·have hso2:jm (sol c ls sum gv g)=some rg:=by unfold jm;rw[hrg,if_neg hg21]
    repeat'((conv=>whnf);first|refine Exists.intro (some rg) ?_|(intro hq;(try simp only[vw]at hq);try first|exact absurd hq (by decide)|exfalso;omega)|apply aI|with_reducible exact vM rfl|exact⟨⟩|apply nM|apply fM)
    all_goals((try apply vM);(try simp only[vq]at*);try omega)
    ·exact⟨hp,⟨by omega,by omega⟩,hso2⟩
    ·have hgn:=QZ (c:=c) (ls:=ls) (sum:=sum) (gv:=gv) 4 1 g hok (by rw[hrg];exact hq) hg.1 (by omega)
     have hgr:gP c ls sum gv=(((g:Nat):Int),rg.1,0):=by unfold gP;rw[h5,if_neg (by rw[h50];simp),hgn,hrg]
     rw[hgr];exact Sup.of (by simp only[bE];rw[hq])
    ·obtain⟨n1,n2⟩:=nxt hq
     refine⟨g+1,[],⟨⟨⟨by omega,n1⟩,n2⟩,by omega⟩,?_⟩
     repeat'((conv=>whnf);first|intro _|apply aI|with_reducible exact vM rfl|exact⟨⟩|apply nM|apply fM)
     all_goals((try apply vM);(try simp only[vq]at*);try omega)
  ·have hgr:gP c ls sum gv=(0,[],r5.2.2):=by unfold gP;rw[h5,if_pos h50]
   rw[hgr];refine av (md:=1) (rf:=[]) mixed ak fu Tryz.func100 (by rfl) (by rfl) (by rfl) ?_
   repeat'((conv=>whnf);first|refine Exists.intro (some r5) ?_|(intro hq;(try simp only[vw]at hq);try first|exact absurd hq (by decide)|exfalso;omega)|apply aI|with_reducible exact vM rfl|exact⟨⟩|apply nM|apply fM)
   all_goals((try apply vM);(try simp only[vq]at*);try omega)
   ·exact⟨hp,⟨by omega,by omega⟩,hso⟩
   ·exact sn _
def BD:PSp:=fun xs K=>match xs with
 | [.agg [.int .i64 c,.isl (.rows .i64 ls) .none,.int .i64 sum,.isl (.ints .i64 gv) .none]]=>VC (dF c ls sum gv)∧K (.tup [.int .i64 (gP c ls sum gv).1,.isl (dlC (gP c ls sum gv).2.1) .none,.int .i64 (gP c ls sum gv).2.2])
 |_=>False
theorem Q0:POK Tryz.prog 100 BD:=by
 intro xs K hk;unfold BD at hk;split at hk
 ·exact⟨_,hk.2,Jt _ _ _ _ hk.1.get⟩
 ·exact hk.elim
noncomputable def afi:CPT:=aA 22 (aB lS) (aA 100 (aB BD) (aA 101 (aB oI) noC))
theorem oK:aU Tryz.prog afi:=aj (au kS) (aj (au Q0) (aj (au qx) aC))
def kU (c:Int) (ls:List (List Int)) (sum:Int) (gv:List Int):Int × List Dd × Int:=if pzE c ls sum gv≠0 then(0,[],pzE c ls sum gv)else gP c ls sum gv
theorem NW (c:Int) (ls:List (List Int)) (sum:Int) (gv:List Int) (h:bK ls) (hg:gv.length≤5000):aF Tryz.prog 31 [pzV c ls sum gv] (.tup [.int .i64 (kU c ls sum gv).1,.int .i64 (kU c ls sum gv).2.2]):=by
 by_cases he:pzE c ls sum gv=0
 ·have e1:kU c ls sum gv=gP c ls sum gv:=by unfold kU;rw[if_neg (by rw[he];simp)]
  rw[e1];refine av (md:=1) (rf:=[]) mixed ak oK Tryz.func31 (by rfl) (by rfl) (by rfl) ?_
  repeat'((conv=>whnf);first|(intro hq;(try simp only[vw]at hq);try first|exact absurd hq (by decide)|exfalso;omega)|apply aI|with_reducible exact vM rfl|exact⟨⟩|apply nM|apply fM)
  all_goals((try apply vM);(try simp only[vq]at*);try omega)
  all_goals first|exact⟨h,hg⟩|exact dF.of he|exact Sup.of rfl|skip
 ·have e1:kU c ls sum gv=(0,[],pzE c ls sum gv):=by unfold kU;rw[if_pos he]
  rw[e1];refine av (md:=1) (rf:=[]) mixed ak oK Tryz.func31 (by rfl) (by rfl) (by rfl) ?_
  repeat'((conv=>whnf);first|(intro hq;(try simp only[vw]at hq);try first|exact absurd hq (by decide)|exfalso;omega)|apply aI|with_reducible exact vM rfl|exact⟨⟩|apply nM|apply fM)
  all_goals((try apply vM);(try simp only[vq]at*);try omega)
  all_goals first|exact⟨h,hg⟩|exact Sup.of rfl|skip
def jM (l:List Dd):List Int:=(agc 5).map fun g=>((l.filter fun d=>decide (d.g=g+1)).length:Int)
theorem Q5 (l:List Dd) (d:Dd) (h:1≤d.g∧d.g≤5):(jM l).set (d.g-1) ((jM l).getD (d.g-1) 0+1)=jM (l++[d]):=by
 refine aiY (by simp[jM]) fun j h1 h2=>?_
 have hj:j<5:=by simpa [jM]using h2
 rw[aiZ];simp only[jM,ai0,ai1,ai5,ai6,ai7,ahl];by_cases e:d.g-1=j
 ·rw[if_pos e]
  subst e;simp[agf,show d.g-1<5 by omega,show d.g-1+1=d.g by omega]
 ·rw[if_neg e]
  simp[show¬d.g=j+1 by omega]
theorem ac8 {c:Int} {ls:List (List Int)} {sum:Int} {n:Nat}:∀(f:Nat) (s:St) (l:List Dd),(∀d∈l,1≤d.g∧d.g≤n)→∀d∈(pQ c ls sum n f s l).1,1≤d.g∧d.g≤n:=by
 intro f;induction f with
 |zero=>exact fun s l h=>h
 |succ f ih=>
  intro s l h;unfold pQ;split
  ·intro d hd;simp at hd
  ·split
   ·exact h
   ·split
    ·exact h
    ·rename_i d hd
     refine ih _ _ fun d' hd'=>?_;rcases agh.1 hd' with h1|h1
     ·exact h d' h1
     ·rw[aiO.1 h1]
      obtain⟨g,g1,g2,g3⟩:=Gx hd;rw[(Gw.1 g3).1];exact⟨g1,g2⟩
theorem ac9 {c:Int} {ls:List (List Int)} {sum:Int} {gv:List Int}:∀d∈(gP c ls sum gv).2.1,1≤d.g∧d.g≤5:=by
 intro d hd;unfold gP at hd;split at hd
 ·simp at hd
 ·have:=ac8 (n:=sW c ls sum gv 4 1) 273 _ [] (fun d h=>by simp at h) d hd
  have hb:∀f g,sW c ls sum gv f g≤g+f:=by
   intro f;induction f with
   |zero=>intro g;exact af3 _
   |succ f ih=>intro g;unfold sW;split;omega;have:=ih (g+1);omega
  have:=hb 4 1;omega
theorem Uw {c:Int} {ls:List (List Int)} {sum:Int} {n:Nat}:∀(f:Nat) (s:St) (l:List Dd),(pQ c ls sum n f s l).1.length≤l.length+f:=by
 intro f;induction f with
 |zero=>exact fun s l=>af3 _
 |succ f ih=>
  intro s l;unfold pQ;split
  ·simp
  ·split
   ·simp only;omega
   ·split
    ·simp only;omega
    ·have:=ih (apl ‹Dd›.g s ‹Dd›.y ‹Dd›.x) (l++[‹Dd›])
     rw[ahl]at this;simp only[afY,afU]at this;omega
theorem Ux {c:Int} {ls:List (List Int)} {sum:Int} {gv:List Int}:(gP c ls sum gv).2.1.length≤273:=by
 unfold gP;split
 ·simp
 ·have:=Uw (c:=c) (ls:=ls) (sum:=sum) (n:=sW c ls sum gv 4 1) 273 (bgn c gv) []
  rw[afU,Nat.zero_add]at this;exact this
theorem Z0 (l:List Dd) (i:Nat):0≤(jM l).getD i 0∧(jM l).getD i 0≤l.length:=by
 by_cases hi:i<5
 ·have:(jM l).getD i 0=((l.filter fun d=>decide (d.g=i+1)).length:Int):=by simp[jM,agf,hi]
  rw[this];have:=aiP (fun d:Dd=>decide (d.g=i+1)) l;omega
 ·have:(jM l).getD i 0=0:=by simp[jM,agf,hi]
  rw[this];omega
def GR (c:Int) (ls:List (List Int)) (sum:Int) (gv:List Int):List Int:=if(kU c ls sum gv).2.2≠0 then []else jM (kU c ls sum gv).2.1
theorem ada {g:Nat} (h:1≤g∧g≤5):bG (nmG g)=g:=by
 have:=qw;obtain rfl|rfl|rfl|rfl|rfl:g=1∨g=2∨g=3∨g=4∨g=5:=by omega
 all_goals first|exact this.1|exact this.2.1|exact this.2.2.1|exact this.2.2.2.1|exact this.2.2.2.2
theorem NY (c:Int) (ls:List (List Int)) (sum:Int) (gv:List Int) (h:bK ls) (hg:gv.length≤5000):aF Tryz.prog 32 [pzV c ls sum gv] (.tup [.isl (.ints .i64 (GR c ls sum gv)) .none,.int .i64 (kU c ls sum gv).2.2]):=by
 have sn:∀e:Int,Sup (bE [PV.nils,PV.int IntKind.i64 e]) (.tup [.isl (.ints .i64 []) .none,.int .i64 e]):=fun e=>by all_goals(refine Sup.via ?_;repeat'((conv=>whnf);first|intro _|apply aI|with_reducible exact vM rfl|exact⟨⟩|apply nM|apply fM);all_goals((try apply vM);(try simp only[vq]at*);try omega);all_goals(try(simp[CL.sub];done)))
 by_cases he:pzE c ls sum gv=0
 ·have e1:kU c ls sum gv=gP c ls sum gv:=by unfold kU;rw[if_neg (by rw[he];simp)]
  unfold GR;rw[e1];have hgg:=ac9 (c:=c) (ls:=ls) (sum:=sum) (gv:=gv);obtain⟨l,hF⟩:∃l,(gP c ls sum gv).2.1=l:=⟨_,rfl⟩;rw[hF]at hgg;have hl3:l.length≤273:=by rw[←hF];exact Ux
  by_cases h0:(gP c ls sum gv).2.2=0
  ·rw[if_neg (by rw[h0];simp),hF]
   refine av (md:=1) (rf:=[]) mixed ak oK Tryz.func32 (by rfl) (by rfl) (by rfl) ?_
   repeat'((conv=>whnf);first|(intro hq;(try simp only[vw]at hq);try first|exact absurd hq (by decide)|exfalso;omega)|apply aI|with_reducible exact vM rfl|exact⟨⟩|apply nM|apply fM)
   all_goals((try apply vM);(try simp only[vq]at*);try omega)
   all_goals first|exact .inl trivial|exact⟨h,hg⟩|exact dF.of he|skip
   rw[hF];conv=>whnf
   refine aM (X:=Nat) (fun i=>i≤l.length) (fun i=>[(28,.int .i64 i)]) (fun i=>[(9,.cells (.ints .i64 (jM (l.take i))) false)]) (fun i=>l.length-i) 0 ⟨aK,mixed,ak,oK,aP⟩ (by rfl) (by omega) ?_ ?_
   ·repeat'((conv=>whnf);first|intro _|apply aI|with_reducible exact vM rfl|exact⟨⟩|apply nM|apply fM)
    all_goals((try apply vM);(try simp only[vq]at*);try omega)
    all_goals rfl
   intro i hi;have hsl:(jM (l.take i)).length=5:=by simp[jM]
   have hbd:=Z0 (l.take i);have hli:(l.take i).length≤273:=by rw[agU];omega
   by_cases hlt:i<l.length
   ·have hd:=hgg (l.getD i dd0) (by rw[agf,agl hlt];exact aiu _)
    have hgn:=ada hd;obtain⟨dg,hdg⟩:∃g:Int,g=((l.getD i dd0).g:Nat):=⟨_,rfl⟩;have hbi:=hbd (dg-1).toNat;have ht1:l.take (i+1)=l.take i++[l.getD i dd0]:=by rw[ah4,agf,agl hlt];rfl
    have hsu:=Q5 (l.take i) (l.getD i dd0) hd;rw[←ht1,show(l.getD i dd0).g-1=(dg-1).toNat by omega]at hsu
    repeat'((conv=>whnf);first|refine Exists.intro (dg) ?_|(intro hq;(try simp only[vw]at hq);try first|exact absurd hq (by decide)|exfalso;omega)|apply aI|with_reducible exact vM rfl|exact⟨⟩|apply nM|apply fM)
    all_goals((try apply vM);(try simp only[vq]at*);try omega)
    all_goals(try first|omega|rfl|(rw[hgn];exact hdg.symm))
    refine⟨i+1,[],⟨by omega,by omega⟩,?_⟩
    repeat'((conv=>whnf);first|intro _|apply aI|with_reducible exact vM rfl|exact⟨⟩|apply nM|apply fM)
    all_goals((try apply vM);(try simp only[vq]at*);try omega)
    all_goals(try exact hsu)
   ·have:i=l.length:=by omega
    subst this;rw[ah6]at*
    repeat'((conv=>whnf);first|(intro hq;(try simp only[vw]at hq);try first|exact absurd hq (by decide)|exfalso;omega)|apply aI|with_reducible exact vM rfl|exact⟨⟩|apply nM|apply fM)
    all_goals((try apply vM);(try simp only[vq]at*);try omega)
    all_goals(try(rw[hsl];decide))
    rw[h0];refine Sup.of ?_;show PV.tup [.isl (.ints .i64 (aiK (aiw 5-0) (aiL 0 (jM l)))) .none,.int .i64 0]=_;rw[cK (by rw[hsl];rfl)]
  ·rw[if_pos h0]
   refine av (md:=1) (rf:=[]) mixed ak oK Tryz.func32 (by rfl) (by rfl) (by rfl) ?_
   repeat'((conv=>whnf);first|(intro hq;(try simp only[vw]at hq);try first|exact absurd hq (by decide)|exfalso;omega)|apply aI|with_reducible exact vM rfl|exact⟨⟩|apply nM|apply fM)
   all_goals((try apply vM);(try simp only[vq]at*);try omega)
   all_goals first|exact .inl trivial|exact⟨h,hg⟩|exact dF.of he|exact sn _|skip
 ·have e1:kU c ls sum gv=(0,[],pzE c ls sum gv):=by unfold kU;rw[if_pos he]
  have e2:GR c ls sum gv=[]:=by unfold GR;rw[e1,if_pos he]
  rw[e1,e2];refine av (md:=1) (rf:=[]) mixed ak oK Tryz.func32 (by rfl) (by rfl) (by rfl) ?_
  repeat'((conv=>whnf);first|(intro hq;(try simp only[vw]at hq);try first|exact absurd hq (by decide)|exfalso;omega)|apply aI|with_reducible exact vM rfl|exact⟨⟩|apply nM|apply fM)
  all_goals((try apply vM);(try simp only[vq]at*);try omega)
  all_goals first|exact .inl trivial|exact⟨h,hg⟩|exact sn _|skip
structure StS (s:St):Prop where
 cl:s.cs.length≤5000
 dl:s.ds.length≤5000
 ll:∀i,(s.cd i).length≤5000
structure afj (s:St):Prop where
 cl:1≤s.cs.length∧s.cs.length≤16
 dl:s.ds.length=s.cs.length
 asc:∀i,i<s.cs.length→Asc (s.cd i)
theorem bL.lt {c:Int} {ls:List (List Int)} {sum:Int} {s:St} (h:bL c ls sum s):afj s:=by
 have:=h.c1;have:=h.cl;have:=h.dl;exact⟨by omega,by omega,fun i hi=>(h.asc i hi).1⟩
structure StW where
 s:St
theorem adb (b:Bool) (p:PV):Sup (bE [PV.bool b,p]) (PV.tup [.bp b,p]):=⟨fun hr=>by
 cases hr with
 |tup _ _ vs hl hh=>
  refine .tup _ _ _ hl fun i hi=>?_;have:=hh i hi;obtain rfl|rfl:i=0∨i=1:=by simp at hi;omega
  ·simp only[aD]at this⊢
   generalize vs.getD 0 undef=v1 at this
   cases this;exact .bp _ _
  ·exact this⟩
structure Du where
 r:ByteArray
 y:Int
 x:Int
 k:Int
def jN (N l:List Int):Int:=l.foldl (fun a x=>a+N.getD x.toNat 0) 0
theorem GU (N l:List Int) (x:Int):jN N (l++[x])=jN N l+N.getD x.toNat 0:=by unfold jN;rw[ait];rfl
theorem wN {N:List Int} (hN:∀x∈N,0≤x∧x≤16) (l:List Int):0≤jN N l∧jN N l≤16*l.length:=by
 obtain⟨n,hn⟩:∃n,l.length=n:=⟨_,rfl⟩;induction n generalizing l with
 |zero=>rw[List.length_eq_zero_iff.1 hn];simp[jN]
 |succ n ih=>
  obtain⟨l',x,rfl⟩:∃l' x,l=l'++[x]:=⟨l.take n,l.getD n 0,by rw[←dZ (by omega),←hn,ah6]⟩
  have ih:=ih l' (by simpa using hn)
  rw[GU,ahl];have:0≤N.getD x.toNat 0∧N.getD x.toNat 0≤16:=by
   rw[agf];cases e:N[x.toNat]? with
   |none=>simp
   |some y=>exact hN y (List.mem_of_getElem? e)
  simp only[afY,afU];omega
def vG (sum:Int) (N:List Int) (i:Int) (l:List Int):Bool:=!decide (l.getD (l.length-1) 0=i-1)||decide (jN N l=sum)
def lU (ls:List (List Int)) (sum:Int) (N:List Int) (i:Int):Bool:=ls.all (vG sum N i)
theorem gu {α:Type} {l:List α} {i:Nat} {d:α} (h:i<l.length):l.getD i d∈l:=by
 rw[agf,agl h];exact aiu _
theorem Z4 {ls:List (List Int)} {sum:Int} {N:List Int} {i:Int} {j:Nat} (hj:j<ls.length) (h:vG sum N i (ls.getD j [])=false):lU ls sum N i=false:=by
 unfold lU;rw[List.all_eq_false];exact⟨_,gu hj,by rw[h];simp⟩
abbrev srC (c:Int) (ls:List (List Int)) (sum:Int) (gv:List Int) (lim:Int) (nums:PV) (u:Int) (res:PV):CL:=.pv [.int .i64 c,.isl (.rows .i64 ls) .none,.int .i64 sum,.isl (.ints .i64 gv) .none,.int .i64 lim,nums,.int .u32 u,res]
structure GV (c:Int) (N:List Int):Prop where
 len:(N.length:Int)=c
 rng:∀x∈N,0≤x∧x≤16
theorem Q6 (c:Int) (ls:List (List Int)) (sum:Int) (gv:List Int) (lim:Int) (N:List Int) (u:Int) (R:List (List Int)) (i:Int) (h:dF c ls sum gv) (hN:GV c N) (hi:0≤i∧i≤16):
 aF Tryz.prog 155 [.ip (srC c ls sum gv lim (.isl (.ints .i64 N) .none) u (.isl (.rows .i64 R) .none)) 0,.int .i64 i] (.bp (lU ls sum N i)):=by
 have hc:=h.c1;have hll:=h.ll;have hsm:=h.sm;have hNl:=hN.len;refine av (md:=1) (rf:=[]) mixed ak aC Tryz.func155 (by rfl) (by rfl) (by rfl) ?_
 repeat'((conv=>whnf);first|(intro hq;(try simp only[vw]at hq);try first|exact absurd hq (by decide)|exfalso;omega)|apply aI|with_reducible exact vM rfl|exact⟨⟩|apply nM|apply fM)
 all_goals((try apply vM);(try simp only[vq]at*);try omega)
 conv=>whnf
 refine aM (X:=Nat) (fun j=>j≤ls.length∧∀t,t<j→vG sum N i (ls.getD t [])=true) (fun j=>[(17,.int .i64 j)]) (fun j=>[]) (fun j=>ls.length-j) 0 ⟨aK,mixed,ak,aC,aP⟩ (by rfl) ⟨by omega,fun t ht=>absurd ht (Nat.not_lt_zero t)⟩ ?_ ?_
 ·repeat'((conv=>whnf);first|intro _|apply aI|with_reducible exact vM rfl|exact⟨⟩|apply nM|apply fM)
  all_goals((try apply vM);(try simp only[vq]at*);try omega)
 intro j ⟨hj,hok⟩;by_cases hlt:j<ls.length
 ·have hL:=h.ln j hlt
  have hne:=hL.ne;have hlen:=hL.len;have eidx:((((ls.getD j []).length:Nat):Int)-1).toNat=(ls.getD j []).length-1:=by omega
  have hlast:=hL.rng ((ls.getD j []).getD ((ls.getD j []).length-1) 0) (cB (by omega))
  have hnext:vG sum N i (ls.getD j [])=true→∀t,t<j+1→vG sum N i (ls.getD t [])=true:=fun hh t ht=>by
   rcases aiX.1 ht with h'|h'
   ·exact hok t h'
   ·rw[h'];exact hh
  repeat'((conv=>whnf);first|(intro hq;(try simp only[vw]at hq);try first|exact absurd hq (by decide)|exfalso;omega)|apply aI|with_reducible exact vM rfl|exact⟨⟩|apply nM|apply fM)
  all_goals((try apply vM);(try simp only[vq]at*);try omega)
  all_goals(try omega)
  all_goals(try rw[eidx]at*)
  ·refine⟨j+1,[],⟨⟨by omega,hnext (by unfold vG;rw[decide_eq_false hq];rfl)⟩,by omega⟩,?_⟩
   repeat'((conv=>whnf);first|intro _|apply aI|with_reducible exact vM rfl|exact⟨⟩|apply nM|apply fM)
   all_goals((try apply vM);(try simp only[vq]at*);try omega)
  rename_i hq;have hla:=agY.1 hq;conv=>whnf
  refine aM (X:=Nat) (fun k=>k≤(ls.getD j []).length) (fun k=>[(32,.int .i64 k),(7,.int .i64 (jN N ((ls.getD j []).take k)))]) (fun k=>[]) (fun k=>(ls.getD j []).length-k) 0 ⟨aK,mixed,ak,aC,aP⟩ (by rfl) (by omega) ?_ ?_
  ·repeat'((conv=>whnf);first|intro _|apply aI|with_reducible exact vM rfl|exact⟨⟩|apply nM|apply fM)
   all_goals((try apply vM);(try simp only[vq]at*);try omega)
   all_goals skip
  intro k hk;have hb:=wN hN.rng ((ls.getD j []).take k);rw[agU,Nat.min_eq_left hk]at hb;by_cases hlk:k<(ls.getD j []).length
  ·have hx:=hL.rng ((ls.getD j []).getD k 0) (gu hlk)
   have hsx:jN N ((ls.getD j []).take (k+1))=jN N ((ls.getD j []).take k)+N.getD ((ls.getD j []).getD k 0).toNat 0:=by rw[dZ hlk,GU]
   have hv:=hN.rng (N.getD ((ls.getD j []).getD k 0).toNat 0) (gu (by omega))
   repeat'((conv=>whnf);first|(intro hq;(try simp only[vw]at hq);try first|exact absurd hq (by decide)|exfalso;omega)|apply aI|with_reducible exact vM rfl|exact⟨⟩|apply nM|apply fM)
   all_goals((try apply vM);(try simp only[vq]at*);try omega)
   all_goals(try omega)
   refine⟨k+1,[],⟨by omega,by omega⟩,?_⟩
   rw[hsx]
   repeat'((conv=>whnf);first|intro _|apply aI|with_reducible exact vM rfl|exact⟨⟩|apply nM|apply fM)
   all_goals((try apply vM);(try simp only[vq]at*);try omega)
   all_goals skip
  ·have e:k=(ls.getD j []).length:=by omega
   subst e;rw[ah6]at*
   repeat'((conv=>whnf);first|(intro hq;(try simp only[vw]at hq);try first|exact absurd hq (by decide)|exfalso;omega)|apply aI|with_reducible exact vM rfl|exact⟨⟩|apply nM|apply fM)
   all_goals((try apply vM);(try simp only[vq]at*);try omega)
   all_goals(try omega)
   ·rw[Z4 hlt (by unfold vG;rw[decide_eq_true hla,decide_eq_false hq];rfl)]
    exact d9 false
   ·refine⟨j+1,[],⟨⟨by omega,hnext (by unfold vG;rw[decide_eq_true (agY.1 hq),Bool.or_true])⟩,by omega⟩,?_⟩
    repeat'((conv=>whnf);first|intro _|apply aI|with_reducible exact vM rfl|exact⟨⟩|apply nM|apply fM)
    all_goals((try apply vM);(try simp only[vq]at*);try omega)
 ·have e:j=ls.length:=by omega
  subst e;have:lU ls sum N i=true:=by
   unfold lU;rw[ahD];intro x hx;obtain⟨t,ht,rfl⟩:=agk hx;have:=hok t ht
   rwa [agf,agl ht]at this
  rw[this]
  repeat'((conv=>whnf);first|(intro hq;(try simp only[vw]at hq);try first|exact absurd hq (by decide)|exfalso;omega)|apply aI|with_reducible exact vM rfl|exact⟨⟩|apply nM|apply fM)
  all_goals((try apply vM);(try simp only[vq]at*);try omega)
  all_goals exact d9 true
def NZ:PSp:=fun xs K=>match xs with
 | [.ip (.pv [.int .i64 c,.isl (.rows .i64 ls) .none,.int .i64 sum,.isl (.ints .i64 gv) .none,.int .i64 lim,.isl (.ints .i64 N) .none,.int .u32 u,.isl (.rows .i64 R) .none]) 0,.int .i64 i]=>VC (dF c ls sum gv∧GV c N∧0≤i∧i≤16)∧K (.bp (lU ls sum N i))
 |_=>False
theorem Z5:POK Tryz.prog 155 NZ:=by
 intro xs K hk;unfold NZ at hk;split at hk
 ·exact⟨_,hk.2,Q6 _ _ _ _ _ _ _ _ _ hk.1.get.1 hk.1.get.2.1 hk.1.get.2.2⟩
 ·exact hk.elim
theorem Uy (l:List Int) (hl:1≤l.length∧l.length≤1000000):aF Tryz.prog 102 [.isl (.ints .i64 l) .none] (.isl (.ints .i64 l) .none):=by
 refine av (md:=1) (rf:=[]) mixed ak aC Tryz.func102 (by rfl) (by rfl) (by rfl) ?_
 repeat'((conv=>whnf);first|intro _|apply aI|with_reducible exact vM rfl|exact⟨⟩|apply nM|apply fM)
 all_goals((try apply vM);(try simp only[vq]at*);try omega)
 all_goals first|(simp;omega)|exact Sup.of rfl
def Uz:PSp:=fun xs K=>match xs with
 | [.isl (.ints .i64 l) .none]=>VC (1≤l.length∧l.length≤1000000)∧K (.isl (.ints .i64 l) .none)
 |_=>False
theorem ade:POK Tryz.prog 102 Uz:=by
 intro xs K h;unfold Uz at h;split at h
 ·exact⟨_,h.2,Uy _ h.1.get⟩
 ·exact h.elim
theorem Q7 (l:List Int) (hl:1≤l.length∧l.length≤1000000):iM Tryz.prog 102 [.isl (.ints .i64 l) .none] [] [.rsl 0 0 l.length] [.cells (.ints .i64 l) false]:=by
 refine bH (md:=1) (rf:=[7]) mixed ak aC 0 [(1,0)] Tryz.func102 (by rfl) (by rfl) (by rfl) ?_
 repeat'((conv=>whnf);first|(intro hq;(try simp only[vw]at hq);try first|exact absurd hq (by decide)|exfalso;omega)|apply aI|with_reducible exact vM rfl|exact⟨⟩|apply nM|apply fM)
 all_goals((try apply vM);(try simp only[vq]at*);try omega)
 all_goals skip
def N7:LSp:=fun xs objs K=>match xs,objs with
 | [.isl (.ints .i64 l) .none],[]=>VC (1≤l.length∧l.length≤1000000)∧K [.rsl 0 0 l.length] [.cells (.ints .i64 l) false]
 |_,_=>False
theorem KF:LOK Tryz.prog 102 N7:=by
 intro xs objs K hk;unfold N7 at hk;split at hk
 ·exact⟨_,_,hk.2,Q7 _ hk.1.get⟩
 ·exact hk.elim
def nT (lim:Int) (ls:List (List Int)) (sum:Int) (gv:List Int):Nat→List (List Int)→List Int→List Int→List (List Int)
 |0,R,N,U=>if lim≤R.length∨lU ls sum N gv.length=false then R else R++[N]
 |f+1,R,N,U=>if lim≤R.length∨lU ls sum N ((gv.length-(f+1):Nat):Int)=false then R
  else if 0<gv.getD (gv.length-(f+1)) 0 then nT lim ls sum gv f R N U
  else(agc gv.length).foldl (fun R (x:Nat)=>if((x:Int)+1)∈U then R else nT lim ls sum gv f R (N.set (gv.length-(f+1)) ((x:Int)+1)) (U++[(x:Int)+1])) R
theorem GX {α:Type} {f:List (List Int)→α→List (List Int)} {b:Nat}:∀(l:List α) (R:List (List Int)),R.length≤b→(∀R x,R.length≤b→(f R x).length≤b)→(l.foldl f R).length≤b:=by
 intro l;induction l with
 |nil=>intro R h _;exact h
 |cons x l ih=>intro R h hf;exact ih _ (hf R x h) hf
theorem GY {lim:Int} {ls:List (List Int)} {sum:Int} {gv:List Int} {b:Nat} (hl:lim≤b):∀(f:Nat) (R:List (List Int)) (N U:List Int),R.length≤b→(nT lim ls sum gv f R N U).length≤b:=by
 intro f;induction f with
 |zero=>
  intro R N U h;unfold nT;split
  ·exact h
  ·rw[ahl,afY,afU];omega
 |succ f ih=>
  intro R N U h;unfold nT;split
  ·exact h
  ·split
   ·exact ih _ _ _ h
   ·refine GX _ _ h fun R x hR=>?_
    split
    ·exact hR
    ·exact ih _ _ _ hR
abbrev srO (c:Int) (ls:List (List Int)) (sum:Int) (gv:List Int) (lim:Int) (N U:List Int) (R:List (List Int)):List AO:=
 [.cells (srC c ls sum gv lim (.rsl 1 0 gv.length) ((mk U:Nat):Int) (.isl (.rows .i64 R) (.own 2))) false,.cells (.ints .i64 N) false,.tok 1 R.length]
structure SrI (c:Int) (gv:List Int) (f:Nat) (N U:List Int):Prop where
 n:GV c N
 u:InM U
 fl:f≤gv.length
 z:∀j,gv.length-f≤j→j<gv.length→gv.getD j 0=0→N.getD j 0=0
def qV (f:Nat):Prop:=∀(c:Int) (ls:List (List Int)) (sum:Int) (gv:List Int) (lim:Int) (N U:List Int) (R:List (List Int)),dF c ls sum gv→lim≤256→R.length≤256→SrI c gv f N U→
 iM Tryz.prog 103 [.rp 0 0,.int .i64 ((gv.length-f:Nat):Int)] (srO c ls sum gv lim N U R) [] (srO c ls sum gv lim N U (nT lim ls sum gv f R N U))
def Ep (f:Nat):LSp:=fun xs objs K=>match xs,objs with
 | [.rp 0 0,.int .i64 i],[.cells (.pv [.int .i64 c,.isl (.rows .i64 ls) .none,.int .i64 sum,.isl (.ints .i64 gv) .none,.int .i64 lim,.rsl 1 0 n,.int .u32 u,.isl (.rows .i64 R) (.own 2)]) false,.cells (.ints .i64 N) false,.tok 1 m]=>
  ∃U:List Int,VC (n=gv.length∧m=R.length∧u=(mk U:Nat)∧i=((gv.length-f:Nat):Int)∧dF c ls sum gv∧lim≤256∧R.length≤256∧SrI c gv f N U)∧K [] (srO c ls sum gv lim N U (nT lim ls sum gv f R N U))
 |_,_=>False
theorem GZ {f:Nat} (h:qV f):LOK Tryz.prog 103 (Ep f):=by
 intro xs objs K hk;unfold Ep at hk;split at hk
 ·obtain⟨U,⟨rfl,rfl,rfl,rfl,h1,h2,h3,h4⟩,hk⟩:=hk
  exact⟨_,_,hk,h _ _ _ _ _ _ _ _ h1 h2 h3 h4⟩
 ·exact hk.elim
theorem Q8 (l:List Int) (hl:1≤l.length∧l.length≤1000000):iM Tryz.prog 102 [.rsl 0 0 l.length] [.cells (.ints .i64 l) false] [.isl (.ints .i64 l) .none] [.cells (.ints .i64 l) false]:=by
 have tk:aiK (0+l.length-0) (aiL 0 l)=l:=cK (by omega)
 refine bH (md:=1) (rf:=[]) mixed ak aC 1 [] Tryz.func102 (by rfl) (by rfl) (by rfl) ?_
 repeat'((conv=>whnf);first|(intro hq;(try simp only[vw]at hq);try first|exact absurd hq (by decide)|exfalso;omega)|apply aI|with_reducible exact vM rfl|exact⟨⟩|apply nM|apply fM)
 all_goals((try apply vM);(try simp only[vq]at*);try omega)
 all_goals first|exact .inl trivial|(simp;omega)|(simp;done)|skip
def UA:LSp:=fun xs objs K=>match xs,objs with
 | [.rsl 0 0 n],[.cells (.ints .i64 l) false]=>VC (n=l.length∧1≤l.length∧l.length≤1000000)∧K [.isl (.ints .i64 l) .none] [.cells (.ints .i64 l) false]
 |_,_=>False
theorem Z6:LOK Tryz.prog 102 UA:=by
 intro xs objs K hk;unfold UA at hk;split at hk
 ·obtain⟨⟨rfl,h⟩,hk⟩:=hk
  exact⟨_,_,hk,Q8 _ h⟩
 ·exact hk.elim
noncomputable def adf:CPT:=aA 102 (dV [] UA) (aA 155 (jH NZ) (aA 156 (aB Ef) noC))
theorem BF:aU Tryz.prog adf:=aj (dh [] Z6) (aj (gJ Z5) (aj (au J6) aC))
theorem Q9:qV 0:=by
 intro c ls sum gv lim N U R h hlim hR hI;have hgl:=h.gl;have hNl:=hI.n.len;have hc:=h.c1;have hU:=gK hI.u;have tk:aiK (gv.length-0) (aiL 0 N)=N:=cK (by omega)
 have e0:((gv.length-0:Nat):Int)=gv.length:=by omega
 have hi:dF c ls sum gv∧GV c (aiK (gv.length-0) (aiL 0 N))∧0≤((gv.length-0:Nat):Int)∧((gv.length-0:Nat):Int)≤16:=⟨h,by rw[tk];exact hI.n,by omega,by omega⟩
 have eR:∀b,lU ls sum (aiK (gv.length-0) (aiL 0 N)) ((gv.length-0:Nat):Int)=b→lU ls sum N gv.length=b:=fun b hb=>by rwa [tk]at hb
 unfold nT;by_cases hc1:lim≤R.length∨lU ls sum N gv.length=false
 ·rw[if_pos hc1]
  refine bH (md:=1) (rf:=[]) mixed ak BF 3 [] Tryz.func103 (by rfl) (by rfl) (by rfl) ?_
  repeat'((conv=>whnf);first|(intro hq;(try simp only[vw]at hq);try first|exact absurd hq (by decide)|exfalso;omega)|apply aI|with_reducible exact vM rfl|exact⟨⟩|apply nM|apply fM)
  all_goals((try apply vM);(try simp only[vq]at*);try omega)
  all_goals(try first|exact hi|(exfalso;rename_i hq;have:=eR _ hq;rw[this]at hc1;simp at hc1;omega))
  all_goals skip
 ·rw[if_neg hc1]
  refine bH (md:=1) (rf:=[]) mixed ak BF 3 [] Tryz.func103 (by rfl) (by rfl) (by rfl) ?_
  repeat'((conv=>whnf);first|(intro hq;(try simp only[vw]at hq);try first|exact absurd hq (by decide)|exfalso;omega)|apply aI|with_reducible exact vM rfl|exact⟨⟩|apply nM|apply fM)
  all_goals((try apply vM);(try simp only[vq]at*);try omega)
  all_goals(try first|exact hi|(rw[tk];omega)|omega|(exfalso;omega)|(exfalso;rename_i hq;exact hc1 (.inr (eR _ hq))))
  repeat'((conv=>whnf);first|(intro hq;(try simp only[vw]at hq);try first|exact absurd hq (by decide)|exfalso;omega)|apply aI|with_reducible exact vM rfl|exact⟨⟩|apply nM|apply fM)
  all_goals((try apply vM);(try simp only[vq]at*);try omega)
  all_goals(rw[ahl,afY,afU];try omega)
noncomputable def afk (f:Nat):CPT:=aA 103 (dV [] (Ep f)) adf
theorem wO {f:Nat} (h:qV f):aU Tryz.prog (afk f):=aj (dh [] (GZ h)) BF
theorem UC {l:List Int} (h:InM l) {x:Int} (hx:0≤x∧x≤31):Bc (mk l) x=decide (x∈l):=by
 unfold Bc;rw[Qd h hx];by_cases hm:x∈l<;>simp[hm]
theorem UD {l:List Int} {x:Int} (h:x∉l):dP (l++[x]) x=l:=by
 unfold dP;rw[ai5,ajd.2 (fun y hy=>by simp;rintro rfl;exact h hy)]
 simp
theorem Ra {f:Nat} (ih:qV f):qV (f+1):=by
 intro c ls sum gv lim N U R h hlim hR hI;have hcp:=wO ih;have hgl:=h.gl;have hNl:=hI.n.len;have hc:=h.c1;have hU:=gK hI.u;have hfl:=hI.fl;have tk:aiK (gv.length-0) (aiL 0 N)=N:=cK (by omega)
 have e0:((gv.length-(f+1):Nat):Int)+1=((gv.length-f:Nat):Int):=by omega
 obtain⟨i,hi0⟩:∃i,gv.length-(f+1)=i:=⟨_,rfl⟩;have hii:i<gv.length:=by omega
 have hi:dF c ls sum gv∧GV c (aiK (gv.length-0) (aiL 0 N))∧0≤(i:Int)∧(i:Int)≤16:=⟨h,by rw[tk];exact hI.n,by omega,by omega⟩
 have eR:∀b,lU ls sum (aiK (gv.length-0) (aiL 0 N)) (i:Int)=b→lU ls sum N i=b:=fun b hb=>by rwa [tk]at hb
 have hI':SrI c gv f N U:=⟨hI.n,hI.u,by omega,fun j h1 h2 h3=>hI.z j (by omega) h2 h3⟩
 unfold nT;rw[hi0]at e0⊢;by_cases hc1:lim≤R.length∨lU ls sum N i=false
 ·rw[if_pos hc1]
  refine bH (md:=1) (rf:=[]) mixed ak (wO ih) 3 [] Tryz.func103 (by rfl) (by rfl) (by rfl) ?_
  repeat'((conv=>whnf);first|(intro hq;(try simp only[vw]at hq);try first|exact absurd hq (by decide)|exfalso;omega)|apply aI|with_reducible exact vM rfl|exact⟨⟩|apply nM|apply fM)
  all_goals((try apply vM);(try simp only[vq]at*);try omega)
  all_goals(try first|exact hi|(exfalso;omega)|(exfalso;have:=eR true (by assumption);rw[this]at hc1;simp at hc1;omega))
  all_goals skip
 rw[if_neg hc1];by_cases hg:0<gv.getD i 0
 ·rw[if_pos hg]
  refine bH (md:=1) (rf:=[]) mixed ak (wO ih) 3 [] Tryz.func103 (by rfl) (by rfl) (by rfl) ?_
  repeat'((conv=>whnf);first|refine Exists.intro (U) ?_|(intro hq;(try simp only[vw]at hq);try first|exact absurd hq (by decide)|exfalso;omega)|apply aI|with_reducible exact vM rfl|exact⟨⟩|apply nM|apply fM)
  all_goals((try apply vM);(try simp only[vq]at*);try omega)
  all_goals(try first|exact hi|(exfalso;omega)|(exfalso;rename_i hq;exact hc1 (.inr (eR _ hq)))|exact⟨rfl,rfl,rfl,e0,h,hlim,hR,hI'⟩|exact⟨e0,h,hlim,hR,hI'⟩|(exfalso;exact hq hg))
 rw[if_neg hg];refine bH (md:=1) (rf:=[]) mixed ak (wO ih) 3 [] Tryz.func103 (by rfl) (by rfl) (by rfl) ?_
 repeat'((conv=>whnf);first|(intro hq;(try simp only[vw]at hq);try first|exact absurd hq (by decide)|exfalso;omega)|apply aI|with_reducible exact vM rfl|exact⟨⟩|apply nM|apply fM)
 all_goals((try apply vM);(try simp only[vq]at*);try omega)
 all_goals(try first|exact hi|(exfalso;omega)|(exfalso;rename_i hq;exact hc1 (.inr (eR _ hq)))|(exfalso;exact hg hq))
 conv=>whnf
 have hz:=hI.z i (by omega) hii (by have:=h.gr _ (gu (d:=0) hii);omega)
 have hs0:∀v:Int,(N.set i v).set i 0=N:=fun v=>by
  rw[List.set_set];refine aiY (by simp) fun j h1 h2=>?_
  rw[aiZ];split
  ·rename_i e;subst e
   rw[agf,agl (by omega)]at hz
   exact hz.symm
  ·rfl
 obtain⟨F,hF⟩:∃F:List (List Int)→Nat→List (List Int),F=fun R (x:Nat)=>if((x:Int)+1)∈U then R else nT lim ls sum gv f R (N.set i ((x:Int)+1)) (U++[(x:Int)+1]):=⟨_,rfl⟩;have hFs:∀x,(agc (x+1)).foldl F R=F ((agc x).foldl F R) x:=fun x=>by rw[ai3,ait];rfl
 have hFl:∀x,((agc x).foldl F R).length≤256:=fun x=>GX _ _ hR fun R x hR=>by
  rw[hF];simp only;split
  ·exact hR
  ·exact GY (by omega) _ _ _ _ hR
 rw[←hF];refine aM (X:=Nat) (fun x=>x≤gv.length) (fun x=>[(4,.int .i64 ((x:Int)+1))]) (fun x=>[(0,.cells (srC c ls sum gv lim (.rsl 1 0 gv.length) ((mk U:Nat):Int) (.isl (.rows .i64 ((agc x).foldl F R)) (.own 2))) false),(2,.tok 1 ((agc x).foldl F R).length)]) (fun x=>gv.length-x) 0 ⟨aK,mixed,ak,hcp,aP⟩ (by rfl) (by omega) ?_ ?_
 ·repeat'((conv=>whnf);first|intro _|apply aI|with_reducible exact vM rfl|exact⟨⟩|apply nM|apply fM)
  all_goals((try apply vM);(try simp only[vq]at*);try omega)
  all_goals skip
 intro x hx;by_cases hlt:x<gv.length
 ·have hx31:0≤(x:Int)+1∧(x:Int)+1≤31:=by omega
  have hhas:=UC hI.u hx31;have hRx:=hFl x;have hFx:=hFs x;by_cases hm:((x:Int)+1)∈U
  ·rw[decide_eq_true hm]at hhas
   have hstep:F ((agc x).foldl F R) x=(agc x).foldl F R:=by rw[hF];exact if_pos hm
   rw[hstep]at hFx
   repeat'((conv=>whnf);first|refine Exists.intro (U) ?_|(intro hq;(try simp only[vw]at hq);try first|exact absurd hq (by decide)|exfalso;omega)|apply aI|with_reducible exact vM rfl|exact⟨⟩|apply nM|apply fM)
   all_goals((try apply vM);(try simp only[vq]at*);try omega)
   all_goals(try(exfalso;rw[hhas]at hq;cases hq;done))
   refine⟨x+1,[],⟨by omega,by omega⟩,?_⟩
   rw[hFx]
   repeat'((conv=>whnf);first|intro _|apply aI|with_reducible exact vM rfl|exact⟨⟩|apply nM|apply fM)
   all_goals((try apply vM);(try simp only[vq]at*);try omega)
   all_goals skip
  ·rw[decide_eq_false hm]at hhas
   have hstep:F ((agc x).foldl F R) x=nT lim ls sum gv f ((agc x).foldl F R) (N.set i ((x:Int)+1)) (U++[(x:Int)+1]):=by rw[hF];exact if_neg hm
   rw[hstep]at hFx;have hor:=MX hI.u hx31;have hU1:InM (U++[(x:Int)+1]):=fun y hy=>by
    rcases agh.1 hy with h|h
    ·exact hI.u y h
    ·simp at h;subst h;exact hx31
   have hdel:=qN hU1 hx31;rw[UD hm]at hdel;have hU1l:=gK hU1;have hI1:SrI c gv f (N.set i ((x:Int)+1)) (U++[(x:Int)+1]):=by
    refine⟨⟨by rw[agH];exact hNl,fun y hy=>?_⟩,hU1,by omega,fun j h1 h2 h3=>?_⟩
    ·rcases List.mem_or_eq_of_mem_set hy with h|rfl
     ·exact hI.n.rng y h
     ·omega
    ·have:=hI.z j (by omega) h2 h3
     rw[agf,agI (by omega),←agf];exact this
   have hsb:=kH ((x:Int)+1).toNat (by omega)
   have hR2:=GY (lim:=lim) (ls:=ls) (sum:=sum) (gv:=gv) (b:=256) (by omega) f _ (N.set i ((x:Int)+1)) (U++[(x:Int)+1]) hRx
   obtain⟨U1,hU1e⟩:∃U1,U1=U++[(x:Int)+1]:=⟨_,rfl⟩;rw[←hU1e]at hor hU1 hdel hU1l hI1 hR2 hFx
   repeat'((conv=>whnf);first|refine Exists.intro (U1) ?_|(intro hq;(try simp only[vw]at hq);try first|exact absurd hq (by decide)|exfalso;omega)|apply aI|with_reducible exact vM rfl|exact⟨⟩|apply nM|apply fM)
   all_goals((try apply vM);(try simp only[vq]at*);try omega)
   all_goals(try(exfalso;rw[hhas]at hq;cases hq;done))
   all_goals(try first|exact⟨hor,e0,h,hlim,hRx,hI1⟩|(rw[agH];omega))
   refine⟨x+1,[],⟨by omega,by omega⟩,?_⟩
   rw[hFx];have hs1:=hs0 ((x:Int)+1)
   repeat'((conv=>whnf);first|intro _|apply aI|with_reducible exact vM rfl|exact⟨⟩|apply nM|apply fM)
   all_goals((try apply vM);(try simp only[vq]at*);try omega)
   all_goals first|exact hdel|exact hs1|skip
 ·have e:x=gv.length:=by omega
  subst e
  repeat'((conv=>whnf);first|(intro hq;(try simp only[vw]at hq);try first|exact absurd hq (by decide)|exfalso;omega)|apply aI|with_reducible exact vM rfl|exact⟨⟩|apply nM|apply fM)
  all_goals((try apply vM);(try simp only[vq]at*);try omega)
  all_goals skip
theorem UE:∀f,qV f:=fun f=>by
 induction f with
 |zero=>exact Q9
 |succ f ih=>exact Ra ih
def zeN (l:List Int):Nat:=(l.filter fun x=>decide (x=0)).length
theorem Z7 (l:List Int) (x:Int):zeN (l++[x])=if x=0 then zeN l+1 else zeN l:=by
 unfold zeN;rw[ai5,ahl];by_cases h:x=0
 ·subst h;rfl
 ·rw[if_neg h,ai6,if_neg (by simpa using h)];rfl
theorem adg (l:List Int):zeN l≤l.length:=aiP _ _
def mM (lim:Int):Int:=if lim<0∨256<lim then 3 else 0
def Er (c:Int) (ls:List (List Int)) (sum:Int) (gv:List Int) (lim:Int):List (List Int) × Int:=
 if aJ [pzE c ls sum gv,mM lim]≠0 then([],aJ [pzE c ls sum gv,mM lim])else if 9<zeN gv then([],20)else(nT lim ls sum gv gv.length [] gv gv,0)
noncomputable def afl (n:Nat):CPT:=aA 22 (aB lS) (aA 88 (aB jf) (aA 89 (aB eG) (aA 102 (dV [] N7) (aA 103 (dV [] (Ep n)) noC))))
theorem Z8 (n:Nat):aU Tryz.prog (afl n):=aj (au kS) (aj (au iI) (aj (au iR) (aj (dh [] KF) (aj (dh [] (GZ (UE n))) aC))))
theorem Rb (e:Int):Sup (bE [PV.nils,PV.int .i64 e]) (.tup [.isl (.rows .i64 []) .none,.int .i64 e]):=by all_goals(refine Sup.via ?_;repeat'((conv=>whnf);first|intro _|apply aI|with_reducible exact vM rfl|exact⟨⟩|apply nM|apply fM);all_goals((try apply vM);(try simp only[vq]at*);try omega);all_goals(try(simp[CL.sub];done)))
theorem BG (c:Int) (ls:List (List Int)) (sum:Int) (gv:List Int) (lim:Int) (h:bK ls) (hg:gv.length≤5000):aF Tryz.prog 39 [pzV c ls sum gv,.int .i64 lim] (.tup [.isl (.rows .i64 (Er c ls sum gv lim).1) .none,.int .i64 (Er c ls sum gv lim).2]):=by
 have hcp:=Z8 gv.length;have hA:lim<0→3=mM lim:=fun hl=>by unfold mM;rw[if_pos (.inl hl)]
 have hB:¬lim<0→(if 256<lim then 3 else 0)=mM lim:=fun hl=>by
  unfold mM;by_cases h2:256<lim
  ·rw[if_pos h2,if_pos (.inr h2)]
  ·rw[if_neg h2,if_neg (by omega)]
 unfold Er;by_cases he:aJ [pzE c ls sum gv,mM lim]=0
 case neg=>
  rw[if_pos he];have hk:∀x,x=mM lim→Sup (bE [PV.nils,PV.int .i64 (aJ [pzE c ls sum gv,x])]) (.tup [.isl (.rows .i64 []) .none,.int .i64 (aJ [pzE c ls sum gv,mM lim])]):=fun x hx=>by rw[hx];exact Rb _
  have hk2:∀x,x=mM lim→aJ [pzE c ls sum gv,x]≠0:=fun x hx=>by rw[hx];exact he
  refine bF (md:=1) (rf:=[]) mixed ak hcp Tryz.func39 (by rfl) (by rfl) (by rfl) ?_
  repeat'((conv=>whnf);first|(intro hq;(try simp only[vw]at hq);try first|exact absurd hq (by decide)|exfalso;omega)|apply aI|with_reducible exact vM rfl|exact⟨⟩|apply nM|apply fM)
  all_goals((try apply vM);(try simp only[vq]at*);try omega)
  all_goals first|exact⟨h,hg⟩|exact hk _ (hB (by omega))|(rw[if_pos trivial];exact hk _ (hA (by omega)))|exact hk _ (hA (by omega))|(exfalso;exact ‹¬aJ [_,if 256<lim then 3 else 0]≠0› (hk2 _ (hB (by omega))))|(exfalso;exact ‹¬aJ [_,3]≠0› (hk2 _ (hA (by omega))))|skip
 rw[if_neg (by rw[he];simp)]
 obtain⟨h1,h2⟩:=GQ he;have hp:=dF.of h1;have hgl:=hp.gl;have hc:=hp.c1;have hl:0≤lim∧lim≤256:=by
  unfold mM at h2;by_cases e:lim<0∨256<lim
  ·rw[if_pos e]at h2;cases h2
  ·omega
 have hk2:∀x,x=mM lim→aJ [pzE c ls sum gv,x]=0:=fun x hx=>by rw[hx];exact he
 refine bF (md:=1) (rf:=[]) mixed ak hcp Tryz.func39 (by rfl) (by rfl) (by rfl) ?_
 repeat'((conv=>whnf);first|(intro hq;(try simp only[vw]at hq);try first|exact absurd hq (by decide)|exfalso;omega)|apply aI|with_reducible exact vM rfl|exact⟨⟩|apply nM|apply fM)
 all_goals((try apply vM);(try simp only[vq]at*);try omega)
 all_goals(try first|exact⟨h,hg⟩|(exfalso;omega)|(exfalso;exact ‹aJ [_,_]≠0› (hk2 _ (by unfold mM;(repeat' split)<;>first|rfl|(exfalso;omega)|(exfalso;exact absurd trivial ‹¬True›)))))
 conv=>whnf
 refine aM (X:=Nat) (fun k=>k≤gv.length) (fun k=>[(30,.int .i64 k),(7,.int .i64 (zeN (gv.take k):Nat))]) (fun k=>[]) (fun k=>gv.length-k) 0 ⟨aK,mixed,ak,hcp,aP⟩ (by rfl) (by omega) ?_ ?_
 ·repeat'((conv=>whnf);first|intro _|apply aI|with_reducible exact vM rfl|exact⟨⟩|apply nM|apply fM)
  all_goals((try apply vM);(try simp only[vq]at*);try omega)
  all_goals skip
 intro k hk;have hzl:=adg (gv.take k);rw[agU]at hzl;by_cases hlt:k<gv.length
 ·have hza:zeN (gv.take (k+1))=if gv.getD k 0=0 then zeN (gv.take k)+1 else zeN (gv.take k):=by rw[dZ hlt,Z7]
  repeat'((conv=>whnf);first|(intro hq;(try simp only[vw]at hq);try first|exact absurd hq (by decide)|exfalso;omega)|apply aI|with_reducible exact vM rfl|exact⟨⟩|apply nM|apply fM)
  all_goals((try apply vM);(try simp only[vq]at*);try omega)
  all_goals(try omega)
  ·refine⟨k+1,[],⟨by omega,by omega⟩,?_⟩
   rw[hza,if_pos ‹gv.getD k 0=0›]
   repeat'((conv=>whnf);first|intro _|apply aI|with_reducible exact vM rfl|exact⟨⟩|apply nM|apply fM)
   all_goals((try apply vM);(try simp only[vq]at*);try omega)
   all_goals skip
  ·refine⟨k+1,[],⟨by omega,by omega⟩,?_⟩
   rw[hza,if_neg ‹¬gv.getD k 0=0›]
   repeat'((conv=>whnf);first|intro _|apply aI|with_reducible exact vM rfl|exact⟨⟩|apply nM|apply fM)
   all_goals((try apply vM);(try simp only[vq]at*);try omega)
   all_goals skip
 have e:k=gv.length:=by omega
 subst e;rw[ah6]at*;by_cases hz9:9<zeN gv
 ·rw[if_pos hz9]
  repeat'((conv=>whnf);first|(intro hq;(try simp only[vw]at hq);try first|exact absurd hq (by decide)|exfalso;omega)|apply aI|with_reducible exact vM rfl|exact⟨⟩|apply nM|apply fM)
  all_goals((try apply vM);(try simp only[vq]at*);try omega)
  all_goals first|exact Rb _|(exfalso;omega)|skip
 rw[if_neg hz9]
 repeat'((conv=>whnf);first|(intro hq;(try simp only[vw]at hq);try first|exact absurd hq (by decide)|exfalso;omega)|apply aI|with_reducible exact vM rfl|exact⟨⟩|apply nM|apply fM)
 all_goals((try apply vM);(try simp only[vq]at*);try omega)
 all_goals(try omega)
 conv=>whnf
 refine aM (X:=Nat) (fun k=>k≤gv.length) (fun k=>[(51,.int .i64 k)]) (fun k=>[(18,.cells (srC c ls sum gv lim (.rsl 14 0 gv.length) ((mk (gv.take k):Nat):Int) (.isl (.rows .i64 []) (.own 22))) false),(22,.tok 1 0)]) (fun k=>gv.length-k) 0 ⟨aK,mixed,ak,hcp,aP⟩ (by rfl) (by omega) ?_ ?_
 ·repeat'((conv=>whnf);first|intro _|apply aI|with_reducible exact vM rfl|exact⟨⟩|apply nM|apply fM)
  all_goals((try apply vM);(try simp only[vq]at*);try omega)
  all_goals first|rfl|skip
 intro k hk;have hInM:∀j,InM (gv.take j):=fun j y hy=>by have:=hp.gr y (List.mem_of_mem_take hy);omega
 have hmk:=gK (hInM k);by_cases hlt:k<gv.length
 ·have hx:=hp.gr (gv.getD k 0) (gu hlt)
  have hsb:=kH (gv.getD k 0).toNat (by omega)
  have hor:=MX (hInM k) (show 0≤gv.getD k 0∧gv.getD k 0≤31 by omega)
  rw[←dZ hlt]at hor
  repeat'((conv=>whnf);first|(intro hq;(try simp only[vw]at hq);try first|exact absurd hq (by decide)|exfalso;omega)|apply aI|with_reducible exact vM rfl|exact⟨⟩|apply nM|apply fM)
  all_goals((try apply vM);(try simp only[vq]at*);try omega)
  all_goals(try omega)
  refine⟨k+1,[],⟨by omega,by omega⟩,?_⟩
  repeat'((conv=>whnf);first|intro _|apply aI|with_reducible exact vM rfl|exact⟨⟩|apply nM|apply fM)
  all_goals((try apply vM);(try simp only[vq]at*);try omega)
  all_goals exact hor
 have e:k=gv.length:=by omega
 subst e;rw[ah6]at*;have e0:(0:Int)=((gv.length-gv.length:Nat):Int):=by omega
 have hI:SrI c gv gv.length gv gv:=⟨⟨by omega,fun x hx=>by have:=hp.gr x hx;omega⟩,fun x hx=>by have:=hp.gr x hx;omega,af3 _,fun j _ _ h=>h⟩
 repeat'((conv=>whnf);first|refine Exists.intro (gv) ?_|(intro hq;(try simp only[vw]at hq);try first|exact absurd hq (by decide)|exfalso;omega)|apply aI|with_reducible exact vM rfl|exact⟨⟩|apply nM|apply fM)
 all_goals((try apply vM);(try simp only[vq]at*);try omega)
 ·exact⟨e0,hp,hl.2,by omega,hI⟩
 ·exact Sup.of rfl
def adh (C1 C2:CT):CT:=fun args n H K=>∃b:Bool,match b with
 |true=>C1 args n H K
 |false=>C2 args n H K
theorem Z9 {P:Program} {g:FuncId} {C1 C2:CT} (h1:COK P g C1) (h2:COK P g C2):COK P g (adh C1 C2):=by
 intro args n H K hk;obtain⟨b,hk⟩:=hk;cases b with
 |true=>exact h1 _ _ _ _ hk
 |false=>exact h2 _ _ _ _ hk
noncomputable def afm:CPT:=aA 102 (adh (dV [] N7) (aB Uz)) noC
theorem KG:aU Tryz.prog afm:=aj (Z9 (dh [] KF) (au ade)) aC
theorem xA (c:Int) (ls:List (List Int)) (sum:Int) (gv:List Int) (hg:1≤gv.length∧gv.length≤1000000) (hl:ls.length≤5000) (hn:∀i,i<ls.length→1≤(ls.getD i []).length∧(ls.getD i []).length≤5000):
 iM Tryz.prog 124 [pzV c ls sum gv] [] [.agg [.int .i64 c,.isl (.rows .i64 ls) .none,.int .i64 sum,.rsl 0 0 gv.length]] [.cells (.ints .i64 gv) false]:=by
 refine bH (md:=1) (rf:=[]) mixed ak KG 0 [(2,0)] Tryz.func124 (by rfl) (by rfl) (by rfl) ?_
 repeat'((conv=>whnf);first|refine Exists.intro (true) ?_|(intro hq;(try simp only[vw]at hq);try first|exact absurd hq (by decide)|exfalso;omega)|apply aI|with_reducible exact vM rfl|exact⟨⟩|apply nM|apply fM)
 all_goals((try apply vM);(try simp only[vq]at*);try omega)
 conv=>whnf
 refine aM (X:=Nat) (fun k=>k≤ls.length) (fun k=>[(20,.int .i64 k)]) (fun k=>[(6,.cells (.pv [.int .i64 c,.isl (.rows .i64 (ls.take k)) (.own 12),.int .i64 sum,.rsl 2 0 gv.length]) false),(12,.tok 1 k)]) (fun k=>ls.length-k) 0 ⟨aK,mixed,ak,KG,aP⟩ (by rfl) (by omega) ?_ ?_
 ·repeat'((conv=>whnf);first|intro _|apply aI|with_reducible exact vM rfl|exact⟨⟩|apply nM|apply fM)
  all_goals((try apply vM);(try simp only[vq]at*);try omega)
  all_goals skip
 intro k hk;by_cases hlt:k<ls.length
 ·have hl1:=hn k hlt
  have e1:(ls.take k).length=k:=by rw[agU];omega
  have e2:ls.take k++[ls.getD k []]=ls.take (k+1):=by
   rw[ah4,agf,agl hlt];rfl
  repeat'((conv=>whnf);first|refine Exists.intro (false) ?_|(intro hq;(try simp only[vw]at hq);try first|exact absurd hq (by decide)|exfalso;omega)|apply aI|with_reducible exact vM rfl|exact⟨⟩|apply nM|apply fM)
  all_goals((try apply vM);(try simp only[vq]at*);try omega)
  all_goals(try(simp only[ahl,agU,afY,afU];omega))
  all_goals(try omega)
  refine⟨k+1,[],⟨by omega,by omega⟩,?_⟩
  repeat'((conv=>whnf);first|intro _|apply aI|with_reducible exact vM rfl|exact⟨⟩|apply nM|apply fM)
  all_goals((try apply vM);(try simp only[vq]at*);try omega)
  all_goals(try(rw[e2]))
 ·have e:k=ls.length:=by omega
  subst e;rw[ah6]
  repeat'((conv=>whnf);first|(intro hq;(try simp only[vw]at hq);try first|exact absurd hq (by decide)|exfalso;omega)|apply aI|with_reducible exact vM rfl|exact⟨⟩|apply nM|apply fM)
  all_goals((try apply vM);(try simp only[vq]at*);try omega)
  all_goals skip
theorem Rf (L0:List Int) (hl:L0.length≤1000000):mY Tryz.prog 231 [] [.ip (.pv [.isl (.ints .i64 L0) .none]) 0] 1 (L0.map (PV.int .i64)):=by
 refine kQ (md:=1) (rf:=[]) mixed ak Tryz.func231 (by rfl) (by rfl) (by rfl) fun G go b hY=>⟨_,aC,?_⟩
 obtain⟨L,hL⟩:∃L,L=L0.map (PV.int .i64):=⟨_,rfl⟩;have hlen:L.length=L0.length:=by simp[hL]
 have hget:∀i,i<L0.length→L[i]? =some (.int .i64 (L0.getD i 0)):=fun i hi=>by simp[hL,hi]
 rw[←hL]at hY⊢;have W:Walk Tryz.prog none j5 tab.get noC (sj b 1 G go L):=⟨aK,mixed,ak,aC,hY _ _⟩;have stop:∀i,i<L0.length→GoTo go L i→go (L.take i++[.int .i64 (L0.getD i 0)])=false→L.take i++[.int .i64 (L0.getD i 0)]=iy go [] L:=fun i hi hg h=>by
  rw[dS (hget i hi)]at h⊢;rw[uP (by omega) hg h]
 have cont:∀i,i<L0.length→GoTo go L i→go (L.take i++[.int .i64 (L0.getD i 0)])=true→GoTo go L (i+1):=fun i hi hg h=>hg.succ (by rw[←dS (hget i hi)];exact h)
 have done:GoTo go L L0.length→L.take L0.length=iy go [] L:=fun hg=>by rw[xS (by omega) hg,←hlen];simp
 repeat'((conv=>whnf);first|intro _|apply aI|with_reducible exact vM rfl|exact⟨⟩|apply nM|apply fM)
 all_goals((try apply vM);(try simp only[vq]at*);try omega)
 conv=>whnf
 refine aM (X:=Nat) (fun k=>k≤L0.length∧GoTo go L k) (fun k=>[(7,.int .i64 k),(4,.any)]) (fun k=>[(0,.ext G (L.take k))]) (fun k=>L0.length-k) 0 W (by rfl) ⟨by omega,.zero⟩ ?_ ?_
 ·repeat'((conv=>whnf);first|intro _|apply aI|with_reducible exact vM rfl|exact⟨⟩|apply nM|apply fM)
  all_goals((try apply vM);(try simp only[vq]at*);try omega)
  all_goals simp
 intro k hk;obtain⟨hk1,hk3⟩:=hk;by_cases hlt:k<L0.length
 ·repeat'((conv=>whnf);first|intro _|apply aI|with_reducible exact vM rfl|exact⟨⟩|apply nM|apply fM)
  all_goals((try apply vM);(try simp only[vq]at*);try omega)
  ·exact P6 (hget k hlt) hk3
  ·exact stop k hlt hk3 (by simp_all)
  ·rename_i hgo
   refine⟨k+1,[],⟨⟨by omega,cont k hlt hk3 (by simpa using hgo)⟩,by omega⟩,?_⟩
   repeat'((conv=>whnf);first|intro _|apply aI|with_reducible exact vM rfl|exact⟨⟩|apply nM|apply fM)
   all_goals((try apply vM);(try simp only[vq]at*);try omega)
   exact dS (hget k hlt)
 ·have:L0.length=k:=by omega
  subst this
  repeat'((conv=>whnf);first|intro _|apply aI|with_reducible exact vM rfl|exact⟨⟩|apply nM|apply fM)
  all_goals((try apply vM);(try simp only[vq]at*);try omega)
  exact done hk3
def hsA (L:List Int):Nat→List (Nat × AO)
 |0=>[]
 |i+1=>[(0,.cells (.pv [.rsl 5 0 (i+1)]) false),(5,.cells (.ints .i64 (L.take (i+1))) false)]
theorem BH (L:List Int) (hl:1≤L.length∧L.length≤1000000):iM Tryz.prog 188 [.nils,.fn (.func 231) [] [.ip (.pv [.isl (.ints .i64 L) .none]) 0]] [] [.rsl 0 0 L.length] [.cells (.ints .i64 L) false]:=by
 refine bH (md:=1) (rf:=[11]) mixed ak aC 0 [(5,0)] Tryz.func188 (by rfl) (by rfl) (by rfl) ?_
 repeat'((conv=>whnf);first|intro _|apply aI|with_reducible exact vM rfl|exact⟨⟩|apply nM|apply fM)
 all_goals((try apply vM);(try simp only[vq]at*);try omega)
 conv=>whnf
 refine iO aK mixed ak aC (fun r=>aP) (fs:=[]) (cs:=[.ip (.pv [.isl (.ints .i64 L) .none]) 0]) (L.map (PV.int .i64)) (fun _=>true) (hsA L) (by rfl) (by rfl) (by rfl) (Rf L hl.2) (by rfl) (by rfl) (by rfl) (by rfl) ?_ ?_ ?_
 ·repeat'((conv=>whnf);first|intro _|apply aI|with_reducible exact vM rfl|exact⟨⟩|apply nM|apply fM)
  all_goals((try apply vM);(try simp only[vq]at*);try omega)
 ·intro hall
  obtain⟨m,hm⟩:∃m,L.length=m+1:=⟨L.length-1,by omega⟩
  have ht:L.take (m+1)=L:=by rw[←hm,ah6]
  rw[ah2,hm]
  repeat'((conv=>whnf);first|intro _|apply aI|with_reducible exact vM rfl|exact⟨⟩|apply nM|apply fM)
  all_goals((try apply vM);(try simp only[vq]at*);try omega)
  all_goals(try rw[ht])
 ·intro i x hx hall lp
  have hx':i<L.length∧x=.int .i64 (L.getD i 0):=by
   rw[ag2]at hx;cases h:L[i]? with
   |none=>rw[h]at hx;cases hx
   |some y=>
    rw[h]at hx;cases hx
    have:=(List.getElem?_eq_some_iff.1 h).1;exact⟨this,by rw[agf,h];rfl⟩
  obtain⟨hi,rfl⟩:=hx';cases i with
  |zero=>
   have e1:[L.getD 0 0]=L.take 1:=by
    cases L with
    |nil=>simp at hi
    |cons a r=>rfl
   repeat'((conv=>whnf);first|intro _|apply aI|with_reducible exact vM rfl|exact⟨⟩|apply nM|apply fM)
   all_goals((try apply vM);(try simp only[vq]at*);try omega)
   refine⟨[(2,5)],?_⟩
   repeat'((conv=>whnf);first|intro _|apply aI|with_reducible exact vM rfl|exact⟨⟩|apply nM|apply fM)
   all_goals((try apply vM);(try simp only[vq]at*);try omega)
   all_goals(try(rw[e1]))
  |succ i=>
   have e1:(L.take (i+1)).length=i+1:=by rw[agU];omega
   have e2:aiK (i+1-0) (aiL 0 (aiK (i+1) L))++[L.getD (i+1) 0]=L.take (i+1+1):=by
    rw[aiM,aiN,List.take_take,Nat.min_self,ah4 (i:=i+1),agf,agl hi];rfl
   repeat'((conv=>whnf);first|intro _|apply aI|with_reducible exact vM rfl|exact⟨⟩|apply nM|apply fM)
   all_goals((try apply vM);(try simp only[vq]at*);try omega)
   all_goals(try(rw[agU];omega))
   refine⟨[(2,5)],?_⟩
   repeat'((conv=>whnf);first|intro _|apply aI|with_reducible exact vM rfl|exact⟨⟩|apply nM|apply fM)
   all_goals((try apply vM);(try simp only[vq]at*);try omega)
   all_goals(try(rw[e2]))
def N8:LSp:=fun xs objs K=>match xs,objs with
 | [.nils,.fn (.func f) [] [.ip (.pv [.isl (.ints .i64 L) .none]) 0]],[]=>VC (f=231∧1≤L.length∧L.length≤1000000)∧K [.rsl 0 0 L.length] [.cells (.ints .i64 L) false]
 |_,_=>False
theorem aac:LOK Tryz.prog 188 N8:=by
 intro xs objs K hk;unfold N8 at hk;split at hk
 ·obtain⟨⟨rfl,h⟩,hk⟩:=hk
  exact⟨_,_,hk,BH _ h⟩
 ·exact hk.elim
def G5:LSp:=fun xs objs K=>match xs,objs with
 | [.fn (.func f) [] [.ip (.pv [.isl (.ints .i64 L) .none]) 0]],[]=>VC (f=231∧1≤L.length∧L.length≤1000000)∧K [.rsl 0 0 L.length] [.cells (.ints .i64 L) false]
 |_,_=>False
noncomputable def afn:CPT:=aA 188 (dV [] N8) noC
theorem aad:aU Tryz.prog afn:=aj (dh [] aac) aC
theorem G6 (L:List Int) (hl:1≤L.length∧L.length≤1000000):iM Tryz.prog 148 [.fn (.func 231) [] [.ip (.pv [.isl (.ints .i64 L) .none]) 0]] [] [.rsl 0 0 L.length] [.cells (.ints .i64 L) false]:=by
 refine bH (md:=1) (rf:=[]) mixed ak aad 0 [(0,0)] Tryz.func148 (by rfl) (by rfl) (by rfl) ?_
 repeat'((conv=>whnf);first|intro _|apply aI|with_reducible exact vM rfl|exact⟨⟩|apply nM|apply fM)
 all_goals((try apply vM);(try simp only[vq]at*);try omega)
 all_goals trace_state
theorem UF:LOK Tryz.prog 148 G5:=by
 intro xs objs K hk;unfold G5 at hk;split at hk
 ·obtain⟨⟨rfl,h⟩,hk⟩:=hk
  exact⟨_,_,hk,G6 _ h⟩
 ·exact hk.elim
theorem aae:COK Tryz.prog 219 qK:=CS (enters' Tryz.func219 (by rfl) (by rfl)) Go.Proofs.Tryz.slices_Sort_int
noncomputable def afo:CPT:=aA 148 (dV [] G5) (aA 219 qK noC)
theorem aaf:aU Tryz.prog afo:=aj (dh [] UF) (aj aae aC)
theorem Ju (L:List Int) (hl:1≤L.length∧L.length≤1000000):aF Tryz.prog 204 [.fn (.func 231) [] [.ip (.pv [.isl (.ints .i64 L) .none]) 0]] (.isl (.ints .i64 (bV L)) .none):=by
 have e:=jG L;refine av (md:=1) (rf:=[]) mixed ak aaf Tryz.func204 (by rfl) (by rfl) (by rfl) ?_
 repeat'((conv=>whnf);first|intro _|apply aI|with_reducible exact vM rfl|exact⟨⟩|apply nM|apply fM)
 all_goals((try apply vM);(try simp only[vq]at*);try omega)
 all_goals(refine Sup.via ?_;repeat'((conv=>whnf);first|intro _|apply aI|with_reducible exact vM rfl|exact⟨⟩|apply nM|apply fM);all_goals((try apply vM);(try simp only[vq]at*);try omega);all_goals(try(simp[CL.sub];done)))
 all_goals(simp only[CL.sub,aiM,aiN];rw[ai2 (by omega)])
def BI:PSp:=fun xs K=>match xs with
 | [.fn (.func f) [] [.ip (.pv [.isl (.ints .i64 L) .none]) 0]]=>VC (f=231∧1≤L.length∧L.length≤1000000)∧K (.isl (.ints .i64 (bV L)) .none)
 |_=>False
theorem Rh:POK Tryz.prog 204 BI:=by
 intro xs K hk;unfold BI at hk;split at hk
 ·obtain⟨⟨rfl,h⟩,hk⟩:=hk
  exact⟨_,hk,Ju _ h⟩
 ·exact hk.elim
theorem Jv (l:CL):aF Tryz.prog 205 [.isl l .none] (.fn (.func 231) [] [.ip (.pv [.isl l .none]) 0]):=by
 refine av (md:=1) (rf:=[]) mixed ak aC Tryz.func205 (by rfl) (by rfl) (by rfl) ?_
 repeat'((conv=>whnf);first|intro _|apply aI|with_reducible exact vM rfl|exact⟨⟩|apply nM|apply fM)
 all_goals((try apply vM);(try simp only[vq]at*);try omega)
 all_goals exact Sup.of rfl
def BJ:PSp:=fun xs K=>match xs with
 | [.isl c .none]=>K (.fn (.func 231) [] [.ip (.pv [.isl c .none]) 0])
 |_=>False
theorem Ri:POK Tryz.prog 205 BJ:=by
 intro xs K hk;unfold BJ at hk;split at hk
 ·exact⟨_,hk,Jv _⟩
 ·exact hk.elim
def mO (l:List Int):Bool:=(agc l.length).all fun i=>decide ((bV l).getD i 0=(i:Int)+1)
theorem Rj {l:List Int} (h:∀i,i<l.length→(bV l).getD i 0=(i:Int)+1):mO l=true:=ahD.2 fun i hi=>by simpa using h i (by simpa using hi)
theorem Oa {l:List Int} {i:Nat} (hi:i<l.length) (hh:(bV l).getD i 0≠(i:Int)+1):mO l=false:=by
 refine Bool.eq_false_iff.2 fun e=>hh ?_;simpa using ahD.1 e i (by simpa using hi)
noncomputable def afp:CPT:=aA 204 (aB BI) (aA 205 (aB BJ) noC)
theorem KH:aU Tryz.prog afp:=aj (au Rh) (aj (au Ri) aC)
theorem Ob (l:List Int) (hl:1≤l.length∧l.length≤1000000):aF Tryz.prog 167 [.isl (.ints .i64 l) .none] (.bp (mO l)):=by
 have e:=jG l;refine av (md:=1) (rf:=[]) mixed ak KH Tryz.func167 (by rfl) (by rfl) (by rfl) ?_
 repeat'((conv=>whnf);first|intro _|apply aI|with_reducible exact vM rfl|exact⟨⟩|apply nM|apply fM)
 all_goals((try apply vM);(try simp only[vq]at*);try omega)
 conv=>whnf
 refine aM (X:=Nat) (fun i=>i≤l.length∧∀j,j<i→(bV l).getD j 0=(j:Int)+1) (fun i=>[(9,.int .i64 i),(3,.any),(4,.any)]) (fun i=>[]) (fun i=>l.length-i) 0 ⟨aK,mixed,ak,KH,aP⟩ (by rfl) ⟨by omega,fun j hj=>by omega⟩ ?_ ?_
 ·repeat'((conv=>whnf);first|intro _|apply aI|with_reducible exact vM rfl|exact⟨⟩|apply nM|apply fM)
  all_goals((try apply vM);(try simp only[vq]at*);try omega)
 intro i hi;obtain⟨hi,hall⟩:=hi;by_cases hlt:i<l.length
 ·repeat'((conv=>whnf);first|intro _|apply aI|with_reducible exact vM rfl|exact⟨⟩|apply nM|apply fM)
  all_goals((try apply vM);(try simp only[vq]at*);try omega)
  ·rename_i hq
   rw[Oa hlt hq];all_goals(refine Sup.via ?_;repeat'((conv=>whnf);first|intro _|apply aI|with_reducible exact vM rfl|exact⟨⟩|apply nM|apply fM);all_goals((try apply vM);(try simp only[vq]at*);try omega);all_goals(try(simp[CL.sub];done)))
  ·rename_i hq
   have hq:=agY.1 hq;refine⟨i+1,[],⟨⟨by omega,fun j hj=>?_⟩,by omega⟩,?_⟩
   ·by_cases e:j=i
    ·subst e;exact hq
    ·exact hall j (by omega)
   repeat'((conv=>whnf);first|intro _|apply aI|with_reducible exact vM rfl|exact⟨⟩|apply nM|apply fM)
   all_goals((try apply vM);(try simp only[vq]at*);try omega)
 ·have:l.length=i:=by omega
  subst this
  repeat'((conv=>whnf);first|intro _|apply aI|with_reducible exact vM rfl|exact⟨⟩|apply nM|apply fM)
  all_goals((try apply vM);(try simp only[vq]at*);try omega)
  rw[Rj hall];all_goals(refine Sup.via ?_;repeat'((conv=>whnf);first|intro _|apply aI|with_reducible exact vM rfl|exact⟨⟩|apply nM|apply fM);all_goals((try apply vM);(try simp only[vq]at*);try omega);all_goals(try(simp[CL.sub];done)))
def G7:PSp:=fun xs K=>match xs with
 | [.isl (.ints .i64 l) .none]=>VC (1≤l.length∧l.length≤1000000)∧K (.bp (mO l))
 |_=>False
theorem UG:POK Tryz.prog 167 G7:=by
 intro xs K h;unfold G7 at h;split at h
 ·exact⟨_,h.2,Ob _ h.1.get⟩
 ·exact h.elim
def cfE (l:List Int):Int:=aJ [if l.length=0 then 12 else 0,if 256<l.length then 5 else 0,sM l]
noncomputable def afq:CPT:=aA 193 (aB oG) (aA 195 (aB eG) (aA 203 (aB sN) noC))
theorem aag:aU Tryz.prog afq:=aj (au qj) (aj (au pF) (aj (au zM) aC))
theorem aah (l:List Int) (hl:l.length≤1000000):aF Tryz.prog 166 [.isl (.ints .i64 l) .none] (.int .i64 (cfE l)):=by
 unfold cfE;refine av (md:=1) (rf:=[]) mixed ak aag Tryz.func166 (by rfl) (by rfl) (by rfl) ?_
 repeat'((conv=>whnf);first|(intro hq;(try simp only[vw]at hq);try first|exact absurd hq (by decide)|exfalso;omega)|apply aI|with_reducible exact vM rfl|exact⟨⟩|apply nM|apply fM)
 all_goals((try apply vM);(try simp only[vq]at*);try omega)
 all_goals first|omega|(refine Sup.of (congrArg (PV.int .i64) ?_);(repeat' split)<;>first|rfl|(exfalso;omega))|skip
def cfP:PSp:=fun xs K=>match xs with
 | [.isl (.ints .i64 l) .none]=>VC (l.length≤1000000)∧K (.int .i64 (cfE l))
 |_=>False
theorem ad7:POK Tryz.prog 166 cfP:=by
 intro xs K h;unfold cfP at h;split at h
 ·exact⟨_,h.2,aah _ h.1.get⟩
 ·exact h.elim
noncomputable def afr:CPT:=aA 166 (aB cfP) (aA 167 (aB G7) noC)
theorem KI:aU Tryz.prog afr:=aj (au ad7) (aj (au UG) aC)
def iU (l:List Int):Bool × Int:=if cfE l≠0 then(false,cfE l)else(mO l,0)
theorem DU (l:List Int) (hl:l.length≤1000000):aF Tryz.prog 121 [.isl (.ints .i64 l) .none] (.tup [.bp (iU l).1,.int .i64 (iU l).2]):=by
 unfold iU;by_cases he:cfE l=0
 ·have h1:1≤l.length:=by
   by_cases e:l.length=0
   ·unfold cfE at he;rw[if_pos e]at he;simp[aJ]at he
   ·omega
  rw[if_neg (by rw[he];simp)]
  refine av (md:=1) (rf:=[]) mixed ak KI Tryz.func121 (by rfl) (by rfl) (by rfl) ?_
  repeat'((conv=>whnf);first|(intro hq;(try simp only[vw]at hq);try first|exact absurd hq (by decide)|exfalso;omega)|apply aI|with_reducible exact vM rfl|exact⟨⟩|apply nM|apply fM)
  all_goals((try apply vM);(try simp only[vq]at*);try omega)
  all_goals first|exact hl|exact⟨h1,hl⟩|exact Sup.of rfl|(exfalso;exact hq he)|skip
 ·rw[if_pos he]
  refine av (md:=1) (rf:=[]) mixed ak KI Tryz.func121 (by rfl) (by rfl) (by rfl) ?_
  repeat'((conv=>whnf);first|(intro hq;(try simp only[vw]at hq);try first|exact absurd hq (by decide)|exfalso;omega)|apply aI|with_reducible exact vM rfl|exact⟨⟩|apply nM|apply fM)
  all_goals((try apply vM);(try simp only[vq]at*);try omega)
  all_goals first|exact hl|exact adb _ _|(exfalso;exact hq he)|skip
def vH:PSp:=fun xs K=>match xs with
 | [.isl (.ints .i64 l) .none]=>VC (l.length≤1000000)∧K (.tup [.bp (iU l).1,.int .i64 (iU l).2])
 |_=>False
theorem Jw:POK Tryz.prog 121 vH:=by
 intro xs K h;unfold vH at h;split at h
 ·exact⟨_,h.2,DU _ h.1.get⟩
 ·exact h.elim
end Go.Eng.YtcechbdgokjmgaaGreatDoor
