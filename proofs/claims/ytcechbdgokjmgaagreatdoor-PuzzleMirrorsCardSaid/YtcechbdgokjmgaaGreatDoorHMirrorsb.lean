/- Contracts of functions of the program: what each returns. Their conditions stand in them. -/
import Derived.Test.YtcechbdgokjmgaaGreatDoorHMirrorsa
open Array renaming length_toList→ais
open Bool renaming and_eq_true→aia,not_eq_true'→akU,or_false→akV
open Classical renaming propDecidable→akB,not_not→aiK
open Int renaming toNat→akf,one_mul→ajY,toNat_natCast→aiV
open List renaming length_map→ajO,mem_cons_self→ajM,mem_cons_of_mem→ajx,all_eq_true→ajp,mem_map→akC,isPrefixOf→akD,toArray→akE,size_toArray→ajE,length_drop→akF,take_add_one→ajQ,getElem?_eq_getElem→ah4,getD_eq_getElem?_getD→ahZ,take→akt,take_length→ajS,mem_cons→ajg,getElem_mem→akd,drop→aku,map_append→ajR,length_take→aiG,length_append→ai7,length_cons→ahK,length_nil→ahG,range→ahX,ext_getElem→akH,getElem_set→akI,getElem_map→akJ,getElem_range→akK,take_of_length_le→akL,range_succ→akM,flatMap_append→akN,filter_append→akO,filter_cons→akP,filter_nil→akQ,map_cons→ajN,append_assoc→akR,append_nil→ajL,map_flatMap→akS,mem_flatMap→akT,mem_range→ajF,mem_filter→aj2,getElem?_map→aiO,mem_append→ah0,mem_singleton→akx,drop_zero→akv,filter_eq_self→akW,getElem?_set_ne→aiu,getElem_set_ne→akX,set_cons_succ→akY,length_filter_le→aky,getElem_of_mem→ah3,foldl_append→akc,length_set→ait
open Nat renaming lt_succ_iff_lt_or_eq→akG,le_refl→ahO,sub_zero→akw
namespace Go.Eng.YtcechbdgokjmgaaGreatDoor
open Go.Proofs Go.RowKit
set_option linter.unusedSimpArgs false
set_option linter.unusedVariables false
set_option maxHeartbeats 0
set_option maxRecDepth 100000
abbrev kMi:ByteArray:=⟨#[45]⟩
abbrev kZe:ByteArray:=⟨#[48]⟩
def dgI (x:Int):Bool:=decide (48≤x)&&decide (x≤57)
structure FmB (z:ByteArray):Prop where
 n0:0<z.size
 n9:z.size≤9
 z0:z.size=1∨((z.data.getD 0 0).toNat:Int)≠48
def Di (z:ByteArray):Prop:=FmB z∧(dK z).all dgI=true
noncomputable instance (z:ByteArray):Decidable (Di z):=akB _
def Pt (s:ByteArray) (sg:Bool):Prop:=preB s kMi=true∧(sg=false∨kU s kMi=kZe)
noncomputable instance (s:ByteArray) (sg:Bool):Decidable (Pt s sg):=akB _
noncomputable def gD (s:ByteArray) (sg:Bool):Option Int:=if Di (kU s kMi)∧¬Pt s sg then Go.Lib.atoi s.data.toList else none
theorem Im (z:ByteArray):(dK z).length=z.size:=by unfold dK;rw[ajO,ais];rfl
theorem Io:∀(l:List UInt8) (acc:Nat),(∀b∈l,48≤b.toNat∧b.toNat≤57)→∃n,Go.Lib.decFrom acc l=some n:=by
 intro l;induction l with
 |nil=>intro acc _;exact⟨acc,rfl⟩
 |cons b r ih=>
  intro acc h;have hb:=h b (ajM ..);have hd:∃d,Go.Lib.digitVal b=some d:=by
   unfold Go.Lib.digitVal;rw[if_pos hb];exact⟨_,rfl⟩
  obtain⟨d,hd⟩:=hd;unfold Go.Lib.decFrom;rw[hd];exact ih _ fun x hx=>h x (ajx _ hx)
theorem decNat_some {l:List UInt8} (hl:l≠[]) (h:∀b∈l,48≤b.toNat∧b.toNat≤57):∃n,Go.Lib.decNat l=some n:=by
 unfold Go.Lib.decNat;rw[if_neg (by simpa using hl)]
 exact Io l 0 h
theorem aby {z:ByteArray} (h:Di z):z.data.toList≠[]∧∀b∈z.data.toList,48≤b.toNat∧b.toNat≤57:=by
 obtain⟨h1,h2⟩:=h;refine⟨fun e=>?_,fun b hb=>?_⟩
 ·have:=h1.n0
  rw[←Im]at this;unfold dK at this;rw[e]at this;exact absurd this (by decide)
 ·rw[ajp]at h2
  have:=h2 (b.toNat:Int) (akC.2 ⟨b,hb,rfl⟩);unfold dgI at this;rw[aia,decide_eq_true_eq,decide_eq_true_eq]at this;omega
theorem VJ {s:ByteArray} (h:Di (kU s kMi)):∃n,Go.Lib.atoi s.data.toList=some n:=by
 have hd:=aby h;unfold kU Go.Lib.trimPrefix at hd;cases hl:s.data.toList with
 |nil=>rw[hl]at hd;exact absurd rfl hd.1
 |cons b r=>
  rw[hl]at hd;unfold Go.Lib.atoi;by_cases e:b=45
  ·subst e
   rw[if_pos (by simp[Go.Lib.hasPrefix,akD])]at hd
   obtain⟨n,hn⟩:=decNat_some (l:=r) hd.1 hd.2;exact⟨-(n:Int),by simp[hn]⟩
  ·have hp:¬Go.Lib.hasPrefix (b::r) kMi.data.toList=true:=by
    simp[Go.Lib.hasPrefix,akD];exact fun e'=>e e'.symm
   rw[if_neg hp]at hd;have hb:=hd.2 b (ajM ..);obtain⟨n,hn⟩:=decNat_some (l:=b::r) hd.1 hd.2;have e43:b≠43:=fun e'=>by subst e';exact absurd hb.1 (by decide)
   exact⟨(n:Int),by simp[hn,e,e43]⟩
theorem VK {s p:ByteArray}:s.size≤(kU s p).size+p.size:=by
 have e1:s.size=s.data.toList.length:=by rw[ais];rfl
 have e2:p.size=p.data.toList.length:=by rw[ais];rfl
 have e3:(kU s p).size=(Go.Lib.trimPrefix s.data.toList p.data.toList).length:=by
  show(akE _).size=_;rw[ajE]
 rw[e1,e2,e3];unfold Go.Lib.trimPrefix;split
 ·rw[akF];omega
 ·omega
def Ip (o:Option Int):PV:=match o with
 |none=>.tup [.int .i64 0,.bp false]
 |some n=>.tup [.int .i64 n,.bp true]
noncomputable def afV:CPT:=aA 229 (aB Vp) (aA 230 (aB OG) noC)
theorem iC:aW Tryz.prog afV:=aj (ak aeo) (aj (ak aaP) aC)
theorem mO:Sup (bI [PV.int .i64 0,PV.bool false]) (Ip none):=⟨fun hr=>by
 cases hr with
 |tup _ _ vs hl hh=>
  refine .tup _ _ _ hl fun i hi=>?_;have:=hh i hi;obtain rfl|rfl:i=0∨i=1:=by simp at hi;omega
  ·exact this
  ·simp only[aD]at this⊢
   generalize vs.getD 1 undef=v1 at this
   cases this;exact .bp _ _⟩
theorem yt (n:Int):Sup (bI [PV.int .i64 n,PV.bool true]) (Ip (some n)):=⟨fun hr=>by
 cases hr with
 |tup _ _ vs hl hh=>
  refine .tup _ _ _ hl fun i hi=>?_;have:=hh i hi;obtain rfl|rfl:i=0∨i=1:=by simp at hi;omega
  ·exact this
  ·simp only[aD]at this⊢
   generalize vs.getD 1 undef=v1 at this
   cases this;exact .bp _ _⟩
theorem VL (s:ByteArray) (sg:Bool) (hs:s.size≤1000000):aF Tryz.prog 202 [.str s,.bp sg] (Ip (gD s sg)):=by
 have hcs:(kU s kMi).size≤1000000:=by
  have e3:(kU s kMi).size=(Go.Lib.trimPrefix s.data.toList kMi.data.toList).length:=by
   show(akE _).size=_;rw[ajE]
  have e1:s.size=s.data.toList.length:=by rw[ais];rfl
  rw[e3];unfold Go.Lib.trimPrefix;split
  ·rw[akF];omega
  ·omega
 have hcz:=VK (s:=s) (p:=kMi);have hbl:=Im (kU s kMi);obtain⟨z,hz⟩:∃z,kU s kMi=z:=⟨_,rfl⟩;by_cases hF:FmB z
 case neg=>
  rw[show gD s sg=none by unfold gD;rw[hz,if_neg (fun e=>hF e.1.1)]]
  rw[hz]at hcs hcz hbl;by_cases h0:z.size=0
  ·skip
   refine av (md:=1) (rf:=[]) mixed au iC Tryz.func202 (by rfl) (by rfl) (by rfl) ?_
   repeat'((conv=>whnf);first|(intro hq;(try simp only[vw]at hq);try first|exact absurd hq (by decide)|exfalso;omega)|apply aI|with_reducible exact vM rfl|exact⟨⟩|apply nM|apply fM)
   all_goals((try apply vM);(try simp only[vq]at*);try omega)
   all_goals(try rw[hz]at*)
   all_goals(try omega)
   all_goals(conv=>whnf)
   all_goals(refine aM (X:=Nat) (fun i=>i≤z.size) (fun i=>[(39,.int .i64 i),(8,.bp false)]) (fun i=>[]) (fun i=>z.size-i) 0 ⟨aK,mixed,au,iC,aP⟩ (by rfl) (by omega) ?_ ?_)
   ·repeat'((conv=>whnf);first|intro _|apply aI|with_reducible exact vM rfl|exact⟨⟩|apply nM|apply fM)
    all_goals((try apply vM);(try simp only[vq]at*);try omega)
    all_goals(try exact decide_eq_false (fun e=>e hz0.2))
   intro i hi;by_cases hlt:i<z.size
   ·repeat'((conv=>whnf);first|(intro hq;(try simp only[vw]at hq);try first|exact absurd hq (by decide)|exfalso;omega)|apply aI|with_reducible exact vM rfl|exact⟨⟩|apply nM|apply fM)
    all_goals((try apply vM);(try simp only[vq]at*);try omega)
    all_goals(try omega)
    all_goals refine⟨i+1,[],⟨by omega,by omega⟩,?_⟩
    all_goals repeat'((conv=>whnf);first|intro _|apply aI|with_reducible exact vM rfl|exact⟨⟩|apply nM|apply fM)
    all_goals all_goals((try apply vM);(try simp only[vq]at*);try omega)
   have e:i=z.size:=by omega
   subst e
   repeat'((conv=>whnf);first|(intro hq;(try simp only[vw]at hq);try first|exact absurd hq (by decide)|exfalso;omega)|apply aI|with_reducible exact vM rfl|exact⟨⟩|apply nM|apply fM)
   all_goals((try apply vM);(try simp only[vq]at*);try omega)
   all_goals first|omega|exact mO|skip
  by_cases h9:9<z.size
  ·skip
   refine av (md:=1) (rf:=[]) mixed au iC Tryz.func202 (by rfl) (by rfl) (by rfl) ?_
   repeat'((conv=>whnf);first|(intro hq;(try simp only[vw]at hq);try first|exact absurd hq (by decide)|exfalso;omega)|apply aI|with_reducible exact vM rfl|exact⟨⟩|apply nM|apply fM)
   all_goals((try apply vM);(try simp only[vq]at*);try omega)
   all_goals(try rw[hz]at*)
   all_goals(try omega)
   all_goals(conv=>whnf)
   all_goals(refine aM (X:=Nat) (fun i=>i≤z.size) (fun i=>[(39,.int .i64 i),(8,.bp false)]) (fun i=>[]) (fun i=>z.size-i) 0 ⟨aK,mixed,au,iC,aP⟩ (by rfl) (by omega) ?_ ?_)
   ·repeat'((conv=>whnf);first|intro _|apply aI|with_reducible exact vM rfl|exact⟨⟩|apply nM|apply fM)
    all_goals((try apply vM);(try simp only[vq]at*);try omega)
    all_goals(try exact decide_eq_false (fun e=>e hz0.2))
   intro i hi;by_cases hlt:i<z.size
   ·repeat'((conv=>whnf);first|(intro hq;(try simp only[vw]at hq);try first|exact absurd hq (by decide)|exfalso;omega)|apply aI|with_reducible exact vM rfl|exact⟨⟩|apply nM|apply fM)
    all_goals((try apply vM);(try simp only[vq]at*);try omega)
    all_goals(try omega)
    all_goals refine⟨i+1,[],⟨by omega,by omega⟩,?_⟩
    all_goals repeat'((conv=>whnf);first|intro _|apply aI|with_reducible exact vM rfl|exact⟨⟩|apply nM|apply fM)
    all_goals all_goals((try apply vM);(try simp only[vq]at*);try omega)
   have e:i=z.size:=by omega
   subst e
   repeat'((conv=>whnf);first|(intro hq;(try simp only[vw]at hq);try first|exact absurd hq (by decide)|exfalso;omega)|apply aI|with_reducible exact vM rfl|exact⟨⟩|apply nM|apply fM)
   all_goals((try apply vM);(try simp only[vq]at*);try omega)
   all_goals first|omega|exact mO|skip
  have hz0:z.size≠1∧((z.data.getD (akf 0) 0).toNat:Int)=48:=by
   constructor
   ·exact fun e=>hF ⟨by omega,by omega,.inl e⟩
   ·exact aiK.1 fun e=>hF ⟨by omega,by omega,.inr e⟩
  refine av (md:=1) (rf:=[]) mixed au iC Tryz.func202 (by rfl) (by rfl) (by rfl) ?_
  repeat'((conv=>whnf);first|(intro hq;(try simp only[vw]at hq);try first|exact absurd hq (by decide)|exfalso;omega)|apply aI|with_reducible exact vM rfl|exact⟨⟩|apply nM|apply fM)
  all_goals((try apply vM);(try simp only[vq]at*);try omega)
  all_goals(try rw[hz]at*)
  all_goals(try omega)
  all_goals(conv=>whnf)
  all_goals(refine aM (X:=Nat) (fun i=>i≤z.size) (fun i=>[(39,.int .i64 i),(8,.bp false)]) (fun i=>[]) (fun i=>z.size-i) 0 ⟨aK,mixed,au,iC,aP⟩ (by rfl) (by omega) ?_ ?_)
  ·repeat'((conv=>whnf);first|intro _|apply aI|with_reducible exact vM rfl|exact⟨⟩|apply nM|apply fM)
   all_goals((try apply vM);(try simp only[vq]at*);try omega)
   all_goals(try exact decide_eq_false (fun e=>e hz0.2))
  intro i hi;by_cases hlt:i<z.size
  ·repeat'((conv=>whnf);first|(intro hq;(try simp only[vw]at hq);try first|exact absurd hq (by decide)|exfalso;omega)|apply aI|with_reducible exact vM rfl|exact⟨⟩|apply nM|apply fM)
   all_goals((try apply vM);(try simp only[vq]at*);try omega)
   all_goals(try omega)
   all_goals refine⟨i+1,[],⟨by omega,by omega⟩,?_⟩
   all_goals repeat'((conv=>whnf);first|intro _|apply aI|with_reducible exact vM rfl|exact⟨⟩|apply nM|apply fM)
   all_goals all_goals((try apply vM);(try simp only[vq]at*);try omega)
  have e:i=z.size:=by omega
  subst e
  repeat'((conv=>whnf);first|(intro hq;(try simp only[vw]at hq);try first|exact absurd hq (by decide)|exfalso;omega)|apply aI|with_reducible exact vM rfl|exact⟨⟩|apply nM|apply fM)
  all_goals((try apply vM);(try simp only[vq]at*);try omega)
  all_goals first|omega|exact mO|skip
 have hN:(dK z).all dgI=false→gD s sg=none:=fun e=>by
  unfold gD;rw[hz,if_neg];exact fun h=>by have:=h.1.2;rw[e]at this;exact absurd this (by decide)
 have hB1:preB s ⟨#[45]⟩=true→sg=false→gD s sg=none:=fun a b=>by
  unfold gD;rw[if_neg];exact fun h=>h.2 ⟨a,.inl b⟩
 have hB2:preB s ⟨#[45]⟩=true→z=⟨#[48]⟩→gD s sg=none:=fun a b=>by
  unfold gD;rw[if_neg];exact fun h=>h.2 ⟨a,.inr (hz.trans b)⟩
 obtain⟨n,hn⟩:∃n,(dK z).all dgI=true→Go.Lib.atoi s.data.toList=some n:=by
  by_cases e:(dK z).all dgI=true
  ·obtain⟨n,hn⟩:=VJ (s:=s) (by rw[hz];exact⟨hF,e⟩)
   exact⟨n,fun _=>hn⟩
  ·exact⟨0,fun h=>absurd h e⟩
 have hY1:(dK z).all dgI=true→preB s ⟨#[45]⟩=false→gD s sg=some n:=fun e a=>by
  unfold gD;rw[hz,if_pos ⟨⟨hF,e⟩,fun h=>by have h1:=h.1;rw[a]at h1;exact absurd h1 (by decide)⟩];exact hn e
 have hY2:(dK z).all dgI=true→sg=true→z≠⟨#[48]⟩→gD s sg=some n:=fun e a b=>by
  unfold gD;rw[hz,if_pos ⟨⟨hF,e⟩,fun h=>by
   rcases h.2 with h|h
   ·rw[a]at h;exact absurd h (by decide)
   ·exact b (hz.symm.trans h)⟩];exact hn e
 have hs18:s.size≤18:=by
  have:=hF.n9;have:kMi.size=1:=rfl;rw[hz]at hcz;omega
 rw[hz]at hcs hcz hbl;have h0:=hF.n0;have h9:=hF.n9;have hz0:z.size=1∨((z.data.getD (akf 0) 0).toNat:Int)≠48:=hF.z0;have hdg:∀i,i<z.size→((dK z).take (i+1)).all dgI=(((dK z).take i).all dgI&&dgI ((dK z).getD i 0)):=fun i hi=>by
  rw[ajQ,List.all_append,ah4 (by omega),ahZ,ah4 (by omega)]
  simp
 by_cases h1:z.size=1
 ·skip
  refine av (md:=1) (rf:=[]) mixed au iC Tryz.func202 (by rfl) (by rfl) (by rfl) ?_
  repeat'((conv=>whnf);first|(intro hq;(try simp only[vw]at hq);try first|exact absurd hq (by decide)|exfalso;omega)|apply aI|with_reducible exact vM rfl|exact⟨⟩|apply nM|apply fM)
  all_goals((try apply vM);(try simp only[vq]at*);try omega)
  all_goals(try rw[hz]at*)
  all_goals(try omega)
  conv=>whnf
  refine aM (X:=Nat) (fun i=>i≤z.size) (fun i=>[(39,.int .i64 i),(8,.bp (((dK z).take i).all dgI))]) (fun i=>[]) (fun i=>z.size-i) 0 ⟨aK,mixed,au,iC,aP⟩ (by rfl) (by omega) ?_ ?_
  ·repeat'((conv=>whnf);first|intro _|apply aI|with_reducible exact vM rfl|exact⟨⟩|apply nM|apply fM)
   all_goals((try apply vM);(try simp only[vq]at*);try omega)
   all_goals first|exact decide_eq_true hz1|skip
  intro i hi;by_cases hlt:i<z.size
  ·have hd:=hdg i hlt
   repeat'((conv=>whnf);first|(intro hq;(try simp only[vw]at hq);try first|exact absurd hq (by decide)|exfalso;omega)|apply aI|with_reducible exact vM rfl|exact⟨⟩|apply nM|apply fM)
   all_goals((try apply vM);(try simp only[vq]at*);try omega)
   all_goals(try omega)
   all_goals refine⟨i+1,[],⟨by omega,by omega⟩,?_⟩
   all_goals repeat'((conv=>whnf);first|intro _|apply aI|with_reducible exact vM rfl|exact⟨⟩|apply nM|apply fM)
   all_goals all_goals((try apply vM);(try simp only[vq]at*);try omega)
   all_goals(rw[hd])
   all_goals(clear hd)
   ·have hq2:(48:Int)≤(dK z).getD i 0:=hq
    show decide ((dK z).getD i 0≤57)=_;have ht:(akt i (dK z)).all dgI=true:=by assumption
    rw[ht];generalize(dK z).getD i 0=x at hq2⊢
    show _=(true&&(decide (48≤x)&&decide (x≤57)));rw[decide_eq_true hq2];simp
   ·have hq2:¬(48:Int)≤(dK z).getD i 0:=hq
    generalize(dK z).getD i 0=x at hq2⊢
    unfold dgI;rw[decide_eq_false hq2];simp
   ·simp[*]
  have e:i=z.size:=by omega
  subst e;have ha:(dK z).take z.size=dK z:=by rw[←hbl,ajS]
  rw[ha]
  repeat'((conv=>whnf);first|(intro hq;(try simp only[vw]at hq);try first|exact absurd hq (by decide)|exfalso;omega)|apply aI|with_reducible exact vM rfl|exact⟨⟩|apply nM|apply fM)
  all_goals((try apply vM);(try simp only[vq]at*);try omega)
  all_goals(try omega)
  all_goals first|(rw[hN (by assumption)];exact mO)|(rw[hB1 (by assumption) (by assumption)];exact mO)|(rw[hB2 (by assumption) (by assumption)];exact mO)|skip
  all_goals(conv=>whnf)
  all_goals repeat'((conv=>whnf);first|refine Exists.intro (n) ?_|(intro hq;(try simp only[vw]at hq);try first|exact absurd hq (by decide)|exfalso;omega)|apply aI|with_reducible exact vM rfl|exact⟨⟩|apply nM|apply fM)
  all_goals all_goals((try apply vM);(try simp only[vq]at*);try omega)
  all_goals first|(refine And.intro hs18 (hn ?_);assumption)|(rw[hY1 (by assumption) (by assumption)];exact yt n)|(rw[hY2 (by assumption) (by assumption) (by assumption)];exact yt n)
 ·have hz1:((z.data.getD (akf 0) 0).toNat:Int)≠48:=by
   rcases hz0 with e|e
   ·exact absurd e h1
   ·exact e
  refine av (md:=1) (rf:=[]) mixed au iC Tryz.func202 (by rfl) (by rfl) (by rfl) ?_
  repeat'((conv=>whnf);first|(intro hq;(try simp only[vw]at hq);try first|exact absurd hq (by decide)|exfalso;omega)|apply aI|with_reducible exact vM rfl|exact⟨⟩|apply nM|apply fM)
  all_goals((try apply vM);(try simp only[vq]at*);try omega)
  all_goals(try rw[hz]at*)
  all_goals(try omega)
  conv=>whnf
  refine aM (X:=Nat) (fun i=>i≤z.size) (fun i=>[(39,.int .i64 i),(8,.bp (((dK z).take i).all dgI))]) (fun i=>[]) (fun i=>z.size-i) 0 ⟨aK,mixed,au,iC,aP⟩ (by rfl) (by omega) ?_ ?_
  ·repeat'((conv=>whnf);first|intro _|apply aI|with_reducible exact vM rfl|exact⟨⟩|apply nM|apply fM)
   all_goals((try apply vM);(try simp only[vq]at*);try omega)
   all_goals first|exact decide_eq_true hz1|skip
  intro i hi;by_cases hlt:i<z.size
  ·have hd:=hdg i hlt
   repeat'((conv=>whnf);first|(intro hq;(try simp only[vw]at hq);try first|exact absurd hq (by decide)|exfalso;omega)|apply aI|with_reducible exact vM rfl|exact⟨⟩|apply nM|apply fM)
   all_goals((try apply vM);(try simp only[vq]at*);try omega)
   all_goals(try omega)
   all_goals refine⟨i+1,[],⟨by omega,by omega⟩,?_⟩
   all_goals repeat'((conv=>whnf);first|intro _|apply aI|with_reducible exact vM rfl|exact⟨⟩|apply nM|apply fM)
   all_goals all_goals((try apply vM);(try simp only[vq]at*);try omega)
   all_goals(rw[hd])
   all_goals(clear hd)
   ·have hq2:(48:Int)≤(dK z).getD i 0:=hq
    show decide ((dK z).getD i 0≤57)=_;have ht:(akt i (dK z)).all dgI=true:=by assumption
    rw[ht];generalize(dK z).getD i 0=x at hq2⊢
    show _=(true&&(decide (48≤x)&&decide (x≤57)));rw[decide_eq_true hq2];simp
   ·have hq2:¬(48:Int)≤(dK z).getD i 0:=hq
    generalize(dK z).getD i 0=x at hq2⊢
    unfold dgI;rw[decide_eq_false hq2];simp
   ·simp[*]
  have e:i=z.size:=by omega
  subst e;have ha:(dK z).take z.size=dK z:=by rw[←hbl,ajS]
  rw[ha]
  repeat'((conv=>whnf);first|(intro hq;(try simp only[vw]at hq);try first|exact absurd hq (by decide)|exfalso;omega)|apply aI|with_reducible exact vM rfl|exact⟨⟩|apply nM|apply fM)
  all_goals((try apply vM);(try simp only[vq]at*);try omega)
  all_goals(try omega)
  all_goals first|(rw[hN (by assumption)];exact mO)|(rw[hB1 (by assumption) (by assumption)];exact mO)|(rw[hB2 (by assumption) (by assumption)];exact mO)|skip
  all_goals(conv=>whnf)
  all_goals repeat'((conv=>whnf);first|refine Exists.intro (n) ?_|(intro hq;(try simp only[vw]at hq);try first|exact absurd hq (by decide)|exfalso;omega)|apply aI|with_reducible exact vM rfl|exact⟨⟩|apply nM|apply fM)
  all_goals all_goals((try apply vM);(try simp only[vq]at*);try omega)
  all_goals first|(refine And.intro hs18 (hn ?_);assumption)|(rw[hY1 (by assumption) (by assumption)];exact yt n)|(rw[hY2 (by assumption) (by assumption) (by assumption)];exact yt n)
def VN:PSp:=fun xs K=>match xs with
 | [.str s,.bp sg]=>VC (s.size≤1000000)∧((VC (gD s sg=none)→K (Ip none))∧∀n,VC (gD s sg=some n)→K (Ip (some n)))
 |_=>False
theorem aeD:POK Tryz.prog 202 VN:=by
 intro xs K hk;unfold VN at hk;split at hk
 ·obtain⟨⟨h⟩,h1,h2⟩:=hk
  refine⟨_,?_,VL _ _ h⟩;cases e:gD _ _ with
  |none=>exact h1 ⟨e⟩
  |some n=>exact h2 n ⟨e⟩
 ·exact hk.elim
theorem Iq (c:UInt8):∀l:List UInt8,(∀x∈spl c l,x.length≤l.length)∧(spl c l).length≤l.length+1:=by
 intro l;induction l with
 |nil=>simp[spl]
 |cons x r ih=>
  unfold spl;split
  ·refine⟨fun y hy=>?_,by simp;exact ih.2⟩
   rcases ajg.1 hy with rfl|hy
   ·simp
   ·have:=ih.1 y hy;simp;omega
  ·cases h:spl c r with
   |nil=>exact absurd h (Rx c r)
   |cons a t=>
    rw[h]at ih;refine⟨fun y hy=>?_,by have:=ih.2;simp at this⊢;omega⟩
    rcases ajg.1 hy with rfl|hy
    ·have:=ih.1 a (ajM ..);simp;omega
    ·have:=ih.1 y (ajx _ hy);simp;omega
theorem wZ {l:List ByteArray} {j:Nat} (h:j<l.length):l.getD j .empty∈l:=by
 rw[ahZ,ah4 h];exact akd h
theorem ED {c:UInt8} {s x:ByteArray} (h:x∈dM c s):x.size≤s.size:=by
 obtain⟨l,hl,rfl⟩:=akC.1 h;have:=(Iq c s.data.toList).1 l hl;rw[ais]at this;exact this
theorem zL (c:UInt8) (s:ByteArray):1≤(dM c s).length∧(dM c s).length≤s.size+1:=by
 unfold dM;rw[ajO];have h1:=(Iq c s.data.toList).2;rw[ais]at h1;exact⟨List.length_pos_iff.2 (Rx c _),h1⟩
abbrev jv:ByteArray:=⟨#[115,117,109]⟩
noncomputable def numsL (sg:Bool) (ws:List ByteArray):List Int:=ws.map fun x=>(gD x sg).getD 0
def okW (sg:Bool) (ws:List ByteArray):Prop:=∀j,j<ws.length→(gD (ws.getD j .empty) sg).isSome=true
noncomputable instance (sg:Bool) (ws:List ByteArray):Decidable (okW sg ws):=akB _
noncomputable def cZ (s w:ByteArray):Option (List Int):=
 if(dM 32 s).getD 0 .empty=w∧okW (decide (w=jv)) ((dM 32 s).drop 1)then some (numsL (decide (w=jv)) ((dM 32 s).drop 1))else none
def Ir (o:Option (List Int)):PV:=match o with
 |none=>.tup [.nils,.bp false]
 |some l=>.tup [.isl (.ints .i64 l) .none,.bp true]
theorem Md:Sup (bI [PV.nils,PV.bool false]) (Ir none):=⟨fun hr=>by
 cases hr with
 |tup _ _ vs hl hh=>
  refine .tup _ _ _ hl fun i hi=>?_;have:=hh i hi;obtain rfl|rfl:i=0∨i=1:=by simp at hi;omega
  ·exact this
  ·simp only[aD]at this⊢
   generalize vs.getD 1 undef=v1 at this
   cases this;exact .bp _ _⟩
theorem VO (l:List Int):Sup (bI [PV.isl (.ints .i64 l) .none,PV.bool true]) (Ir (some l)):=⟨fun hr=>by
 cases hr with
 |tup _ _ vs hl hh=>
  refine .tup _ _ _ hl fun i hi=>?_;have:=hh i hi;obtain rfl|rfl:i=0∨i=1:=by simp at hi;omega
  ·exact this
  ·simp only[aD]at this⊢
   generalize vs.getD 1 undef=v1 at this
   cases this;exact .bp _ _⟩
noncomputable def agX:CPT:=aA 113 (aB Bn) (aA 202 (aB VN) noC)
theorem Dj:aW Tryz.prog agX:=aj (ak Hy) (aj (ak aeD) aC)
theorem VP (s w:ByteArray) (hs:s.size≤1000000):aF Tryz.prog 162 [.str s,.str w] (Ir (cZ s w)):=by
 have hl:=zL 32 s;have hz:∀j,j<(dM 32 s).length→((dM 32 s).getD j .empty).size≤1000000:=fun j hj=>Nat.le_trans (ED (wZ hj)) hs;obtain⟨W,hW⟩:∃W,dM 32 s=W:=⟨_,rfl⟩;rw[hW]at hl hz;by_cases hw:W.getD 0 .empty=w
 case neg=>
  rw[show cZ s w=none by unfold cZ;rw[hW,if_neg (fun e=>hw e.1)]]
  refine av (md:=1) (rf:=[]) mixed au Dj Tryz.func162 (by rfl) (by rfl) (by rfl) ?_
  repeat'((conv=>whnf);first|refine Exists.intro (32) ?_|(intro hq;(try simp only[vw]at hq);try first|exact absurd hq (by decide)|exfalso;omega)|apply aI|with_reducible exact vM rfl|exact⟨⟩|apply nM|apply fM)
  all_goals((try apply vM);(try simp only[vq]at*);try omega)
  all_goals(try rw[hW])
  all_goals(try omega)
  all_goals(rw[hW]at hq)
  all_goals first|exact Md|exact absurd hw hq
 refine av (md:=1) (rf:=[]) mixed au Dj Tryz.func162 (by rfl) (by rfl) (by rfl) ?_
 repeat'((conv=>whnf);first|refine Exists.intro (32) ?_|(intro hq;(try simp only[vw]at hq);try first|exact absurd hq (by decide)|exfalso;omega)|apply aI|with_reducible exact vM rfl|exact⟨⟩|apply nM|apply fM)
 all_goals((try apply vM);(try simp only[vq]at*);try omega)
 all_goals(try rw[hW])
 all_goals(try omega)
 all_goals(rw[hW]at hq)
 all_goals(try exact absurd hw hq)
 conv=>whnf
 have hD1:(CL.strs W).sub (akf 1) W.length=.strs (W.drop 1):=by
  show CL.strs ((W.drop 1).take (W.length-1))=_;rw[←akF,ajS]
 have hD2:akt (W.length-akf 1) (aku (akf 1) W)=W.drop 1:=by
  show(W.drop 1).take (W.length-1)=_;rw[←akF,ajS]
 have hz':∀j,j<(W.drop 1).length→((W.drop 1).getD j .empty).size≤1000000:=fun j hj=>by
  rw[akF]at hj;have e:(W.drop 1).getD j .empty=W.getD (1+j) .empty:=by simp[ahZ,List.getElem?_drop,Nat.add_comm]
  rw[e];exact hz _ (by omega)
 have hl':(W.drop 1).length≤1000000:=by rw[akF];omega
 have hno:∀j,j<(W.drop 1).length→gD ((W.drop 1).getD j .empty) (decide (w=jv))=none→cZ s w=none:=fun j hj e=>by
  unfold cZ;rw[hW,if_neg];exact fun h=>by have:=h.2 j hj;rw[e]at this;exact absurd this (by decide)
 have hyes:okW (decide (w=jv)) (W.drop 1)→cZ s w=some (numsL (decide (w=jv)) (W.drop 1)):=fun h=>by
  unfold cZ;rw[hW,if_pos ⟨hw,h⟩]
 simp only[hD1,hD2];generalize W.drop 1=R at hz' hl' hno hyes⊢
 clear hD1 hD2;have hap:∀i n,i<R.length→gD (R.getD i .empty) (decide (w=jv))=some n→numsL (decide (w=jv)) (R.take (i+1))=numsL (decide (w=jv)) (R.take i)++[n]:=fun i n hi e=>by
  unfold numsL;rw[ajQ,ajR,ah4 hi];rw[ahZ,ah4 hi,Option.getD_some]at e;simp[e]
 have hnl:∀i,i≤R.length→(numsL (decide (w=jv)) (R.take i)).length=i:=fun i hi=>by unfold numsL;rw[ajO,aiG];omega
 refine aM (X:=Nat) (fun i=>i≤R.length∧∀j,j<i→(gD (R.getD j .empty) (decide (w=jv))).isSome=true) (fun i=>[(22,.int .i64 i),(7,.isl (.ints .i64 (numsL (decide (w=jv)) (R.take i))) (.own 5))]) (fun i=>[(5,.tok 1 (numsL (decide (w=jv)) (R.take i)).length)]) (fun i=>R.length-i) 0 ⟨aK,mixed,au,Dj,aP⟩ (by rfl) ⟨by omega,fun j hj=>absurd hj (by omega)⟩ ?_ ?_
 ·repeat'((conv=>whnf);first|intro _|apply aI|with_reducible exact vM rfl|exact⟨⟩|apply nM|apply fM)
  all_goals((try apply vM);(try simp only[vq]at*);try omega)
  all_goals rfl
 intro i ⟨hi,hS⟩;have hli:=hnl i hi;by_cases hlt:i<R.length
 ·repeat'((conv=>whnf);first|(intro hq;(try simp only[vw]at hq);try first|exact absurd hq (by decide)|exfalso;omega)|apply aI|with_reducible exact vM rfl|exact⟨⟩|apply nM|apply fM)
  all_goals((try apply vM);(try simp only[vq]at*);try omega)
  all_goals(try omega)
  all_goals(try replace hq:=VC.get hq)
  all_goals first|exact hz' _ hlt|(rw[hno i hlt hq];exact Md)|(rw[ai7,ahK,ahG,hli];omega)|skip
  rename_i n _;refine⟨i+1,[],⟨⟨by omega,fun j hj=>?_⟩,by omega⟩,?_⟩
  ·rcases akG.1 hj with h|rfl
   ·exact hS j h
   ·rw[show gD (R.getD j .empty) (decide (w=jv))=some n from hq];rfl
  rw[hap i n hlt hq,ai7]
  repeat'((conv=>whnf);first|intro _|apply aI|with_reducible exact vM rfl|exact⟨⟩|apply nM|apply fM)
  all_goals((try apply vM);(try simp only[vq]at*);try omega)
  all_goals skip
 have e:i=R.length:=by omega
 subst e;rw[ajS]
 repeat'((conv=>whnf);first|(intro hq;(try simp only[vw]at hq);try first|exact absurd hq (by decide)|exfalso;omega)|apply aI|with_reducible exact vM rfl|exact⟨⟩|apply nM|apply fM)
 all_goals((try apply vM);(try simp only[vq]at*);try omega)
 all_goals(try omega)
 rw[hyes (fun j hj=>hS j hj)];exact VO _
def VQ:PSp:=fun xs K=>match xs with
 | [.str s,.str w]=>VC (s.size≤1000000)∧((VC (cZ s w=none)→K (Ir none))∧∀l,VC (cZ s w=some l)→K (Ir (some l)))
 |_=>False
theorem aeE:POK Tryz.prog 162 VQ:=by
 intro xs K hk;unfold VQ at hk;split at hk
 ·obtain⟨⟨h⟩,h1,h2⟩:=hk
  refine⟨_,?_,VP _ _ h⟩;cases e:cZ _ _ with
  |none=>exact h1 ⟨e⟩
  |some n=>exact h2 n ⟨e⟩
 ·exact hk.elim
structure Rd where
 c:Int
 L:List (List Int)
 sum:Int
 gv:List Int
 line:Int
 done:Bool
abbrev Iu:ByteArray:=⟨#[99,101,108,108,115]⟩
abbrev FQ:ByteArray:=⟨#[108,105,110,101]⟩
abbrev w9:ByteArray:=⟨#[103,105,118,101,110]⟩
noncomputable def nxt (r:Rd) (s:ByteArray):Bool × Rd:=
 if r.line+1≤2 then
  match cZ s (if r.line=0 then Iu else jv)with
  |none=>(false,{r with line:=r.line+1})
  |some l=>if l.length≠1 then(false,{r with line:=r.line+1})else if r.line=0 then(true,{r with line:=r.line+1,c:=l.getD 0 0})else(true,{r with line:=r.line+1,sum:=l.getD 0 0})
 else if r.done=true then(false,{r with line:=r.line+1})
 else match cZ s FQ with
  |some l=>(true,{r with line:=r.line+1,L:=r.L++[l]})
  |none=>match cZ s w9 with
   |some l=>(true,{r with line:=r.line+1,gv:=l,done:=true})
   |none=>(false,{r with line:=r.line+1,gv:=[],done:=false})
abbrev rdO (r:Rd):List AO:=[.cells (.pv [.int .i64 r.c,.isl (.rows .i64 r.L) (.own 1),.int .i64 r.sum,.isl (.ints .i64 r.gv) .none,.int .i64 r.line,.bp r.done]) false,.tok 1 r.L.length]
noncomputable def agY:CPT:=aA 162 (aB VQ) noC
theorem jK:aW Tryz.prog agY:=aj (ak aeE) aC
theorem clash {o:Option (List Int)} {l:List Int} (a:o=some l) (b:o=none):False:=by rw[a]at b;cases b
theorem VR (r:Rd) (s:ByteArray) (hs:s.size≤1000000) (hl:0≤r.line∧r.line≤1000000) (hL:r.L.length≤1000000):
 jm Tryz.prog 115 [.rp 0 0,.str s] (rdO r) [.bp (nxt r s).1] (rdO (nxt r s).2):=by
 obtain⟨c,L,sum,gv,line,done⟩:=r;have hl:0≤line∧line≤1000000:=hl;have hL:L.length≤1000000:=hL;unfold nxt;simp only;by_cases h0:line=0
 ·subst h0
  rw[if_pos (by decide),if_pos rfl]
  cases e:cZ s Iu with
  |none=>
   refine bL (md:=1) (rf:=[]) mixed au jK 2 [] Tryz.func115 (by rfl) (by rfl) (by rfl) ?_
   repeat'((conv=>whnf);first|(intro hq;(try simp only[vw]at hq);try first|exact absurd hq (by decide)|exfalso;omega)|apply aI|with_reducible exact vM rfl|exact⟨⟩|apply nM|apply fM)
   all_goals((try apply vM);(try simp only[vq]at*);try omega)
   all_goals(try(exfalso;omega))
   all_goals(try(exfalso;exact clash (VC.get ‹VC (cZ s _=some _)›) e))
   all_goals(try(exfalso;exact clash e (VC.get ‹VC (cZ s _=none)›)))
   all_goals first|rfl|omega|exact(by decide:(1:Nat)≤2)|exact(by decide:(2:Nat)≤2)|(rw[ai7,ahK,ahG];omega)|(rw[ai7,ahK,ahG])
  |some l=>
   by_cases h1:l.length=1
   ·simp only[h1,ne_eq,not_true_eq_false,if_false,if_true]
    refine bL (md:=1) (rf:=[]) mixed au jK 2 [] Tryz.func115 (by rfl) (by rfl) (by rfl) ?_
    repeat'((conv=>whnf);first|(intro hq;(try simp only[vw]at hq);try first|exact absurd hq (by decide)|exfalso;omega)|apply aI|with_reducible exact vM rfl|exact⟨⟩|apply nM|apply fM)
    all_goals((try apply vM);(try simp only[vq]at*);try omega)
    all_goals(try(exfalso;omega))
    all_goals(try(exfalso;exact clash (VC.get ‹VC (cZ s _=some _)›) e))
    all_goals(try(exfalso;exact clash e (VC.get ‹VC (cZ s _=none)›)))
    all_goals(try(obtain rfl:=Option.some.inj ((VC.get ‹VC (cZ s _=some _)›).symm.trans e)))
    all_goals first|rfl|omega|exact(by decide:(1:Nat)≤2)|exact(by decide:(2:Nat)≤2)|(rw[ai7,ahK,ahG];omega)|(rw[ai7,ahK,ahG])
   ·simp only[h1,ne_eq,not_false_eq_true,if_false,if_true]
    refine bL (md:=1) (rf:=[]) mixed au jK 2 [] Tryz.func115 (by rfl) (by rfl) (by rfl) ?_
    repeat'((conv=>whnf);first|(intro hq;(try simp only[vw]at hq);try first|exact absurd hq (by decide)|exfalso;omega)|apply aI|with_reducible exact vM rfl|exact⟨⟩|apply nM|apply fM)
    all_goals((try apply vM);(try simp only[vq]at*);try omega)
    all_goals(try(exfalso;omega))
    all_goals(try(exfalso;exact clash (VC.get ‹VC (cZ s _=some _)›) e))
    all_goals(try(exfalso;exact clash e (VC.get ‹VC (cZ s _=none)›)))
    all_goals(try(obtain rfl:=Option.some.inj ((VC.get ‹VC (cZ s _=some _)›).symm.trans e)))
    all_goals first|rfl|omega|exact(by decide:(1:Nat)≤2)|exact(by decide:(2:Nat)≤2)|(rw[ai7,ahK,ahG];omega)|(rw[ai7,ahK,ahG])
 by_cases h1:line=1
 ·subst h1
  rw[if_pos (by decide),if_neg (by decide)]
  cases e:cZ s jv with
  |none=>
   refine bL (md:=1) (rf:=[]) mixed au jK 2 [] Tryz.func115 (by rfl) (by rfl) (by rfl) ?_
   repeat'((conv=>whnf);first|(intro hq;(try simp only[vw]at hq);try first|exact absurd hq (by decide)|exfalso;omega)|apply aI|with_reducible exact vM rfl|exact⟨⟩|apply nM|apply fM)
   all_goals((try apply vM);(try simp only[vq]at*);try omega)
   all_goals(try(exfalso;omega))
   all_goals(try(exfalso;exact clash (VC.get ‹VC (cZ s _=some _)›) e))
   all_goals(try(exfalso;exact clash e (VC.get ‹VC (cZ s _=none)›)))
   all_goals first|rfl|omega|exact(by decide:(1:Nat)≤2)|exact(by decide:(2:Nat)≤2)|(rw[ai7,ahK,ahG];omega)|(rw[ai7,ahK,ahG])
  |some l=>
   by_cases h1:l.length=1
   ·simp only[h1,ne_eq,not_true_eq_false,if_false]
    rw[if_neg (by decide)]
    refine bL (md:=1) (rf:=[]) mixed au jK 2 [] Tryz.func115 (by rfl) (by rfl) (by rfl) ?_
    repeat'((conv=>whnf);first|(intro hq;(try simp only[vw]at hq);try first|exact absurd hq (by decide)|exfalso;omega)|apply aI|with_reducible exact vM rfl|exact⟨⟩|apply nM|apply fM)
    all_goals((try apply vM);(try simp only[vq]at*);try omega)
    all_goals(try(exfalso;omega))
    all_goals(try(exfalso;exact clash (VC.get ‹VC (cZ s _=some _)›) e))
    all_goals(try(exfalso;exact clash e (VC.get ‹VC (cZ s _=none)›)))
    all_goals(try(obtain rfl:=Option.some.inj ((VC.get ‹VC (cZ s _=some _)›).symm.trans e)))
    all_goals first|rfl|omega|exact(by decide:(1:Nat)≤2)|exact(by decide:(2:Nat)≤2)|(rw[ai7,ahK,ahG];omega)|(rw[ai7,ahK,ahG])
   ·simp only[h1,ne_eq,not_false_eq_true,if_true]
    refine bL (md:=1) (rf:=[]) mixed au jK 2 [] Tryz.func115 (by rfl) (by rfl) (by rfl) ?_
    repeat'((conv=>whnf);first|(intro hq;(try simp only[vw]at hq);try first|exact absurd hq (by decide)|exfalso;omega)|apply aI|with_reducible exact vM rfl|exact⟨⟩|apply nM|apply fM)
    all_goals((try apply vM);(try simp only[vq]at*);try omega)
    all_goals(try(exfalso;omega))
    all_goals(try(exfalso;exact clash (VC.get ‹VC (cZ s _=some _)›) e))
    all_goals(try(exfalso;exact clash e (VC.get ‹VC (cZ s _=none)›)))
    all_goals(try(obtain rfl:=Option.some.inj ((VC.get ‹VC (cZ s _=some _)›).symm.trans e)))
    all_goals first|rfl|omega|exact(by decide:(1:Nat)≤2)|exact(by decide:(2:Nat)≤2)|(rw[ai7,ahK,ahG];omega)|(rw[ai7,ahK,ahG])
 rw[if_neg (by omega)]
 cases done with
 |true=>
  rw[if_pos rfl];refine bL (md:=1) (rf:=[]) mixed au jK 2 [] Tryz.func115 (by rfl) (by rfl) (by rfl) ?_
  repeat'((conv=>whnf);first|(intro hq;(try simp only[vw]at hq);try first|exact absurd hq (by decide)|exfalso;omega)|apply aI|with_reducible exact vM rfl|exact⟨⟩|apply nM|apply fM)
  all_goals((try apply vM);(try simp only[vq]at*);try omega)
  all_goals(try(exfalso;omega))
  all_goals first|rfl|omega|exact(by decide:(1:Nat)≤2)|exact(by decide:(2:Nat)≤2)|(rw[ai7,ahK,ahG];omega)|(rw[ai7,ahK,ahG])
 |false=>
  rw[if_neg (by decide)]
  cases e:cZ s FQ with
  |some l=>
   refine bL (md:=1) (rf:=[]) mixed au jK 2 [] Tryz.func115 (by rfl) (by rfl) (by rfl) ?_
   repeat'((conv=>whnf);first|(intro hq;(try simp only[vw]at hq);try first|exact absurd hq (by decide)|exfalso;omega)|apply aI|with_reducible exact vM rfl|exact⟨⟩|apply nM|apply fM)
   all_goals((try apply vM);(try simp only[vq]at*);try omega)
   all_goals(try(exfalso;omega))
   all_goals(try(exfalso;exact clash (VC.get ‹VC (cZ s _=some _)›) e))
   all_goals(try(exfalso;exact clash e (VC.get ‹VC (cZ s _=none)›)))
   all_goals(try(obtain rfl:=Option.some.inj ((VC.get ‹VC (cZ s _=some _)›).symm.trans e)))
   all_goals first|rfl|omega|exact(by decide:(1:Nat)≤2)|exact(by decide:(2:Nat)≤2)|(rw[ai7,ahK,ahG];omega)|(rw[ai7,ahK,ahG])
  |none=>
   cases e2:cZ s w9 with
   |none=>
    refine bL (md:=1) (rf:=[]) mixed au jK 2 [] Tryz.func115 (by rfl) (by rfl) (by rfl) ?_
    repeat'((conv=>whnf);first|(intro hq;(try simp only[vw]at hq);try first|exact absurd hq (by decide)|exfalso;omega)|apply aI|with_reducible exact vM rfl|exact⟨⟩|apply nM|apply fM)
    all_goals((try apply vM);(try simp only[vq]at*);try omega)
    all_goals(try(exfalso;omega))
    all_goals(try(exfalso;exact clash (VC.get ‹VC (cZ s _=some _)›) e))
    all_goals(try(exfalso;exact clash e (VC.get ‹VC (cZ s _=none)›)))
    all_goals(try(exfalso;exact clash (VC.get ‹VC (cZ s _=some _)›) e2))
    all_goals first|rfl|omega|exact(by decide:(1:Nat)≤2)|exact(by decide:(2:Nat)≤2)|(rw[ai7,ahK,ahG];omega)|(rw[ai7,ahK,ahG])
   |some l=>
    refine bL (md:=1) (rf:=[]) mixed au jK 2 [] Tryz.func115 (by rfl) (by rfl) (by rfl) ?_
    repeat'((conv=>whnf);first|(intro hq;(try simp only[vw]at hq);try first|exact absurd hq (by decide)|exfalso;omega)|apply aI|with_reducible exact vM rfl|exact⟨⟩|apply nM|apply fM)
    all_goals((try apply vM);(try simp only[vq]at*);try omega)
    all_goals(try(exfalso;omega))
    all_goals(try(exfalso;exact clash (VC.get ‹VC (cZ s _=some _)›) e))
    all_goals(try(exfalso;exact clash e (VC.get ‹VC (cZ s _=none)›)))
    all_goals(try(exfalso;exact clash e2 (VC.get ‹VC (cZ s w9=none)›)))
    all_goals(try(obtain rfl:=Option.some.inj ((VC.get ‹VC (cZ s _=some _)›).symm.trans e2)))
    all_goals first|rfl|omega|exact(by decide:(1:Nat)≤2)|exact(by decide:(2:Nat)≤2)|(rw[ai7,ahK,ahG];omega)|(rw[ai7,ahK,ahG])
def VT:LSp:=fun xs objs K=>match xs,objs with
 | [.rp 0 0,.str s],[.cells (.pv [.int .i64 c,.isl (.rows .i64 L) (.own 1),.int .i64 sum,.isl (.ints .i64 gv) .none,.int .i64 line,.bp done]) false,.tok 1 m]=>
  VC (m=L.length∧s.size≤1000000∧(0≤line∧line≤1000000)∧L.length≤1000000)∧K [.bp (nxt ⟨c,L,sum,gv,line,done⟩ s).1] (rdO (nxt ⟨c,L,sum,gv,line,done⟩ s).2)
 |_,_=>False
theorem aeF:LOK Tryz.prog 115 VT:=by
 intro xs objs K hk;unfold VT at hk;split at hk
 ·obtain⟨⟨rfl,h1,h2,h3⟩,hk⟩:=hk
  exact⟨_,_,hk,VR ⟨_,_,_,_,_,_⟩ _ h1 h2 h3⟩
 ·exact hk.elim
end Go.Eng.YtcechbdgokjmgaaGreatDoor
namespace Go.Eng.YtcechbdgokjmgaaGreatDoor
open Go.Proofs
set_option linter.unusedSimpArgs false
set_option linter.unusedVariables false
set_option maxHeartbeats 0
set_option maxRecDepth 100000
def pY:PSp:=fun xs K=>match xs with
 | [.str r]=>∃g:Int,VC (bJ r=g)∧K (.int .i64 g)
 |_=>False
theorem rP:POK Tryz.prog 101 pY:=by
 intro xs K hk;unfold pY at hk;split at hk
 ·obtain⟨g,⟨rfl⟩,hk⟩:=hk
  exact⟨_,hk,Pq _⟩
 ·exact hk.elim
structure Dk (c:Int) (ls:List (List Int)) (r:ByteArray) (y x k:Int):Prop where
 g:1≤bJ r
 y:0≤y∧y<c
 x:1≤x∧x≤c
 k:bJ r=2∨bJ r=3∨(0≤k∧k<ls.length)
abbrev bdO (c:Int) (ls:List (List Int)) (sum:Int) (gv:List Int) (s:St) (n:Nat):List AO:=[.cells (.pv [.int .i64 c,.isl (.rows .i64 ls) .none,.int .i64 sum,.isl (.ints .i64 gv) .none,.rsl 1 0 n,.rsl 2 0 n]) false,.cells (.ints .u32 (ms s.cs)) false,.cells (.bools s.ds) false]
noncomputable def agZ:CPT:=aA 101 (aB pY) (aA 130 (aB qO) noC)
theorem l6:aW Tryz.prog agZ:=aj (ak rP) (aj (ak qP) aC)
theorem oI (cs:List (List Int)) (i:Nat) (l:List Int):(ms cs).set i (mk l:Nat)=ms (cs.set i l):=by unfold ms;rw[List.map_set]
def dlt (cs:List (List Int)) (x:Int) (i:Nat):List (List Int):=(ahX cs.length).map fun j=>if j<i then dY (cs.getD j []) x else cs.getD j []
theorem p9 (cs:List (List Int)) (x:Int) (i:Nat):(dlt cs x i).length=cs.length:=by simp[dlt]
theorem zM (cs:List (List Int)) (x:Int):dlt cs x 0=cs:=by
 refine akH (p9 _ _ _) fun j h1 h2=>?_;simp[dlt,ahZ,h2]
theorem Dl (cs:List (List Int)) (x:Int):dlt cs x cs.length=cs.map fun l=>dY l x:=by
 refine akH (by simp[p9]) fun j h1 h2=>?_
 have hj:j<cs.length:=by simpa using h2
 simp[dlt,ahZ,hj]
theorem Iw {cs:List (List Int)} {x:Int} {i:Nat} (h:i<cs.length):(dlt cs x i).getD i []=cs.getD i []:=by
 simp[dlt,ahZ,h]
theorem zN {cs:List (List Int)} {x:Int} {i:Nat} (h:i<cs.length):(dlt cs x i).set i (dY (cs.getD i []) x)=dlt cs x (i+1):=by
 refine akH (by simp[p9]) fun j h1 h2=>?_
 rw[akI];simp only[dlt,akJ,akK];by_cases e:i=j
 ·subst e;rw[if_pos rfl,if_pos (by omega)]
 ·rw[if_neg e]
  by_cases hl:j<i
  ·rw[if_pos hl,if_pos (by omega)]
  ·rw[if_neg hl,if_neg (by omega)]
theorem Pv (c:Int) (ls:List (List Int)) (sum:Int) (gv:List Int) (s:St) (n:Nat) (h:aR c ls sum s) (hn:n=s.cs.length) (r:ByteArray) (y x k:Int) (hd:Dk c ls r y x k):
 jm Tryz.prog 128 [.rp 0 0,ddV r y x k] (bdO c ls sum gv s n) [] (bdO c ls sum gv (apl (bJ r).toNat s y x) n):=by
 have hc:=h.c1;have hy:=hd.y;have hx:=hd.x;have hxs:=h.at hy;have hm:(ms s.cs).getD y.toNat 0=(mk (s.cd y.toNat):Nat):=gq hxs.1;have hA:=(h.asc _ hxs.1).1;have hr:=qM hA;have hlen:=dW s.cs;have hcl:=h.cl;have hdl:=h.dl;have hte:=Bg;have hsb:=lu x.toNat (by omega)
 have hdel:=sM hA.inM (show 0≤x∧x≤31 by omega)
 have hone:(1:Int)*2 ^ x.toNat=((mk [x]:Nat):Int):=by rw[mk_one,ajY];norm_cast
 have hm1:y.toNat+1≤(ms s.cs).length∧y.toNat+1≤s.ds.length∧y<n:=by omega
 obtain⟨rfl,hg⟩|⟨rfl,hg⟩|⟨rfl,hg⟩|⟨rfl,hg⟩|⟨rfl,hg⟩|hg:=uZ r
 ·rw[hg,show apl (akf 1) s y x=⟨(s.cs.map fun l=>dY l x).set y.toNat [x],s.ds.set y.toNat true⟩from rfl]
  refine bL (md:=1) (rf:=[]) mixed au l6 3 [] Tryz.func128 (by rfl) (by rfl) (by rfl) ?_
  repeat'((conv=>whnf);first|refine Exists.intro (1) ?_|(intro hq;(try simp only[vw]at hq);try first|exact absurd hq (by decide)|exfalso;omega)|apply aI|with_reducible exact vM rfl|exact⟨⟩|apply nM|apply fM)
  all_goals((try apply vM);(try simp only[vq]at*);try omega)
  all_goals(try first|omega|(rw[hte];decide))
  conv=>whnf
  refine aM (X:=Nat) (fun i=>i≤s.cs.length) (fun i=>[(30,.int .i64 i)]) (fun i=>[(1,.cells (.ints .u32 (ms (dlt s.cs x i))) false)]) (fun i=>s.cs.length-i) 0 ⟨aK,mixed,au,l6,aP⟩ (by rfl) (by omega) ?_ ?_
  ·repeat'((conv=>whnf);first|intro _|apply aI|with_reducible exact vM rfl|exact⟨⟩|apply nM|apply fM)
   all_goals((try apply vM);(try simp only[vq]at*);try omega)
   all_goals(try rw[zM])
  intro i hi;have hl1:=dW (dlt s.cs x i);have hl2:=p9 s.cs x i;by_cases hlt:i<s.cs.length
  ·have hAi:=(h.asc _ hlt).1
   have hmi:(ms (dlt s.cs x i)).getD i 0=(mk (s.cd i):Nat):=by rw[gq (by omega),Iw hlt];rfl
   have hdi:=sM hAi.inM (show 0≤x∧x≤31 by omega)
   repeat'((conv=>whnf);first|(intro hq;(try simp only[vw]at hq);try first|exact absurd hq (by decide)|exfalso;omega)|apply aI|with_reducible exact vM rfl|exact⟨⟩|apply nM|apply fM)
   all_goals((try apply vM);(try simp only[vq]at*);try omega)
   all_goals(try omega)
   refine⟨i+1,[],⟨by omega,by omega⟩,?_⟩
   repeat'((conv=>whnf);first|intro _|apply aI|with_reducible exact vM rfl|exact⟨⟩|apply nM|apply fM)
   all_goals((try apply vM);(try simp only[vq]at*);try omega)
   all_goals(rw[hmi,hdi,oI];exact congrArg ms (zN hlt))
  ·have:i=s.cs.length:=by omega
   subst this;rw[Dl]at*
   repeat'((conv=>whnf);first|(intro hq;(try simp only[vw]at hq);try first|exact absurd hq (by decide)|exfalso;omega)|apply aI|with_reducible exact vM rfl|exact⟨⟩|apply nM|apply fM)
   all_goals((try apply vM);(try simp only[vq]at*);try omega)
   all_goals(try omega)
   all_goals(rw[hone];exact oI _ _ _)
 ·rw[hg,show apl (akf 2) s y x=⟨(s.cs.map fun l=>dY l x).set y.toNat [x],s.ds.set y.toNat true⟩from rfl]
  refine bL (md:=1) (rf:=[]) mixed au l6 3 [] Tryz.func128 (by rfl) (by rfl) (by rfl) ?_
  repeat'((conv=>whnf);first|refine Exists.intro (2) ?_|(intro hq;(try simp only[vw]at hq);try first|exact absurd hq (by decide)|exfalso;omega)|apply aI|with_reducible exact vM rfl|exact⟨⟩|apply nM|apply fM)
  all_goals((try apply vM);(try simp only[vq]at*);try omega)
  all_goals(try first|omega|(rw[hte];decide))
  conv=>whnf
  refine aM (X:=Nat) (fun i=>i≤s.cs.length) (fun i=>[(30,.int .i64 i)]) (fun i=>[(1,.cells (.ints .u32 (ms (dlt s.cs x i))) false)]) (fun i=>s.cs.length-i) 0 ⟨aK,mixed,au,l6,aP⟩ (by rfl) (by omega) ?_ ?_
  ·repeat'((conv=>whnf);first|intro _|apply aI|with_reducible exact vM rfl|exact⟨⟩|apply nM|apply fM)
   all_goals((try apply vM);(try simp only[vq]at*);try omega)
   all_goals(try rw[zM])
  intro i hi;have hl1:=dW (dlt s.cs x i);have hl2:=p9 s.cs x i;by_cases hlt:i<s.cs.length
  ·have hAi:=(h.asc _ hlt).1
   have hmi:(ms (dlt s.cs x i)).getD i 0=(mk (s.cd i):Nat):=by rw[gq (by omega),Iw hlt];rfl
   have hdi:=sM hAi.inM (show 0≤x∧x≤31 by omega)
   repeat'((conv=>whnf);first|(intro hq;(try simp only[vw]at hq);try first|exact absurd hq (by decide)|exfalso;omega)|apply aI|with_reducible exact vM rfl|exact⟨⟩|apply nM|apply fM)
   all_goals((try apply vM);(try simp only[vq]at*);try omega)
   all_goals(try omega)
   refine⟨i+1,[],⟨by omega,by omega⟩,?_⟩
   repeat'((conv=>whnf);first|intro _|apply aI|with_reducible exact vM rfl|exact⟨⟩|apply nM|apply fM)
   all_goals((try apply vM);(try simp only[vq]at*);try omega)
   all_goals(rw[hmi,hdi,oI];exact congrArg ms (zN hlt))
  ·have:i=s.cs.length:=by omega
   subst this;rw[Dl]at*
   repeat'((conv=>whnf);first|(intro hq;(try simp only[vw]at hq);try first|exact absurd hq (by decide)|exfalso;omega)|apply aI|with_reducible exact vM rfl|exact⟨⟩|apply nM|apply fM)
   all_goals((try apply vM);(try simp only[vq]at*);try omega)
   all_goals(try omega)
   all_goals(rw[hone];exact oI _ _ _)
 ·rw[hg,show apl (akf 3) s y x=⟨(s.cs.map fun l=>dY l x).set y.toNat [x],s.ds.set y.toNat true⟩from rfl]
  refine bL (md:=1) (rf:=[]) mixed au l6 3 [] Tryz.func128 (by rfl) (by rfl) (by rfl) ?_
  repeat'((conv=>whnf);first|refine Exists.intro (3) ?_|(intro hq;(try simp only[vw]at hq);try first|exact absurd hq (by decide)|exfalso;omega)|apply aI|with_reducible exact vM rfl|exact⟨⟩|apply nM|apply fM)
  all_goals((try apply vM);(try simp only[vq]at*);try omega)
  all_goals(try first|omega|(rw[hte];decide))
  conv=>whnf
  refine aM (X:=Nat) (fun i=>i≤s.cs.length) (fun i=>[(30,.int .i64 i)]) (fun i=>[(1,.cells (.ints .u32 (ms (dlt s.cs x i))) false)]) (fun i=>s.cs.length-i) 0 ⟨aK,mixed,au,l6,aP⟩ (by rfl) (by omega) ?_ ?_
  ·repeat'((conv=>whnf);first|intro _|apply aI|with_reducible exact vM rfl|exact⟨⟩|apply nM|apply fM)
   all_goals((try apply vM);(try simp only[vq]at*);try omega)
   all_goals(try rw[zM])
  intro i hi;have hl1:=dW (dlt s.cs x i);have hl2:=p9 s.cs x i;by_cases hlt:i<s.cs.length
  ·have hAi:=(h.asc _ hlt).1
   have hmi:(ms (dlt s.cs x i)).getD i 0=(mk (s.cd i):Nat):=by rw[gq (by omega),Iw hlt];rfl
   have hdi:=sM hAi.inM (show 0≤x∧x≤31 by omega)
   repeat'((conv=>whnf);first|(intro hq;(try simp only[vw]at hq);try first|exact absurd hq (by decide)|exfalso;omega)|apply aI|with_reducible exact vM rfl|exact⟨⟩|apply nM|apply fM)
   all_goals((try apply vM);(try simp only[vq]at*);try omega)
   all_goals(try omega)
   refine⟨i+1,[],⟨by omega,by omega⟩,?_⟩
   repeat'((conv=>whnf);first|intro _|apply aI|with_reducible exact vM rfl|exact⟨⟩|apply nM|apply fM)
   all_goals((try apply vM);(try simp only[vq]at*);try omega)
   all_goals(rw[hmi,hdi,oI];exact congrArg ms (zN hlt))
  ·have:i=s.cs.length:=by omega
   subst this;rw[Dl]at*
   repeat'((conv=>whnf);first|(intro hq;(try simp only[vw]at hq);try first|exact absurd hq (by decide)|exfalso;omega)|apply aI|with_reducible exact vM rfl|exact⟨⟩|apply nM|apply fM)
   all_goals((try apply vM);(try simp only[vq]at*);try omega)
   all_goals(try omega)
   all_goals(rw[hone];exact oI _ _ _)
 ·rw[hg,show apl (akf 4) s y x=⟨s.cs.set y.toNat (dY (s.cd y.toNat) x),s.ds⟩from rfl]
  refine bL (md:=1) (rf:=[]) mixed au l6 3 [] Tryz.func128 (by rfl) (by rfl) (by rfl) ?_
  repeat'((conv=>whnf);first|refine Exists.intro (4) ?_|(intro hq;(try simp only[vw]at hq);try first|exact absurd hq (by decide)|exfalso;omega)|apply aI|with_reducible exact vM rfl|exact⟨⟩|apply nM|apply fM)
  all_goals((try apply vM);(try simp only[vq]at*);try omega)
  all_goals(try first|omega|(rw[hte];decide))
  all_goals(try rw[hm,hdel,oI])
 ·rw[hg,show apl (akf 5) s y x=⟨s.cs.set y.toNat (dY (s.cd y.toNat) x),s.ds⟩from rfl]
  refine bL (md:=1) (rf:=[]) mixed au l6 3 [] Tryz.func128 (by rfl) (by rfl) (by rfl) ?_
  repeat'((conv=>whnf);first|refine Exists.intro (5) ?_|(intro hq;(try simp only[vw]at hq);try first|exact absurd hq (by decide)|exfalso;omega)|apply aI|with_reducible exact vM rfl|exact⟨⟩|apply nM|apply fM)
  all_goals((try apply vM);(try simp only[vq]at*);try omega)
  all_goals(try first|omega|(rw[hte];decide))
  all_goals(try rw[hm,hdel,oI])
 have:=hd.g;omega
def gF (c:Int) (ls:List (List Int)) (r:ByteArray) (y x k:Int):Int:=
 if bJ r=0 then 13 else if y<0∨c≤y then 10 else if x<1∨c<x then 3 else if bJ r=2∨bJ r=3 then(if k≠ -1 then 10 else 0)else if k<0∨ls.length≤k∨y∉ls.getD k.toNat []then 10 else 0
noncomputable def ag0:CPT:=aA 88 (aB jJ) (aA 89 (aB fC) (aA 94 (aB Bv) (aA 101 (aB pY) (aA 130 (aB qO) noC))))
theorem l7:aW Tryz.prog ag0:=aj (ak jh) (aj (ak jr) (aj (ak Db) (aj (ak rP) (aj (ak qP) aC))))
theorem VU (c:Int) (ls:List (List Int)) (sum:Int) (gv:List Int) (h:bO ls) (r:ByteArray) (y x k:Int):
 aF Tryz.prog 126 [pzV c ls sum gv,ddV r y x k] (.int .i64 (gF c ls r y x k)):=by
 have hte:=Bg;have h4:=fun i=>h.at' i;have h2:=h.len;by_cases hg:bJ r=0
 ·rw[show gF c ls r y x k=13 by unfold gF;rw[if_pos hg]]
  refine av (md:=1) (rf:=[]) mixed au l7 Tryz.func126 (by rfl) (by rfl) (by rfl) ?_
  repeat'((conv=>whnf);first|refine Exists.intro (0) ?_|(intro hq;(try simp only[vw]at hq);try first|exact absurd hq (by decide)|exfalso;omega)|apply aI|with_reducible exact vM rfl|exact⟨⟩|apply nM|apply fM)
  all_goals((try apply vM);(try simp only[vq]at*);try omega)
  all_goals first|exact hg|(exfalso;simp[aJ]at hq;done)|(exact Sup.of (by simp[bI,aJ]))|skip
 by_cases hy:y<0∨c≤y
 ·rw[show gF c ls r y x k=10 by unfold gF;rw[if_neg hg,if_pos hy]]
  refine av (md:=1) (rf:=[]) mixed au l7 Tryz.func126 (by rfl) (by rfl) (by rfl) ?_
  repeat'((conv=>whnf);first|refine Exists.intro (bJ r) ?_|(intro hq;(try simp only[vw]at hq);try first|exact absurd hq (by decide)|exfalso;omega)|apply aI|with_reducible exact vM rfl|exact⟨⟩|apply nM|apply fM)
  all_goals((try apply vM);(try simp only[vq]at*);try omega)
  all_goals(try rw[if_neg hg]at hq)
  all_goals(try rw[if_neg hg])
  all_goals first|(exfalso;simp_all[aJ];done)|(exact Sup.of (by simp_all[bI,aJ]))|skip
 by_cases hx:x<1∨c<x
 ·rw[show gF c ls r y x k=3 by unfold gF;rw[if_neg hg,if_neg hy,if_pos hx]]
  have hy1:¬y<0:=fun e=>hy (.inl e);have hy2:¬c≤y:=fun e=>hy (.inr e);clear hy;refine av (md:=1) (rf:=[]) mixed au l7 Tryz.func126 (by rfl) (by rfl) (by rfl) ?_
  repeat'((conv=>whnf);first|refine Exists.intro (bJ r) ?_|(intro hq;(try simp only[vw]at hq);try first|exact absurd hq (by decide)|exfalso;omega)|apply aI|with_reducible exact vM rfl|exact⟨⟩|apply nM|apply fM)
  all_goals((try apply vM);(try simp only[vq]at*);try omega)
  all_goals(try rw[if_neg hg]at hq)
  all_goals(try rw[if_neg hg])
  all_goals first|(exfalso;simp_all[aJ];done)|(exact Sup.of (by simp_all[bI,aJ]))|skip
 have hy1:¬y<0:=fun e=>hy (.inl e);have hy2:¬c≤y:=fun e=>hy (.inr e);have hx1:¬x<1:=fun e=>hx (.inl e);have hx2:¬c<x:=fun e=>hx (.inr e);obtain⟨rfl,hgr⟩|⟨rfl,hgr⟩|⟨rfl,hgr⟩|⟨rfl,hgr⟩|⟨rfl,hgr⟩|hgr:=uZ r
 ·rw[show gF c ls bP y x k=if k<0∨ls.length≤k∨y∉ls.getD k.toNat []then 10 else 0 by unfold gF;rw[if_neg (by rw[hgr];decide),if_neg hy,if_neg hx,if_neg (by rw[hgr];decide)]]
  clear hy hx hg;refine av (md:=1) (rf:=[]) mixed au l7 Tryz.func126 (by rfl) (by rfl) (by rfl) ?_
  repeat'((conv=>whnf);first|refine Exists.intro (1) ?_|(intro hq;(try simp only[vw]at hq);try first|exact absurd hq (by decide)|exfalso;omega)|apply aI|with_reducible exact vM rfl|exact⟨⟩|apply nM|apply fM)
  all_goals((try apply vM);(try simp only[vq]at*);try omega)
  all_goals first|exact hgr|(rw[hte];decide)|(exfalso;simp_all[aJ];done)|(have:=h4 k.toNat;omega)|skip
  all_goals(refine Sup.of (congrArg (PV.int .i64) ?_))
  ·rename_i h9
   by_cases hm:y∈ls.getD k.toNat []
   ·rw[if_neg (show¬(k<0∨ ↑ls.length≤k∨¬y∈ls.getD k.toNat [])from fun e=>by rcases e with e|e|e;exact h9 e;exact hq e;exact e hm),decide_eq_true hm];rfl
   ·rw[if_pos (show k<0∨ ↑ls.length≤k∨¬y∈ls.getD k.toNat []from .inr (.inr hm)),decide_eq_false hm];rfl
  ·rw[if_pos trivial,if_pos (.inr (.inl hq))]
  ·rw[if_pos trivial,if_pos (.inl hq)]
 ·rw[show gF c ls bX y x k=if k≠ -1 then 10 else 0 by unfold gF;rw[if_neg (by rw[hgr];decide),if_neg hy,if_neg hx,if_pos (by rw[hgr];decide)]]
  clear hy hx hg;refine av (md:=1) (rf:=[]) mixed au l7 Tryz.func126 (by rfl) (by rfl) (by rfl) ?_
  repeat'((conv=>whnf);first|refine Exists.intro (2) ?_|(intro hq;(try simp only[vw]at hq);try first|exact absurd hq (by decide)|exfalso;omega)|apply aI|with_reducible exact vM rfl|exact⟨⟩|apply nM|apply fM)
  all_goals((try apply vM);(try simp only[vq]at*);try omega)
  all_goals first|exact hgr|(rw[hte];decide)|(exfalso;simp_all[aJ];done)|(exact Sup.of (by simp[bI]))|skip
 ·rw[show gF c ls bZ y x k=if k≠ -1 then 10 else 0 by unfold gF;rw[if_neg (by rw[hgr];decide),if_neg hy,if_neg hx,if_pos (by rw[hgr];decide)]]
  clear hy hx hg;refine av (md:=1) (rf:=[]) mixed au l7 Tryz.func126 (by rfl) (by rfl) (by rfl) ?_
  repeat'((conv=>whnf);first|refine Exists.intro (3) ?_|(intro hq;(try simp only[vw]at hq);try first|exact absurd hq (by decide)|exfalso;omega)|apply aI|with_reducible exact vM rfl|exact⟨⟩|apply nM|apply fM)
  all_goals((try apply vM);(try simp only[vq]at*);try omega)
  all_goals first|exact hgr|(rw[hte];decide)|(exfalso;simp_all[aJ];done)|(exact Sup.of (by simp[bI]))|skip
 ·rw[show gF c ls bV y x k=if k<0∨ls.length≤k∨y∉ls.getD k.toNat []then 10 else 0 by unfold gF;rw[if_neg (by rw[hgr];decide),if_neg hy,if_neg hx,if_neg (by rw[hgr];decide)]]
  clear hy hx hg;refine av (md:=1) (rf:=[]) mixed au l7 Tryz.func126 (by rfl) (by rfl) (by rfl) ?_
  repeat'((conv=>whnf);first|refine Exists.intro (4) ?_|(intro hq;(try simp only[vw]at hq);try first|exact absurd hq (by decide)|exfalso;omega)|apply aI|with_reducible exact vM rfl|exact⟨⟩|apply nM|apply fM)
  all_goals((try apply vM);(try simp only[vq]at*);try omega)
  all_goals first|exact hgr|(rw[hte];decide)|(exfalso;simp_all[aJ];done)|(have:=h4 k.toNat;omega)|skip
  all_goals(refine Sup.of (congrArg (PV.int .i64) ?_))
  ·rename_i h9
   by_cases hm:y∈ls.getD k.toNat []
   ·rw[if_neg (show¬(k<0∨ ↑ls.length≤k∨¬y∈ls.getD k.toNat [])from fun e=>by rcases e with e|e|e;exact h9 e;exact hq e;exact e hm),decide_eq_true hm];rfl
   ·rw[if_pos (show k<0∨ ↑ls.length≤k∨¬y∈ls.getD k.toNat []from .inr (.inr hm)),decide_eq_false hm];rfl
  ·rw[if_pos trivial,if_pos (.inr (.inl hq))]
  ·rw[if_pos trivial,if_pos (.inl hq)]
 ·rw[show gF c ls bW y x k=if k<0∨ls.length≤k∨y∉ls.getD k.toNat []then 10 else 0 by unfold gF;rw[if_neg (by rw[hgr];decide),if_neg hy,if_neg hx,if_neg (by rw[hgr];decide)]]
  clear hy hx hg;refine av (md:=1) (rf:=[]) mixed au l7 Tryz.func126 (by rfl) (by rfl) (by rfl) ?_
  repeat'((conv=>whnf);first|refine Exists.intro (5) ?_|(intro hq;(try simp only[vw]at hq);try first|exact absurd hq (by decide)|exfalso;omega)|apply aI|with_reducible exact vM rfl|exact⟨⟩|apply nM|apply fM)
  all_goals((try apply vM);(try simp only[vq]at*);try omega)
  all_goals first|exact hgr|(rw[hte];decide)|(exfalso;simp_all[aJ];done)|(have:=h4 k.toNat;omega)|skip
  all_goals(refine Sup.of (congrArg (PV.int .i64) ?_))
  ·rename_i h9
   by_cases hm:y∈ls.getD k.toNat []
   ·rw[if_neg (show¬(k<0∨ ↑ls.length≤k∨¬y∈ls.getD k.toNat [])from fun e=>by rcases e with e|e|e;exact h9 e;exact hq e;exact e hm),decide_eq_true hm];rfl
   ·rw[if_pos (show k<0∨ ↑ls.length≤k∨¬y∈ls.getD k.toNat []from .inr (.inr hm)),decide_eq_false hm];rfl
  ·rw[if_pos trivial,if_pos (.inr (.inl hq))]
  ·rw[if_pos trivial,if_pos (.inl hq)]
 exact absurd hgr hg
def VW:PSp:=fun xs K=>match xs with
 | [.agg [.int .i64 c,.isl (.rows .i64 ls) .none,.int .i64 sum,.isl (.ints .i64 gv) .none],.agg [.str r,.int .i64 y,.int .i64 x,.int .i64 k]]=>VC (bO ls)∧K (.int .i64 (gF c ls r y x k))
 |_=>False
theorem aeG:POK Tryz.prog 126 VW:=by
 intro xs K h;unfold VW at h;split at h
 ·exact⟨_,h.2,VU _ _ _ _ h.1.get _ _ _ _⟩
 ·exact h.elim
theorem Dk.of {c:Int} {ls:List (List Int)} {r:ByteArray} {y x k:Int} (h:gF c ls r y x k=0):Dk c ls r y x k:=by
 unfold gF at h;by_cases h1:bJ r=0
 ·rw[if_pos h1]at h;cases h
 rw[if_neg h1]at h;by_cases h2:y<0∨c≤y
 ·rw[if_pos h2]at h;cases h
 rw[if_neg h2]at h;by_cases h3:x<1∨c<x
 ·rw[if_pos h3]at h;cases h
 rw[if_neg h3]at h;have hg:1≤bJ r:=by
  obtain⟨_,hg⟩|⟨_,hg⟩|⟨_,hg⟩|⟨_,hg⟩|⟨_,hg⟩|hg:=uZ r;all_goals omega
 refine⟨hg,by omega,by omega,?_⟩
 by_cases h4:bJ r=2∨bJ r=3
 ·rcases h4 with h4|h4
  ·exact .inl h4
  ·exact .inr (.inl h4)
 rw[if_neg h4]at h;by_cases h5:k<0∨ls.length≤k∨y∉ls.getD k.toNat []
 ·rw[if_pos h5]at h;cases h
 ·refine .inr (.inr ?_)
  constructor
  ·exact Int.not_lt.1 fun e=>h5 (.inl e)
  ·exact Int.not_le.1 fun e=>h5 (.inr (.inl e))
theorem sQ {go:List PV→Bool} {L A B:List PV} {d:PV} (h:L=A++d::B) (hg:GoTo go L A.length):Nxt go L A d:=⟨A.length,by rw[h];simp,by rw[h];simp,by rw[h];simp,hg⟩
theorem xg {L A B:List PV} {d:PV} (h:L=A++d::B):L.take (A.length+1)=A++[d]:=by
 rw[h,List.take_append,akL (by omega)];simp
theorem qQ {go:List PV→Bool} {L A B:List PV} {d:PV} (h:L=A++d::B) (hg:GoTo go L A.length) (ht:go (A++[d])=true):GoTo go L (A++[d]).length:=by
 rw[ai7];exact hg.succ (by rw[xg h];exact ht)
theorem qR {go:List PV→Bool} {L A B:List PV} {d:PV} (h:L=A++d::B) (hg:GoTo go L A.length) (ht:go (A++[d])=false):A++[d]=iQ go [] L:=by
 rw[←xg h,wI (by rw[h];simp) hg (by rw[xg h];exact ht)]
theorem qU {go:List PV→Bool} {L:List PV} (hg:GoTo go L L.length):L=iQ go [] L:=by rw[zl (ahO _) hg]
theorem Iy {α:Type} (f:Nat→List α) {j:Nat}:∀{m:Nat},j<m→∃B,(ahX m).flatMap f=(ahX j).flatMap f++(f j++B):=by
 intro m;induction m with
 |zero=>intro h;omega
 |succ m ih=>
  intro h;rw[akM,akN];by_cases e:j=m
  ·subst e;exact⟨[],by simp⟩
  ·obtain⟨B,hB⟩:=ih (by omega)
   exact⟨B++[m].flatMap f,by rw[hB];simp⟩
theorem jL {α:Type} (f:Nat→List α) (j:Nat):(ahX (j+1)).flatMap f=(ahX j).flatMap f++f j:=by
 rw[akM,akN];simp
def lnG (g:Nat):Bool:=g==1||g==4||g==5
def dB (g:Nat) (nm:ByteArray) (s:St) (sum:Int) (l:List Int) (k:Int) (i t:Nat):List PV:=(((s.cd i).take t).filter fun x=>jst g s sum l i x).map fun x=>ddV nm i x k
def dP (g:Nat) (nm:ByteArray) (s:St) (sum:Int) (l:List Int) (k:Int) (i:Nat):List PV:=if s.dc i||(lnG g&&!decide ((i:Int)∈l))then []else dB g nm s sum l k i (s.cd i).length
def bC (g:Nat) (nm:ByteArray) (s:St) (sum:Int) (ls:List (List Int)) (k:Int) (n:Nat):List PV:=(ahX n).flatMap fun i=>dP g nm s sum (ls.getD k.toNat []) k i
def bA (g:Nat) (nm:ByteArray) (s:St) (sum:Int) (ls:List (List Int)) (fr:Int) (m:Nat):List PV:=(ahX m).flatMap fun j:Nat=>bC g nm s sum ls (fr+j) s.cs.length
theorem gK {g:Nat} {nm:ByteArray} {s:St} {sum:Int} {l:List Int} {k:Int} {i:Nat}:dB g nm s sum l k i 0=[]:=rfl
theorem gL {g:Nat} {nm:ByteArray} {s:St} {sum:Int} {l:List Int} {k:Int} {i t:Nat} (h:t<(s.cd i).length):
 dB g nm s sum l k i (t+1)=dB g nm s sum l k i t++if jst g s sum l i ((s.cd i).getD t 0)then [ddV nm i ((s.cd i).getD t 0) k]else []:=by
 unfold dB;rw[dH h,akO,ajR,akP,akQ];split<;>simp
theorem Pw {g:Nat} {nm:ByteArray} {s:St} {sum:Int} {l:List Int} {k:Int} {i t:Nat} (h:t<(s.cd i).length) (hj:jst g s sum l i ((s.cd i).getD t 0)=true):
 ∃B,dB g nm s sum l k i (s.cd i).length=dB g nm s sum l k i t++ddV nm i ((s.cd i).getD t 0) k::B:=by
 have e:(s.cd i).take (s.cd i).length=(s.cd i).take t++((s.cd i).getD t 0::(s.cd i).drop (t+1)):=by rw[ajS,←drop_cons h,List.take_append_drop]
 unfold dB;rw[e,akO,ajR,akP,if_pos hj,ajN];exact⟨_,rfl⟩
theorem oJ {g:Nat} {nm:ByteArray} {s:St} {sum:Int} {ls:List (List Int)} {fr:Int} {m j i t:Nat} (hj:j<m) (hi:i<s.cs.length) (ht:t<(s.cd i).length)
 (hc:(s.dc i||(lnG g&&!decide ((i:Int)∈ls.getD (fr+j).toNat [])))=false) (hh:jst g s sum (ls.getD (fr+j).toNat []) i ((s.cd i).getD t 0)=true):
 ∃B,bA g nm s sum ls fr m=(bA g nm s sum ls fr j++bC g nm s sum ls (fr+j) i++dB g nm s sum (ls.getD (fr+j).toNat []) (fr+j) i t)++ddV nm i ((s.cd i).getD t 0) (fr+j)::B:=by
 obtain⟨B1,h1⟩:=Iy (fun j:Nat=>bC g nm s sum ls (fr+j) s.cs.length) hj;obtain⟨B2,h2⟩:=Iy (fun i=>dP g nm s sum (ls.getD (fr+j).toNat []) (fr+j) i) hi;obtain⟨B3,h3⟩:=Pw (nm:=nm) (k:=fr+j) ht hh;have h4:dP g nm s sum (ls.getD (fr+j).toNat []) (fr+j) i=dB g nm s sum (ls.getD (fr+j).toNat []) (fr+j) i (s.cd i).length:=by
  unfold dP;rw[hc];rfl
 refine⟨B3++B2++B1,?_⟩;unfold bA;rw[h1];simp only[bC,h2,h4,h3,akR,List.cons_append]
noncomputable def Dm:CPT:=aA 94 (aB Bv) (aA 149 (aB Bq) (aA 172 (aB (oH uS)) (aA 173 (aB (sP fun s y x=>uT s y)) (aA 174 (aB (sP oP)) (aA 175 (aB (oH oQ)) (aA 176 (aB (oH rZ)) noC))))))
theorem fH:aW Tryz.prog Dm:=aj (ak Db) (aj (ak Da) (aj (ak abq) (aj (ak abr) (aj (ak VG) (aj (ak Pk) (aj (ak Fh) aC))))))
abbrev rlV (nm:ByteArray) (d l:Bool) (k:Nat):PV:=.ip (.pv [.str nm,.bool d,.bool l,kF k]) 0
theorem Sn (c:Int) (ls:List (List Int)) (sum:Int) (gv:List Int) (s:St) (h:aR c ls sum s):
 nX Tryz.prog 180 [] [.ip (.pv [.int .i64 0]) 0,.ip (.pv [.int .i64 ls.length]) 0,.ip (.pv [bdV c ls sum gv s]) 0,rlV bP true true 172] 1 (bA 1 bP s sum ls 0 ls.length):=by
 refine lQ (md:=1) (rf:=[]) mixed au Tryz.func180 (by rfl) (by rfl) (by rfl) fun G go b hY=>⟨_,fH,?_⟩
 obtain⟨L,hL⟩:∃L,L=bA 1 bP s sum ls 0 ls.length:=⟨_,rfl⟩;rw[←hL]at hY⊢;have W:Walk Tryz.prog none kR tab.get Dm (uM b 1 G go L):=⟨aK,mixed,au,fH,hY _ _⟩;have hcl:=h.cl;have hdl:=h.dl;have hc1:=h.c1;have hms:=dW s.cs;have hll:=h.ll
 repeat'((conv=>whnf);first|intro _|apply aI|with_reducible exact vM rfl|exact⟨⟩|apply nM|apply fM)
 all_goals((try apply vM);(try simp only[vq]at*);try omega)
 conv=>whnf
 refine aM (X:=Nat) (fun j=>j≤ls.length∧GoTo go L (bA 1 bP s sum ls 0 j).length) (fun j=>[(6,.rp 2 0)]) (fun j=>[(0,.ext G (bA 1 bP s sum ls 0 j)),(2,.cells (.pv [.int .i64 (0+(j:Int))]) false)]) (fun j=>ls.length-j) 0 W (by rfl) ⟨by omega,.zero⟩ ?_ ?_
 ·repeat'((conv=>whnf);first|intro _|apply aI|with_reducible exact vM rfl|exact⟨⟩|apply nM|apply fM)
  all_goals((try apply vM);(try simp only[vq]at*);try omega)
  all_goals rfl
 intro j ⟨hj,hgo⟩;by_cases hlt:j<ls.length
 ·have e2:bA 1 bP s sum ls 0 (j+1)=bA 1 bP s sum ls 0 j++bC 1 bP s sum ls (0+(j:Int)) s.cs.length:=by unfold bA;rw[jL]
  have hln:=h.ln j hlt;have hlen:=hln.len;have ejt:(0+(j:Int)).toNat=j:=by omega
  repeat'((conv=>whnf);first|(intro hq;(try simp only[vw]at hq);try first|exact absurd hq (by decide)|exfalso;omega)|apply aI|with_reducible exact vM rfl|exact⟨⟩|apply nM|apply fM)
  all_goals((try apply vM);(try simp only[vq]at*);try omega)
  conv=>whnf
  refine aM (X:=Nat) (fun i=>i≤s.cs.length∧GoTo go L (bA 1 bP s sum ls 0 j++bC 1 bP s sum ls (0+(j:Int)) i).length) (fun i=>[(22,.int .i64 i)]) (fun i=>[(0,.ext G (bA 1 bP s sum ls 0 j++bC 1 bP s sum ls (0+(j:Int)) i))]) (fun i=>s.cs.length-i) 0 W (by rfl) ⟨by omega,by simpa [bC]using hgo⟩ ?_ ?_
  ·repeat'((conv=>whnf);first|intro _|apply aI|with_reducible exact vM rfl|exact⟨⟩|apply nM|apply fM)
   all_goals((try apply vM);(try simp only[vq]at*);try omega)
   all_goals(simp[bC])
  intro i ⟨hi,hgo2⟩;by_cases hlt2:i<s.cs.length
  ·have hm:(ms s.cs).getD i 0=(mk (s.cd i):Nat):=gq hlt2
   have hA:=(h.asc _ hlt2).1;have hAc:=(h.asc _ hlt2).2;have e1:bC 1 bP s sum ls (0+(j:Int)) (i+1)=bC 1 bP s sum ls (0+(j:Int)) i++dP 1 bP s sum (ls.getD (0+(j:Int)).toNat []) (0+(j:Int)) i:=by unfold bC;rw[jL]
   repeat'((conv=>whnf);first|(intro hq;(try simp only[vw]at hq);try first|exact absurd hq (by decide)|exfalso;omega)|apply aI|with_reducible exact vM rfl|exact⟨⟩|apply nM|apply fM)
   all_goals((try apply vM);(try simp only[vq]at*);try omega)
   all_goals(try first|omega|(rw[ejt];omega))
   ·have hce:dP 1 bP s sum (ls.getD (0+(j:Int)).toNat []) (0+(j:Int)) i=[]:=by unfold dP;rw[show decide ((i:Int)∈(ls.getD (0+(j:Int)).toNat []))=false by apply decide_eq_false;assumption];cases s.dc i<;>rfl
    rw[hce,ajL]at e1;refine⟨i+1,[],⟨⟨by omega,by rw[e1];exact hgo2⟩,by omega⟩,?_⟩
    rw[e1]
    repeat'((conv=>whnf);first|intro _|apply aI|with_reducible exact vM rfl|exact⟨⟩|apply nM|apply fM)
    all_goals((try apply vM);(try simp only[vq]at*);try omega)
   ·have hcc:(s.dc i||(lnG 1&&!decide ((i:Int)∈(ls.getD (0+(j:Int)).toNat []))))=false:=by rw[show s.dc i=false by assumption,show decide ((i:Int)∈(ls.getD (0+(j:Int)).toNat []))=true by apply decide_eq_true;assumption];rfl
    have hce:dP 1 bP s sum (ls.getD (0+(j:Int)).toNat []) (0+(j:Int)) i=dB 1 bP s sum (ls.getD (0+(j:Int)).toNat []) (0+(j:Int)) i (s.cd i).length:=by unfold dP;rw[hcc];rfl
    rw[hce]at e1;have hsp:∀t,t<(s.cd i).length→jst 1 s sum (ls.getD (0+(j:Int)).toNat []) i ((s.cd i).getD t 0)=true→∃B,L=(bA 1 bP s sum ls 0 j++bC 1 bP s sum ls (0+(j:Int)) i++dB 1 bP s sum (ls.getD (0+(j:Int)).toNat []) (0+(j:Int)) i t)++ddV bP i ((s.cd i).getD t 0) (0+(j:Int))::B:=fun t ht hh=>by
     rw[hL];exact oJ (g:=1) (nm:=bP) (s:=s) (sum:=sum) (ls:=ls) (fr:=0) (m:=ls.length) (j:=j) (i:=i) (t:=t) hlt hlt2 ht hcc hh
    have hpos:∀t,t≤(s.cd i).length→(∀t',t'<t→(!jst 1 s sum (ls.getD (0+(j:Int)).toNat []) i ((s.cd i).getD t' 0)||go ((bA 1 bP s sum ls 0 j++bC 1 bP s sum ls (0+(j:Int)) i++dB 1 bP s sum (ls.getD (0+(j:Int)).toNat []) (0+(j:Int)) i t')++[ddV bP i ((s.cd i).getD t' 0) (0+(j:Int))]))=true)→GoTo go L (bA 1 bP s sum ls 0 j++bC 1 bP s sum ls (0+(j:Int)) i++dB 1 bP s sum (ls.getD (0+(j:Int)).toNat []) (0+(j:Int)) i t).length:=by
     intro t;induction t with
     |zero=>intro _ _;rw[gK,ajL];exact hgo2
     |succ t ih=>
      intro ht hall;have g0:=ih (by omega) fun t' h'=>hall t' (by omega)
      have g1:=hall t (by omega)
      rw[gL (by omega)]
      split
      ·rename_i hh
       rw[hh]at g1;obtain⟨B,hB⟩:=hsp t (by omega) hh
       rw[←akR];exact qQ hB g0 (by simpa using g1)
      ·rw[ajL];exact g0
    rw[hm];conv=>whnf
    refine jo aK mixed au fH (fun r=>hY r _) (fs:=[]) (cs:=[.ip (.pv [.int .u32 (mk (s.cd i):Nat)]) 0]) ((s.cd i).map (PV.int .i64)) (fun t=>(!jst 1 s sum (ls.getD (0+(j:Int)).toNat []) i ((s.cd i).getD t 0)||go ((bA 1 bP s sum ls 0 j++bC 1 bP s sum ls (0+(j:Int)) i++dB 1 bP s sum (ls.getD (0+(j:Int)).toNat []) (0+(j:Int)) i t)++[ddV bP i ((s.cd i).getD t 0) (0+(j:Int))]))) (fun t=>[(0,.ext G (bA 1 bP s sum ls 0 j++bC 1 bP s sum ls (0+(j:Int)) i++dB 1 bP s sum (ls.getD (0+(j:Int)).toNat []) (0+(j:Int)) i t))]) (by rfl) (by rfl) (by rfl) (kC (s.cd i) hA) (by rfl) (by rfl) (by rfl) (by rfl) ?_ ?_ ?_
    ·repeat'((conv=>whnf);first|intro _|apply aI|with_reducible exact vM rfl|exact⟨⟩|apply nM|apply fM)
     all_goals((try apply vM);(try simp only[vq]at*);try omega)
     all_goals(rw[gK,ajL])
    ·intro hall
     rw[ajO]at hall⊢;have g9:=hpos _ (ahO _) hall
     repeat'((conv=>whnf);first|intro _|apply aI|with_reducible exact vM rfl|exact⟨⟩|apply nM|apply fM)
     all_goals((try apply vM);(try simp only[vq]at*);try omega)
     refine⟨i+1,[],⟨⟨by omega,by rw[e1,←akR];exact g9⟩,by omega⟩,?_⟩
     rw[e1,←akR]
     repeat'((conv=>whnf);first|intro _|apply aI|with_reducible exact vM rfl|exact⟨⟩|apply nM|apply fM)
     all_goals((try apply vM);(try simp only[vq]at*);try omega)
    ·intro t x hx hall lp
     obtain⟨ht,rfl⟩:=pV hx;have hxC:=dx ht;have hxr:=hA.rng _ hxC;have hxc:=hAc _ hxC;have g0:=hpos t (by omega) hall
     have hs1:=hsp t ht;have cs1:=gL (g:=1) (nm:=bP) (s:=s) (sum:=sum) (l:=(ls.getD (0+(j:Int)).toNat [])) (k:=(0+(j:Int))) ht
     repeat'((conv=>whnf);first|refine Exists.intro (s) ?_|(intro hq;(try simp only[vw]at hq);try first|exact absurd hq (by decide)|exfalso;omega)|apply aI|with_reducible exact vM rfl|exact⟨⟩|apply nM|apply fM)
     all_goals((try apply vM);(try simp only[vq]at*);try omega)
     all_goals(try omega)
     ·exact⟨h,by omega,by omega,by omega⟩
     ·obtain⟨B,hB⟩:=hs1 (by assumption)
      exact sQ hB g0
     ·rw[show jst 1 s sum (ls.getD (0+(j:Int)).toNat []) i ((s.cd i).getD t 0)=true by assumption]
      assumption
     ·obtain⟨B,hB⟩:=hs1 (by assumption)
      exact qR hB g0 (by assumption)
     ·have q1:jst 1 s sum (ls.getD (0+(j:Int)).toNat []) i ((s.cd i).getD t 0)=true:=by assumption
      have q2:go ((bA 1 bP s sum ls 0 j++bC 1 bP s sum ls (0+(j:Int)) i++dB 1 bP s sum (ls.getD (0+(j:Int)).toNat []) (0+(j:Int)) i t)++[ddV bP i ((s.cd i).getD t 0) (0+(j:Int))])=true:=by assumption
      refine⟨[],?_⟩;rw[cs1,if_pos q1,←akR]
      repeat'((conv=>whnf);first|intro _|apply aI|with_reducible exact vM rfl|exact⟨⟩|apply nM|apply fM)
      all_goals((try apply vM);(try simp only[vq]at*);try omega)
      all_goals(try first|(rw[q1,q2];rfl)|rfl)
     ·have q1:jst 1 s sum (ls.getD (0+(j:Int)).toNat []) i ((s.cd i).getD t 0)=false:=by assumption
      refine⟨[],?_⟩;rw[cs1,if_neg (by rw[q1];decide),ajL]
      repeat'((conv=>whnf);first|intro _|apply aI|with_reducible exact vM rfl|exact⟨⟩|apply nM|apply fM)
      all_goals((try apply vM);(try simp only[vq]at*);try omega)
      all_goals(try(rw[q1];rfl))
   ·have hce:dP 1 bP s sum (ls.getD (0+(j:Int)).toNat []) (0+(j:Int)) i=[]:=by unfold dP;rw[show s.dc i=true from hq];rfl
    rw[hce,ajL]at e1;refine⟨i+1,[],⟨⟨by omega,by rw[e1];exact hgo2⟩,by omega⟩,?_⟩
    rw[e1]
    repeat'((conv=>whnf);first|intro _|apply aI|with_reducible exact vM rfl|exact⟨⟩|apply nM|apply fM)
    all_goals((try apply vM);(try simp only[vq]at*);try omega)
  ·have:i=s.cs.length:=by omega
   subst this;rw[←e2]at hgo2⊢
   repeat'((conv=>whnf);first|(intro hq;(try simp only[vw]at hq);try first|exact absurd hq (by decide)|exfalso;omega)|apply aI|with_reducible exact vM rfl|exact⟨⟩|apply nM|apply fM)
   all_goals((try apply vM);(try simp only[vq]at*);try omega)
   refine⟨j+1,[(21,2)],⟨⟨by omega,hgo2⟩,by omega⟩,?_⟩
   repeat'((conv=>whnf);first|intro _|apply aI|with_reducible exact vM rfl|exact⟨⟩|apply nM|apply fM)
   all_goals((try apply vM);(try simp only[vq]at*);try omega)
 ·have:j=ls.length:=by omega
  subst this
  repeat'((conv=>whnf);first|(intro hq;(try simp only[vw]at hq);try first|exact absurd hq (by decide)|exfalso;omega)|apply aI|with_reducible exact vM rfl|exact⟨⟩|apply nM|apply fM)
  all_goals((try apply vM);(try simp only[vq]at*);try omega)
  rw[hL];rw[hL]at hgo;exact qU hgo
theorem Sq (c:Int) (ls:List (List Int)) (sum:Int) (gv:List Int) (s:St) (h:aR c ls sum s):
 nX Tryz.prog 180 [] [.ip (.pv [.int .i64 (-1)]) 0,.ip (.pv [.int .i64 0]) 0,.ip (.pv [bdV c ls sum gv s]) 0,rlV bX true false 173] 1 (bA 2 bX s sum ls (-1) 1):=by
 refine lQ (md:=1) (rf:=[]) mixed au Tryz.func180 (by rfl) (by rfl) (by rfl) fun G go b hY=>⟨_,fH,?_⟩
 obtain⟨L,hL⟩:∃L,L=bA 2 bX s sum ls (-1) 1:=⟨_,rfl⟩;rw[←hL]at hY⊢;have W:Walk Tryz.prog none kR tab.get Dm (uM b 1 G go L):=⟨aK,mixed,au,fH,hY _ _⟩;have hcl:=h.cl;have hdl:=h.dl;have hc1:=h.c1;have hms:=dW s.cs;have hll:=h.ll
 repeat'((conv=>whnf);first|intro _|apply aI|with_reducible exact vM rfl|exact⟨⟩|apply nM|apply fM)
 all_goals((try apply vM);(try simp only[vq]at*);try omega)
 conv=>whnf
 refine aM (X:=Nat) (fun j=>j≤1∧GoTo go L (bA 2 bX s sum ls (-1) j).length) (fun j=>[(6,.rp 2 0)]) (fun j=>[(0,.ext G (bA 2 bX s sum ls (-1) j)),(2,.cells (.pv [.int .i64 ((-1)+(j:Int))]) false)]) (fun j=>1-j) 0 W (by rfl) ⟨by omega,.zero⟩ ?_ ?_
 ·repeat'((conv=>whnf);first|intro _|apply aI|with_reducible exact vM rfl|exact⟨⟩|apply nM|apply fM)
  all_goals((try apply vM);(try simp only[vq]at*);try omega)
  all_goals rfl
 intro j ⟨hj,hgo⟩;by_cases hlt:j<1
 ·have e2:bA 2 bX s sum ls (-1) (j+1)=bA 2 bX s sum ls (-1) j++bC 2 bX s sum ls ((-1)+(j:Int)) s.cs.length:=by unfold bA;rw[jL]
  repeat'((conv=>whnf);first|(intro hq;(try simp only[vw]at hq);try first|exact absurd hq (by decide)|exfalso;omega)|apply aI|with_reducible exact vM rfl|exact⟨⟩|apply nM|apply fM)
  all_goals((try apply vM);(try simp only[vq]at*);try omega)
  conv=>whnf
  refine aM (X:=Nat) (fun i=>i≤s.cs.length∧GoTo go L (bA 2 bX s sum ls (-1) j++bC 2 bX s sum ls ((-1)+(j:Int)) i).length) (fun i=>[(22,.int .i64 i)]) (fun i=>[(0,.ext G (bA 2 bX s sum ls (-1) j++bC 2 bX s sum ls ((-1)+(j:Int)) i))]) (fun i=>s.cs.length-i) 0 W (by rfl) ⟨by omega,by simpa [bC]using hgo⟩ ?_ ?_
  ·repeat'((conv=>whnf);first|intro _|apply aI|with_reducible exact vM rfl|exact⟨⟩|apply nM|apply fM)
   all_goals((try apply vM);(try simp only[vq]at*);try omega)
   all_goals(simp[bC])
  intro i ⟨hi,hgo2⟩;by_cases hlt2:i<s.cs.length
  ·have hm:(ms s.cs).getD i 0=(mk (s.cd i):Nat):=gq hlt2
   have hA:=(h.asc _ hlt2).1;have hAc:=(h.asc _ hlt2).2;have e1:bC 2 bX s sum ls ((-1)+(j:Int)) (i+1)=bC 2 bX s sum ls ((-1)+(j:Int)) i++dP 2 bX s sum (ls.getD ((-1)+(j:Int)).toNat []) ((-1)+(j:Int)) i:=by unfold bC;rw[jL]
   repeat'((conv=>whnf);first|(intro hq;(try simp only[vw]at hq);try first|exact absurd hq (by decide)|exfalso;omega)|apply aI|with_reducible exact vM rfl|exact⟨⟩|apply nM|apply fM)
   all_goals((try apply vM);(try simp only[vq]at*);try omega)
   all_goals(try first|omega|(rw[ejt];omega))
   ·have hcc:(s.dc i||(lnG 2&&!decide ((i:Int)∈(ls.getD ((-1)+(j:Int)).toNat []))))=false:=by rw[show s.dc i=false from hq];rfl
    have hce:dP 2 bX s sum (ls.getD ((-1)+(j:Int)).toNat []) ((-1)+(j:Int)) i=dB 2 bX s sum (ls.getD ((-1)+(j:Int)).toNat []) ((-1)+(j:Int)) i (s.cd i).length:=by unfold dP;rw[hcc];rfl
    rw[hce]at e1;have hsp:∀t,t<(s.cd i).length→jst 2 s sum (ls.getD ((-1)+(j:Int)).toNat []) i ((s.cd i).getD t 0)=true→∃B,L=(bA 2 bX s sum ls (-1) j++bC 2 bX s sum ls ((-1)+(j:Int)) i++dB 2 bX s sum (ls.getD ((-1)+(j:Int)).toNat []) ((-1)+(j:Int)) i t)++ddV bX i ((s.cd i).getD t 0) ((-1)+(j:Int))::B:=fun t ht hh=>by
     rw[hL];exact oJ (g:=2) (nm:=bX) (s:=s) (sum:=sum) (ls:=ls) (fr:=(-1)) (m:=1) (j:=j) (i:=i) (t:=t) hlt hlt2 ht hcc hh
    have hpos:∀t,t≤(s.cd i).length→(∀t',t'<t→(!jst 2 s sum (ls.getD ((-1)+(j:Int)).toNat []) i ((s.cd i).getD t' 0)||go ((bA 2 bX s sum ls (-1) j++bC 2 bX s sum ls ((-1)+(j:Int)) i++dB 2 bX s sum (ls.getD ((-1)+(j:Int)).toNat []) ((-1)+(j:Int)) i t')++[ddV bX i ((s.cd i).getD t' 0) ((-1)+(j:Int))]))=true)→GoTo go L (bA 2 bX s sum ls (-1) j++bC 2 bX s sum ls ((-1)+(j:Int)) i++dB 2 bX s sum (ls.getD ((-1)+(j:Int)).toNat []) ((-1)+(j:Int)) i t).length:=by
     intro t;induction t with
     |zero=>intro _ _;rw[gK,ajL];exact hgo2
     |succ t ih=>
      intro ht hall;have g0:=ih (by omega) fun t' h'=>hall t' (by omega)
      have g1:=hall t (by omega)
      rw[gL (by omega)]
      split
      ·rename_i hh
       rw[hh]at g1;obtain⟨B,hB⟩:=hsp t (by omega) hh
       rw[←akR];exact qQ hB g0 (by simpa using g1)
      ·rw[ajL];exact g0
    rw[hm];conv=>whnf
    refine jo aK mixed au fH (fun r=>hY r _) (fs:=[]) (cs:=[.ip (.pv [.int .u32 (mk (s.cd i):Nat)]) 0]) ((s.cd i).map (PV.int .i64)) (fun t=>(!jst 2 s sum (ls.getD ((-1)+(j:Int)).toNat []) i ((s.cd i).getD t 0)||go ((bA 2 bX s sum ls (-1) j++bC 2 bX s sum ls ((-1)+(j:Int)) i++dB 2 bX s sum (ls.getD ((-1)+(j:Int)).toNat []) ((-1)+(j:Int)) i t)++[ddV bX i ((s.cd i).getD t 0) ((-1)+(j:Int))]))) (fun t=>[(0,.ext G (bA 2 bX s sum ls (-1) j++bC 2 bX s sum ls ((-1)+(j:Int)) i++dB 2 bX s sum (ls.getD ((-1)+(j:Int)).toNat []) ((-1)+(j:Int)) i t))]) (by rfl) (by rfl) (by rfl) (kC (s.cd i) hA) (by rfl) (by rfl) (by rfl) (by rfl) ?_ ?_ ?_
    ·repeat'((conv=>whnf);first|intro _|apply aI|with_reducible exact vM rfl|exact⟨⟩|apply nM|apply fM)
     all_goals((try apply vM);(try simp only[vq]at*);try omega)
     all_goals(rw[gK,ajL])
    ·intro hall
     rw[ajO]at hall⊢;have g9:=hpos _ (ahO _) hall
     repeat'((conv=>whnf);first|intro _|apply aI|with_reducible exact vM rfl|exact⟨⟩|apply nM|apply fM)
     all_goals((try apply vM);(try simp only[vq]at*);try omega)
     refine⟨i+1,[],⟨⟨by omega,by rw[e1,←akR];exact g9⟩,by omega⟩,?_⟩
     rw[e1,←akR]
     repeat'((conv=>whnf);first|intro _|apply aI|with_reducible exact vM rfl|exact⟨⟩|apply nM|apply fM)
     all_goals((try apply vM);(try simp only[vq]at*);try omega)
    ·intro t x hx hall lp
     obtain⟨ht,rfl⟩:=pV hx;have hxC:=dx ht;have hxr:=hA.rng _ hxC;have hxc:=hAc _ hxC;have g0:=hpos t (by omega) hall
     have hs1:=hsp t ht;have cs1:=gL (g:=2) (nm:=bX) (s:=s) (sum:=sum) (l:=(ls.getD ((-1)+(j:Int)).toNat [])) (k:=((-1)+(j:Int))) ht
     repeat'((conv=>whnf);first|refine Exists.intro (s) ?_|(intro hq;(try simp only[vw]at hq);try first|exact absurd hq (by decide)|exfalso;omega)|apply aI|with_reducible exact vM rfl|exact⟨⟩|apply nM|apply fM)
     all_goals((try apply vM);(try simp only[vq]at*);try omega)
     all_goals(try omega)
     ·exact⟨h,by omega,by omega⟩
     ·obtain⟨B,hB⟩:=hs1 (by assumption)
      exact sQ hB g0
     ·rw[show jst 2 s sum (ls.getD ((-1)+(j:Int)).toNat []) i ((s.cd i).getD t 0)=true by assumption]
      assumption
     ·obtain⟨B,hB⟩:=hs1 (by assumption)
      exact qR hB g0 (by assumption)
     ·have q1:jst 2 s sum (ls.getD ((-1)+(j:Int)).toNat []) i ((s.cd i).getD t 0)=true:=by assumption
      have q2:go ((bA 2 bX s sum ls (-1) j++bC 2 bX s sum ls ((-1)+(j:Int)) i++dB 2 bX s sum (ls.getD ((-1)+(j:Int)).toNat []) ((-1)+(j:Int)) i t)++[ddV bX i ((s.cd i).getD t 0) ((-1)+(j:Int))])=true:=by assumption
      refine⟨[],?_⟩;rw[cs1,if_pos q1,←akR]
      repeat'((conv=>whnf);first|intro _|apply aI|with_reducible exact vM rfl|exact⟨⟩|apply nM|apply fM)
      all_goals((try apply vM);(try simp only[vq]at*);try omega)
      all_goals(try first|(rw[q1,q2];rfl)|rfl)
     ·have q1:jst 2 s sum (ls.getD ((-1)+(j:Int)).toNat []) i ((s.cd i).getD t 0)=false:=by assumption
      refine⟨[],?_⟩;rw[cs1,if_neg (by rw[q1];decide),ajL]
      repeat'((conv=>whnf);first|intro _|apply aI|with_reducible exact vM rfl|exact⟨⟩|apply nM|apply fM)
      all_goals((try apply vM);(try simp only[vq]at*);try omega)
      all_goals(try(rw[q1];rfl))
   ·have hce:dP 2 bX s sum (ls.getD ((-1)+(j:Int)).toNat []) ((-1)+(j:Int)) i=[]:=by unfold dP;rw[show s.dc i=true from hq];rfl
    rw[hce,ajL]at e1;refine⟨i+1,[],⟨⟨by omega,by rw[e1];exact hgo2⟩,by omega⟩,?_⟩
    rw[e1]
    repeat'((conv=>whnf);first|intro _|apply aI|with_reducible exact vM rfl|exact⟨⟩|apply nM|apply fM)
    all_goals((try apply vM);(try simp only[vq]at*);try omega)
  ·have:i=s.cs.length:=by omega
   subst this;rw[←e2]at hgo2⊢
   repeat'((conv=>whnf);first|(intro hq;(try simp only[vw]at hq);try first|exact absurd hq (by decide)|exfalso;omega)|apply aI|with_reducible exact vM rfl|exact⟨⟩|apply nM|apply fM)
   all_goals((try apply vM);(try simp only[vq]at*);try omega)
   refine⟨j+1,[(21,2)],⟨⟨by omega,hgo2⟩,by omega⟩,?_⟩
   repeat'((conv=>whnf);first|intro _|apply aI|with_reducible exact vM rfl|exact⟨⟩|apply nM|apply fM)
   all_goals((try apply vM);(try simp only[vq]at*);try omega)
 ·have:j=1:=by omega
  subst this
  repeat'((conv=>whnf);first|(intro hq;(try simp only[vw]at hq);try first|exact absurd hq (by decide)|exfalso;omega)|apply aI|with_reducible exact vM rfl|exact⟨⟩|apply nM|apply fM)
  all_goals((try apply vM);(try simp only[vq]at*);try omega)
  rw[hL];rw[hL]at hgo;exact qU hgo
theorem Sr (c:Int) (ls:List (List Int)) (sum:Int) (gv:List Int) (s:St) (h:aR c ls sum s):
 nX Tryz.prog 180 [] [.ip (.pv [.int .i64 (-1)]) 0,.ip (.pv [.int .i64 0]) 0,.ip (.pv [bdV c ls sum gv s]) 0,rlV bZ true false 174] 1 (bA 3 bZ s sum ls (-1) 1):=by
 refine lQ (md:=1) (rf:=[]) mixed au Tryz.func180 (by rfl) (by rfl) (by rfl) fun G go b hY=>⟨_,fH,?_⟩
 obtain⟨L,hL⟩:∃L,L=bA 3 bZ s sum ls (-1) 1:=⟨_,rfl⟩;rw[←hL]at hY⊢;have W:Walk Tryz.prog none kR tab.get Dm (uM b 1 G go L):=⟨aK,mixed,au,fH,hY _ _⟩;have hcl:=h.cl;have hdl:=h.dl;have hc1:=h.c1;have hms:=dW s.cs;have hll:=h.ll
 repeat'((conv=>whnf);first|intro _|apply aI|with_reducible exact vM rfl|exact⟨⟩|apply nM|apply fM)
 all_goals((try apply vM);(try simp only[vq]at*);try omega)
 conv=>whnf
 refine aM (X:=Nat) (fun j=>j≤1∧GoTo go L (bA 3 bZ s sum ls (-1) j).length) (fun j=>[(6,.rp 2 0)]) (fun j=>[(0,.ext G (bA 3 bZ s sum ls (-1) j)),(2,.cells (.pv [.int .i64 ((-1)+(j:Int))]) false)]) (fun j=>1-j) 0 W (by rfl) ⟨by omega,.zero⟩ ?_ ?_
 ·repeat'((conv=>whnf);first|intro _|apply aI|with_reducible exact vM rfl|exact⟨⟩|apply nM|apply fM)
  all_goals((try apply vM);(try simp only[vq]at*);try omega)
  all_goals rfl
 intro j ⟨hj,hgo⟩;by_cases hlt:j<1
 ·have e2:bA 3 bZ s sum ls (-1) (j+1)=bA 3 bZ s sum ls (-1) j++bC 3 bZ s sum ls ((-1)+(j:Int)) s.cs.length:=by unfold bA;rw[jL]
  repeat'((conv=>whnf);first|(intro hq;(try simp only[vw]at hq);try first|exact absurd hq (by decide)|exfalso;omega)|apply aI|with_reducible exact vM rfl|exact⟨⟩|apply nM|apply fM)
  all_goals((try apply vM);(try simp only[vq]at*);try omega)
  conv=>whnf
  refine aM (X:=Nat) (fun i=>i≤s.cs.length∧GoTo go L (bA 3 bZ s sum ls (-1) j++bC 3 bZ s sum ls ((-1)+(j:Int)) i).length) (fun i=>[(22,.int .i64 i)]) (fun i=>[(0,.ext G (bA 3 bZ s sum ls (-1) j++bC 3 bZ s sum ls ((-1)+(j:Int)) i))]) (fun i=>s.cs.length-i) 0 W (by rfl) ⟨by omega,by simpa [bC]using hgo⟩ ?_ ?_
  ·repeat'((conv=>whnf);first|intro _|apply aI|with_reducible exact vM rfl|exact⟨⟩|apply nM|apply fM)
   all_goals((try apply vM);(try simp only[vq]at*);try omega)
   all_goals(simp[bC])
  intro i ⟨hi,hgo2⟩;by_cases hlt2:i<s.cs.length
  ·have hm:(ms s.cs).getD i 0=(mk (s.cd i):Nat):=gq hlt2
   have hA:=(h.asc _ hlt2).1;have hAc:=(h.asc _ hlt2).2;have e1:bC 3 bZ s sum ls ((-1)+(j:Int)) (i+1)=bC 3 bZ s sum ls ((-1)+(j:Int)) i++dP 3 bZ s sum (ls.getD ((-1)+(j:Int)).toNat []) ((-1)+(j:Int)) i:=by unfold bC;rw[jL]
   repeat'((conv=>whnf);first|(intro hq;(try simp only[vw]at hq);try first|exact absurd hq (by decide)|exfalso;omega)|apply aI|with_reducible exact vM rfl|exact⟨⟩|apply nM|apply fM)
   all_goals((try apply vM);(try simp only[vq]at*);try omega)
   all_goals(try first|omega|(rw[ejt];omega))
   ·have hcc:(s.dc i||(lnG 3&&!decide ((i:Int)∈(ls.getD ((-1)+(j:Int)).toNat []))))=false:=by rw[show s.dc i=false from hq];rfl
    have hce:dP 3 bZ s sum (ls.getD ((-1)+(j:Int)).toNat []) ((-1)+(j:Int)) i=dB 3 bZ s sum (ls.getD ((-1)+(j:Int)).toNat []) ((-1)+(j:Int)) i (s.cd i).length:=by unfold dP;rw[hcc];rfl
    rw[hce]at e1;have hsp:∀t,t<(s.cd i).length→jst 3 s sum (ls.getD ((-1)+(j:Int)).toNat []) i ((s.cd i).getD t 0)=true→∃B,L=(bA 3 bZ s sum ls (-1) j++bC 3 bZ s sum ls ((-1)+(j:Int)) i++dB 3 bZ s sum (ls.getD ((-1)+(j:Int)).toNat []) ((-1)+(j:Int)) i t)++ddV bZ i ((s.cd i).getD t 0) ((-1)+(j:Int))::B:=fun t ht hh=>by
     rw[hL];exact oJ (g:=3) (nm:=bZ) (s:=s) (sum:=sum) (ls:=ls) (fr:=(-1)) (m:=1) (j:=j) (i:=i) (t:=t) hlt hlt2 ht hcc hh
    have hpos:∀t,t≤(s.cd i).length→(∀t',t'<t→(!jst 3 s sum (ls.getD ((-1)+(j:Int)).toNat []) i ((s.cd i).getD t' 0)||go ((bA 3 bZ s sum ls (-1) j++bC 3 bZ s sum ls ((-1)+(j:Int)) i++dB 3 bZ s sum (ls.getD ((-1)+(j:Int)).toNat []) ((-1)+(j:Int)) i t')++[ddV bZ i ((s.cd i).getD t' 0) ((-1)+(j:Int))]))=true)→GoTo go L (bA 3 bZ s sum ls (-1) j++bC 3 bZ s sum ls ((-1)+(j:Int)) i++dB 3 bZ s sum (ls.getD ((-1)+(j:Int)).toNat []) ((-1)+(j:Int)) i t).length:=by
     intro t;induction t with
     |zero=>intro _ _;rw[gK,ajL];exact hgo2
     |succ t ih=>
      intro ht hall;have g0:=ih (by omega) fun t' h'=>hall t' (by omega)
      have g1:=hall t (by omega)
      rw[gL (by omega)]
      split
      ·rename_i hh
       rw[hh]at g1;obtain⟨B,hB⟩:=hsp t (by omega) hh
       rw[←akR];exact qQ hB g0 (by simpa using g1)
      ·rw[ajL];exact g0
    rw[hm];conv=>whnf
    refine jo aK mixed au fH (fun r=>hY r _) (fs:=[]) (cs:=[.ip (.pv [.int .u32 (mk (s.cd i):Nat)]) 0]) ((s.cd i).map (PV.int .i64)) (fun t=>(!jst 3 s sum (ls.getD ((-1)+(j:Int)).toNat []) i ((s.cd i).getD t 0)||go ((bA 3 bZ s sum ls (-1) j++bC 3 bZ s sum ls ((-1)+(j:Int)) i++dB 3 bZ s sum (ls.getD ((-1)+(j:Int)).toNat []) ((-1)+(j:Int)) i t)++[ddV bZ i ((s.cd i).getD t 0) ((-1)+(j:Int))]))) (fun t=>[(0,.ext G (bA 3 bZ s sum ls (-1) j++bC 3 bZ s sum ls ((-1)+(j:Int)) i++dB 3 bZ s sum (ls.getD ((-1)+(j:Int)).toNat []) ((-1)+(j:Int)) i t))]) (by rfl) (by rfl) (by rfl) (kC (s.cd i) hA) (by rfl) (by rfl) (by rfl) (by rfl) ?_ ?_ ?_
    ·repeat'((conv=>whnf);first|intro _|apply aI|with_reducible exact vM rfl|exact⟨⟩|apply nM|apply fM)
     all_goals((try apply vM);(try simp only[vq]at*);try omega)
     all_goals(rw[gK,ajL])
    ·intro hall
     rw[ajO]at hall⊢;have g9:=hpos _ (ahO _) hall
     repeat'((conv=>whnf);first|intro _|apply aI|with_reducible exact vM rfl|exact⟨⟩|apply nM|apply fM)
     all_goals((try apply vM);(try simp only[vq]at*);try omega)
     refine⟨i+1,[],⟨⟨by omega,by rw[e1,←akR];exact g9⟩,by omega⟩,?_⟩
     rw[e1,←akR]
     repeat'((conv=>whnf);first|intro _|apply aI|with_reducible exact vM rfl|exact⟨⟩|apply nM|apply fM)
     all_goals((try apply vM);(try simp only[vq]at*);try omega)
    ·intro t x hx hall lp
     obtain⟨ht,rfl⟩:=pV hx;have hxC:=dx ht;have hxr:=hA.rng _ hxC;have hxc:=hAc _ hxC;have g0:=hpos t (by omega) hall
     have hs1:=hsp t ht;have cs1:=gL (g:=3) (nm:=bZ) (s:=s) (sum:=sum) (l:=(ls.getD ((-1)+(j:Int)).toNat [])) (k:=((-1)+(j:Int))) ht
     repeat'((conv=>whnf);first|refine Exists.intro (s) ?_|(intro hq;(try simp only[vw]at hq);try first|exact absurd hq (by decide)|exfalso;omega)|apply aI|with_reducible exact vM rfl|exact⟨⟩|apply nM|apply fM)
     all_goals((try apply vM);(try simp only[vq]at*);try omega)
     all_goals(try omega)
     ·exact⟨h,by omega,by omega⟩
     ·obtain⟨B,hB⟩:=hs1 (by assumption)
      exact sQ hB g0
     ·rw[show jst 3 s sum (ls.getD ((-1)+(j:Int)).toNat []) i ((s.cd i).getD t 0)=true by assumption]
      assumption
     ·obtain⟨B,hB⟩:=hs1 (by assumption)
      exact qR hB g0 (by assumption)
     ·have q1:jst 3 s sum (ls.getD ((-1)+(j:Int)).toNat []) i ((s.cd i).getD t 0)=true:=by assumption
      have q2:go ((bA 3 bZ s sum ls (-1) j++bC 3 bZ s sum ls ((-1)+(j:Int)) i++dB 3 bZ s sum (ls.getD ((-1)+(j:Int)).toNat []) ((-1)+(j:Int)) i t)++[ddV bZ i ((s.cd i).getD t 0) ((-1)+(j:Int))])=true:=by assumption
      refine⟨[],?_⟩;rw[cs1,if_pos q1,←akR]
      repeat'((conv=>whnf);first|intro _|apply aI|with_reducible exact vM rfl|exact⟨⟩|apply nM|apply fM)
      all_goals((try apply vM);(try simp only[vq]at*);try omega)
      all_goals(try first|(rw[q1,q2];rfl)|rfl)
     ·have q1:jst 3 s sum (ls.getD ((-1)+(j:Int)).toNat []) i ((s.cd i).getD t 0)=false:=by assumption
      refine⟨[],?_⟩;rw[cs1,if_neg (by rw[q1];decide),ajL]
      repeat'((conv=>whnf);first|intro _|apply aI|with_reducible exact vM rfl|exact⟨⟩|apply nM|apply fM)
      all_goals((try apply vM);(try simp only[vq]at*);try omega)
      all_goals(try(rw[q1];rfl))
   ·have hce:dP 3 bZ s sum (ls.getD ((-1)+(j:Int)).toNat []) ((-1)+(j:Int)) i=[]:=by unfold dP;rw[show s.dc i=true from hq];rfl
    rw[hce,ajL]at e1;refine⟨i+1,[],⟨⟨by omega,by rw[e1];exact hgo2⟩,by omega⟩,?_⟩
    rw[e1]
    repeat'((conv=>whnf);first|intro _|apply aI|with_reducible exact vM rfl|exact⟨⟩|apply nM|apply fM)
    all_goals((try apply vM);(try simp only[vq]at*);try omega)
  ·have:i=s.cs.length:=by omega
   subst this;rw[←e2]at hgo2⊢
   repeat'((conv=>whnf);first|(intro hq;(try simp only[vw]at hq);try first|exact absurd hq (by decide)|exfalso;omega)|apply aI|with_reducible exact vM rfl|exact⟨⟩|apply nM|apply fM)
   all_goals((try apply vM);(try simp only[vq]at*);try omega)
   refine⟨j+1,[(21,2)],⟨⟨by omega,hgo2⟩,by omega⟩,?_⟩
   repeat'((conv=>whnf);first|intro _|apply aI|with_reducible exact vM rfl|exact⟨⟩|apply nM|apply fM)
   all_goals((try apply vM);(try simp only[vq]at*);try omega)
 ·have:j=1:=by omega
  subst this
  repeat'((conv=>whnf);first|(intro hq;(try simp only[vw]at hq);try first|exact absurd hq (by decide)|exfalso;omega)|apply aI|with_reducible exact vM rfl|exact⟨⟩|apply nM|apply fM)
  all_goals((try apply vM);(try simp only[vq]at*);try omega)
  rw[hL];rw[hL]at hgo;exact qU hgo
theorem Sv (c:Int) (ls:List (List Int)) (sum:Int) (gv:List Int) (s:St) (h:aR c ls sum s):
 nX Tryz.prog 180 [] [.ip (.pv [.int .i64 0]) 0,.ip (.pv [.int .i64 ls.length]) 0,.ip (.pv [bdV c ls sum gv s]) 0,rlV bV false true 175] 1 (bA 4 bV s sum ls 0 ls.length):=by
 refine lQ (md:=1) (rf:=[]) mixed au Tryz.func180 (by rfl) (by rfl) (by rfl) fun G go b hY=>⟨_,fH,?_⟩
 obtain⟨L,hL⟩:∃L,L=bA 4 bV s sum ls 0 ls.length:=⟨_,rfl⟩;rw[←hL]at hY⊢;have W:Walk Tryz.prog none kR tab.get Dm (uM b 1 G go L):=⟨aK,mixed,au,fH,hY _ _⟩;have hcl:=h.cl;have hdl:=h.dl;have hc1:=h.c1;have hms:=dW s.cs;have hll:=h.ll
 repeat'((conv=>whnf);first|intro _|apply aI|with_reducible exact vM rfl|exact⟨⟩|apply nM|apply fM)
 all_goals((try apply vM);(try simp only[vq]at*);try omega)
 conv=>whnf
 refine aM (X:=Nat) (fun j=>j≤ls.length∧GoTo go L (bA 4 bV s sum ls 0 j).length) (fun j=>[(6,.rp 2 0)]) (fun j=>[(0,.ext G (bA 4 bV s sum ls 0 j)),(2,.cells (.pv [.int .i64 (0+(j:Int))]) false)]) (fun j=>ls.length-j) 0 W (by rfl) ⟨by omega,.zero⟩ ?_ ?_
 ·repeat'((conv=>whnf);first|intro _|apply aI|with_reducible exact vM rfl|exact⟨⟩|apply nM|apply fM)
  all_goals((try apply vM);(try simp only[vq]at*);try omega)
  all_goals rfl
 intro j ⟨hj,hgo⟩;by_cases hlt:j<ls.length
 ·have e2:bA 4 bV s sum ls 0 (j+1)=bA 4 bV s sum ls 0 j++bC 4 bV s sum ls (0+(j:Int)) s.cs.length:=by unfold bA;rw[jL]
  have hln:=h.ln j hlt;have hlen:=hln.len;have ejt:(0+(j:Int)).toNat=j:=by omega
  repeat'((conv=>whnf);first|(intro hq;(try simp only[vw]at hq);try first|exact absurd hq (by decide)|exfalso;omega)|apply aI|with_reducible exact vM rfl|exact⟨⟩|apply nM|apply fM)
  all_goals((try apply vM);(try simp only[vq]at*);try omega)
  conv=>whnf
  refine aM (X:=Nat) (fun i=>i≤s.cs.length∧GoTo go L (bA 4 bV s sum ls 0 j++bC 4 bV s sum ls (0+(j:Int)) i).length) (fun i=>[(22,.int .i64 i)]) (fun i=>[(0,.ext G (bA 4 bV s sum ls 0 j++bC 4 bV s sum ls (0+(j:Int)) i))]) (fun i=>s.cs.length-i) 0 W (by rfl) ⟨by omega,by simpa [bC]using hgo⟩ ?_ ?_
  ·repeat'((conv=>whnf);first|intro _|apply aI|with_reducible exact vM rfl|exact⟨⟩|apply nM|apply fM)
   all_goals((try apply vM);(try simp only[vq]at*);try omega)
   all_goals(simp[bC])
  intro i ⟨hi,hgo2⟩;by_cases hlt2:i<s.cs.length
  ·have hm:(ms s.cs).getD i 0=(mk (s.cd i):Nat):=gq hlt2
   have hA:=(h.asc _ hlt2).1;have hAc:=(h.asc _ hlt2).2;have e1:bC 4 bV s sum ls (0+(j:Int)) (i+1)=bC 4 bV s sum ls (0+(j:Int)) i++dP 4 bV s sum (ls.getD (0+(j:Int)).toNat []) (0+(j:Int)) i:=by unfold bC;rw[jL]
   repeat'((conv=>whnf);first|(intro hq;(try simp only[vw]at hq);try first|exact absurd hq (by decide)|exfalso;omega)|apply aI|with_reducible exact vM rfl|exact⟨⟩|apply nM|apply fM)
   all_goals((try apply vM);(try simp only[vq]at*);try omega)
   all_goals(try first|omega|(rw[ejt];omega))
   ·have hce:dP 4 bV s sum (ls.getD (0+(j:Int)).toNat []) (0+(j:Int)) i=[]:=by unfold dP;rw[show decide ((i:Int)∈(ls.getD (0+(j:Int)).toNat []))=false by apply decide_eq_false;assumption];cases s.dc i<;>rfl
    rw[hce,ajL]at e1;refine⟨i+1,[],⟨⟨by omega,by rw[e1];exact hgo2⟩,by omega⟩,?_⟩
    rw[e1]
    repeat'((conv=>whnf);first|intro _|apply aI|with_reducible exact vM rfl|exact⟨⟩|apply nM|apply fM)
    all_goals((try apply vM);(try simp only[vq]at*);try omega)
   ·have hcc:(s.dc i||(lnG 4&&!decide ((i:Int)∈(ls.getD (0+(j:Int)).toNat []))))=false:=by rw[show s.dc i=false by assumption,show decide ((i:Int)∈(ls.getD (0+(j:Int)).toNat []))=true by apply decide_eq_true;assumption];rfl
    have hce:dP 4 bV s sum (ls.getD (0+(j:Int)).toNat []) (0+(j:Int)) i=dB 4 bV s sum (ls.getD (0+(j:Int)).toNat []) (0+(j:Int)) i (s.cd i).length:=by unfold dP;rw[hcc];rfl
    rw[hce]at e1;have hsp:∀t,t<(s.cd i).length→jst 4 s sum (ls.getD (0+(j:Int)).toNat []) i ((s.cd i).getD t 0)=true→∃B,L=(bA 4 bV s sum ls 0 j++bC 4 bV s sum ls (0+(j:Int)) i++dB 4 bV s sum (ls.getD (0+(j:Int)).toNat []) (0+(j:Int)) i t)++ddV bV i ((s.cd i).getD t 0) (0+(j:Int))::B:=fun t ht hh=>by
     rw[hL];exact oJ (g:=4) (nm:=bV) (s:=s) (sum:=sum) (ls:=ls) (fr:=0) (m:=ls.length) (j:=j) (i:=i) (t:=t) hlt hlt2 ht hcc hh
    have hpos:∀t,t≤(s.cd i).length→(∀t',t'<t→(!jst 4 s sum (ls.getD (0+(j:Int)).toNat []) i ((s.cd i).getD t' 0)||go ((bA 4 bV s sum ls 0 j++bC 4 bV s sum ls (0+(j:Int)) i++dB 4 bV s sum (ls.getD (0+(j:Int)).toNat []) (0+(j:Int)) i t')++[ddV bV i ((s.cd i).getD t' 0) (0+(j:Int))]))=true)→GoTo go L (bA 4 bV s sum ls 0 j++bC 4 bV s sum ls (0+(j:Int)) i++dB 4 bV s sum (ls.getD (0+(j:Int)).toNat []) (0+(j:Int)) i t).length:=by
     intro t;induction t with
     |zero=>intro _ _;rw[gK,ajL];exact hgo2
     |succ t ih=>
      intro ht hall;have g0:=ih (by omega) fun t' h'=>hall t' (by omega)
      have g1:=hall t (by omega)
      rw[gL (by omega)]
      split
      ·rename_i hh
       rw[hh]at g1;obtain⟨B,hB⟩:=hsp t (by omega) hh
       rw[←akR];exact qQ hB g0 (by simpa using g1)
      ·rw[ajL];exact g0
    rw[hm];conv=>whnf
    refine jo aK mixed au fH (fun r=>hY r _) (fs:=[]) (cs:=[.ip (.pv [.int .u32 (mk (s.cd i):Nat)]) 0]) ((s.cd i).map (PV.int .i64)) (fun t=>(!jst 4 s sum (ls.getD (0+(j:Int)).toNat []) i ((s.cd i).getD t 0)||go ((bA 4 bV s sum ls 0 j++bC 4 bV s sum ls (0+(j:Int)) i++dB 4 bV s sum (ls.getD (0+(j:Int)).toNat []) (0+(j:Int)) i t)++[ddV bV i ((s.cd i).getD t 0) (0+(j:Int))]))) (fun t=>[(0,.ext G (bA 4 bV s sum ls 0 j++bC 4 bV s sum ls (0+(j:Int)) i++dB 4 bV s sum (ls.getD (0+(j:Int)).toNat []) (0+(j:Int)) i t))]) (by rfl) (by rfl) (by rfl) (kC (s.cd i) hA) (by rfl) (by rfl) (by rfl) (by rfl) ?_ ?_ ?_
    ·repeat'((conv=>whnf);first|intro _|apply aI|with_reducible exact vM rfl|exact⟨⟩|apply nM|apply fM)
     all_goals((try apply vM);(try simp only[vq]at*);try omega)
     all_goals(rw[gK,ajL])
    ·intro hall
     rw[ajO]at hall⊢;have g9:=hpos _ (ahO _) hall
     repeat'((conv=>whnf);first|intro _|apply aI|with_reducible exact vM rfl|exact⟨⟩|apply nM|apply fM)
     all_goals((try apply vM);(try simp only[vq]at*);try omega)
     refine⟨i+1,[],⟨⟨by omega,by rw[e1,←akR];exact g9⟩,by omega⟩,?_⟩
     rw[e1,←akR]
     repeat'((conv=>whnf);first|intro _|apply aI|with_reducible exact vM rfl|exact⟨⟩|apply nM|apply fM)
     all_goals((try apply vM);(try simp only[vq]at*);try omega)
    ·intro t x hx hall lp
     obtain⟨ht,rfl⟩:=pV hx;have hxC:=dx ht;have hxr:=hA.rng _ hxC;have hxc:=hAc _ hxC;have g0:=hpos t (by omega) hall
     have hs1:=hsp t ht;have cs1:=gL (g:=4) (nm:=bV) (s:=s) (sum:=sum) (l:=(ls.getD (0+(j:Int)).toNat [])) (k:=(0+(j:Int))) ht
     repeat'((conv=>whnf);first|refine Exists.intro (s) ?_|(intro hq;(try simp only[vw]at hq);try first|exact absurd hq (by decide)|exfalso;omega)|apply aI|with_reducible exact vM rfl|exact⟨⟩|apply nM|apply fM)
     all_goals((try apply vM);(try simp only[vq]at*);try omega)
     all_goals(try omega)
     ·exact⟨h,by omega,by omega,by omega⟩
     ·obtain⟨B,hB⟩:=hs1 (by assumption)
      exact sQ hB g0
     ·rw[show jst 4 s sum (ls.getD (0+(j:Int)).toNat []) i ((s.cd i).getD t 0)=true by assumption]
      assumption
     ·obtain⟨B,hB⟩:=hs1 (by assumption)
      exact qR hB g0 (by assumption)
     ·have q1:jst 4 s sum (ls.getD (0+(j:Int)).toNat []) i ((s.cd i).getD t 0)=true:=by assumption
      have q2:go ((bA 4 bV s sum ls 0 j++bC 4 bV s sum ls (0+(j:Int)) i++dB 4 bV s sum (ls.getD (0+(j:Int)).toNat []) (0+(j:Int)) i t)++[ddV bV i ((s.cd i).getD t 0) (0+(j:Int))])=true:=by assumption
      refine⟨[],?_⟩;rw[cs1,if_pos q1,←akR]
      repeat'((conv=>whnf);first|intro _|apply aI|with_reducible exact vM rfl|exact⟨⟩|apply nM|apply fM)
      all_goals((try apply vM);(try simp only[vq]at*);try omega)
      all_goals(try first|(rw[q1,q2];rfl)|rfl)
     ·have q1:jst 4 s sum (ls.getD (0+(j:Int)).toNat []) i ((s.cd i).getD t 0)=false:=by assumption
      refine⟨[],?_⟩;rw[cs1,if_neg (by rw[q1];decide),ajL]
      repeat'((conv=>whnf);first|intro _|apply aI|with_reducible exact vM rfl|exact⟨⟩|apply nM|apply fM)
      all_goals((try apply vM);(try simp only[vq]at*);try omega)
      all_goals(try(rw[q1];rfl))
   ·have hce:dP 4 bV s sum (ls.getD (0+(j:Int)).toNat []) (0+(j:Int)) i=[]:=by unfold dP;rw[show s.dc i=true from hq];rfl
    rw[hce,ajL]at e1;refine⟨i+1,[],⟨⟨by omega,by rw[e1];exact hgo2⟩,by omega⟩,?_⟩
    rw[e1]
    repeat'((conv=>whnf);first|intro _|apply aI|with_reducible exact vM rfl|exact⟨⟩|apply nM|apply fM)
    all_goals((try apply vM);(try simp only[vq]at*);try omega)
  ·have:i=s.cs.length:=by omega
   subst this;rw[←e2]at hgo2⊢
   repeat'((conv=>whnf);first|(intro hq;(try simp only[vw]at hq);try first|exact absurd hq (by decide)|exfalso;omega)|apply aI|with_reducible exact vM rfl|exact⟨⟩|apply nM|apply fM)
   all_goals((try apply vM);(try simp only[vq]at*);try omega)
   refine⟨j+1,[(21,2)],⟨⟨by omega,hgo2⟩,by omega⟩,?_⟩
   repeat'((conv=>whnf);first|intro _|apply aI|with_reducible exact vM rfl|exact⟨⟩|apply nM|apply fM)
   all_goals((try apply vM);(try simp only[vq]at*);try omega)
 ·have:j=ls.length:=by omega
  subst this
  repeat'((conv=>whnf);first|(intro hq;(try simp only[vw]at hq);try first|exact absurd hq (by decide)|exfalso;omega)|apply aI|with_reducible exact vM rfl|exact⟨⟩|apply nM|apply fM)
  all_goals((try apply vM);(try simp only[vq]at*);try omega)
  rw[hL];rw[hL]at hgo;exact qU hgo
theorem Sw (c:Int) (ls:List (List Int)) (sum:Int) (gv:List Int) (s:St) (h:aR c ls sum s):
 nX Tryz.prog 180 [] [.ip (.pv [.int .i64 0]) 0,.ip (.pv [.int .i64 ls.length]) 0,.ip (.pv [bdV c ls sum gv s]) 0,rlV bW false true 176] 1 (bA 5 bW s sum ls 0 ls.length):=by
 refine lQ (md:=1) (rf:=[]) mixed au Tryz.func180 (by rfl) (by rfl) (by rfl) fun G go b hY=>⟨_,fH,?_⟩
 obtain⟨L,hL⟩:∃L,L=bA 5 bW s sum ls 0 ls.length:=⟨_,rfl⟩;rw[←hL]at hY⊢;have W:Walk Tryz.prog none kR tab.get Dm (uM b 1 G go L):=⟨aK,mixed,au,fH,hY _ _⟩;have hcl:=h.cl;have hdl:=h.dl;have hc1:=h.c1;have hms:=dW s.cs;have hll:=h.ll
 repeat'((conv=>whnf);first|intro _|apply aI|with_reducible exact vM rfl|exact⟨⟩|apply nM|apply fM)
 all_goals((try apply vM);(try simp only[vq]at*);try omega)
 conv=>whnf
 refine aM (X:=Nat) (fun j=>j≤ls.length∧GoTo go L (bA 5 bW s sum ls 0 j).length) (fun j=>[(6,.rp 2 0)]) (fun j=>[(0,.ext G (bA 5 bW s sum ls 0 j)),(2,.cells (.pv [.int .i64 (0+(j:Int))]) false)]) (fun j=>ls.length-j) 0 W (by rfl) ⟨by omega,.zero⟩ ?_ ?_
 ·repeat'((conv=>whnf);first|intro _|apply aI|with_reducible exact vM rfl|exact⟨⟩|apply nM|apply fM)
  all_goals((try apply vM);(try simp only[vq]at*);try omega)
  all_goals rfl
 intro j ⟨hj,hgo⟩;by_cases hlt:j<ls.length
 ·have e2:bA 5 bW s sum ls 0 (j+1)=bA 5 bW s sum ls 0 j++bC 5 bW s sum ls (0+(j:Int)) s.cs.length:=by unfold bA;rw[jL]
  have hln:=h.ln j hlt;have hlen:=hln.len;have ejt:(0+(j:Int)).toNat=j:=by omega
  repeat'((conv=>whnf);first|(intro hq;(try simp only[vw]at hq);try first|exact absurd hq (by decide)|exfalso;omega)|apply aI|with_reducible exact vM rfl|exact⟨⟩|apply nM|apply fM)
  all_goals((try apply vM);(try simp only[vq]at*);try omega)
  conv=>whnf
  refine aM (X:=Nat) (fun i=>i≤s.cs.length∧GoTo go L (bA 5 bW s sum ls 0 j++bC 5 bW s sum ls (0+(j:Int)) i).length) (fun i=>[(22,.int .i64 i)]) (fun i=>[(0,.ext G (bA 5 bW s sum ls 0 j++bC 5 bW s sum ls (0+(j:Int)) i))]) (fun i=>s.cs.length-i) 0 W (by rfl) ⟨by omega,by simpa [bC]using hgo⟩ ?_ ?_
  ·repeat'((conv=>whnf);first|intro _|apply aI|with_reducible exact vM rfl|exact⟨⟩|apply nM|apply fM)
   all_goals((try apply vM);(try simp only[vq]at*);try omega)
   all_goals(simp[bC])
  intro i ⟨hi,hgo2⟩;by_cases hlt2:i<s.cs.length
  ·have hm:(ms s.cs).getD i 0=(mk (s.cd i):Nat):=gq hlt2
   have hA:=(h.asc _ hlt2).1;have hAc:=(h.asc _ hlt2).2;have e1:bC 5 bW s sum ls (0+(j:Int)) (i+1)=bC 5 bW s sum ls (0+(j:Int)) i++dP 5 bW s sum (ls.getD (0+(j:Int)).toNat []) (0+(j:Int)) i:=by unfold bC;rw[jL]
   repeat'((conv=>whnf);first|(intro hq;(try simp only[vw]at hq);try first|exact absurd hq (by decide)|exfalso;omega)|apply aI|with_reducible exact vM rfl|exact⟨⟩|apply nM|apply fM)
   all_goals((try apply vM);(try simp only[vq]at*);try omega)
   all_goals(try first|omega|(rw[ejt];omega))
   ·have hce:dP 5 bW s sum (ls.getD (0+(j:Int)).toNat []) (0+(j:Int)) i=[]:=by unfold dP;rw[show decide ((i:Int)∈(ls.getD (0+(j:Int)).toNat []))=false by apply decide_eq_false;assumption];cases s.dc i<;>rfl
    rw[hce,ajL]at e1;refine⟨i+1,[],⟨⟨by omega,by rw[e1];exact hgo2⟩,by omega⟩,?_⟩
    rw[e1]
    repeat'((conv=>whnf);first|intro _|apply aI|with_reducible exact vM rfl|exact⟨⟩|apply nM|apply fM)
    all_goals((try apply vM);(try simp only[vq]at*);try omega)
   ·have hcc:(s.dc i||(lnG 5&&!decide ((i:Int)∈(ls.getD (0+(j:Int)).toNat []))))=false:=by rw[show s.dc i=false by assumption,show decide ((i:Int)∈(ls.getD (0+(j:Int)).toNat []))=true by apply decide_eq_true;assumption];rfl
    have hce:dP 5 bW s sum (ls.getD (0+(j:Int)).toNat []) (0+(j:Int)) i=dB 5 bW s sum (ls.getD (0+(j:Int)).toNat []) (0+(j:Int)) i (s.cd i).length:=by unfold dP;rw[hcc];rfl
    rw[hce]at e1;have hsp:∀t,t<(s.cd i).length→jst 5 s sum (ls.getD (0+(j:Int)).toNat []) i ((s.cd i).getD t 0)=true→∃B,L=(bA 5 bW s sum ls 0 j++bC 5 bW s sum ls (0+(j:Int)) i++dB 5 bW s sum (ls.getD (0+(j:Int)).toNat []) (0+(j:Int)) i t)++ddV bW i ((s.cd i).getD t 0) (0+(j:Int))::B:=fun t ht hh=>by
     rw[hL];exact oJ (g:=5) (nm:=bW) (s:=s) (sum:=sum) (ls:=ls) (fr:=0) (m:=ls.length) (j:=j) (i:=i) (t:=t) hlt hlt2 ht hcc hh
    have hpos:∀t,t≤(s.cd i).length→(∀t',t'<t→(!jst 5 s sum (ls.getD (0+(j:Int)).toNat []) i ((s.cd i).getD t' 0)||go ((bA 5 bW s sum ls 0 j++bC 5 bW s sum ls (0+(j:Int)) i++dB 5 bW s sum (ls.getD (0+(j:Int)).toNat []) (0+(j:Int)) i t')++[ddV bW i ((s.cd i).getD t' 0) (0+(j:Int))]))=true)→GoTo go L (bA 5 bW s sum ls 0 j++bC 5 bW s sum ls (0+(j:Int)) i++dB 5 bW s sum (ls.getD (0+(j:Int)).toNat []) (0+(j:Int)) i t).length:=by
     intro t;induction t with
     |zero=>intro _ _;rw[gK,ajL];exact hgo2
     |succ t ih=>
      intro ht hall;have g0:=ih (by omega) fun t' h'=>hall t' (by omega)
      have g1:=hall t (by omega)
      rw[gL (by omega)]
      split
      ·rename_i hh
       rw[hh]at g1;obtain⟨B,hB⟩:=hsp t (by omega) hh
       rw[←akR];exact qQ hB g0 (by simpa using g1)
      ·rw[ajL];exact g0
    rw[hm];conv=>whnf
    refine jo aK mixed au fH (fun r=>hY r _) (fs:=[]) (cs:=[.ip (.pv [.int .u32 (mk (s.cd i):Nat)]) 0]) ((s.cd i).map (PV.int .i64)) (fun t=>(!jst 5 s sum (ls.getD (0+(j:Int)).toNat []) i ((s.cd i).getD t 0)||go ((bA 5 bW s sum ls 0 j++bC 5 bW s sum ls (0+(j:Int)) i++dB 5 bW s sum (ls.getD (0+(j:Int)).toNat []) (0+(j:Int)) i t)++[ddV bW i ((s.cd i).getD t 0) (0+(j:Int))]))) (fun t=>[(0,.ext G (bA 5 bW s sum ls 0 j++bC 5 bW s sum ls (0+(j:Int)) i++dB 5 bW s sum (ls.getD (0+(j:Int)).toNat []) (0+(j:Int)) i t))]) (by rfl) (by rfl) (by rfl) (kC (s.cd i) hA) (by rfl) (by rfl) (by rfl) (by rfl) ?_ ?_ ?_
    ·repeat'((conv=>whnf);first|intro _|apply aI|with_reducible exact vM rfl|exact⟨⟩|apply nM|apply fM)
     all_goals((try apply vM);(try simp only[vq]at*);try omega)
     all_goals(rw[gK,ajL])
    ·intro hall
     rw[ajO]at hall⊢;have g9:=hpos _ (ahO _) hall
     repeat'((conv=>whnf);first|intro _|apply aI|with_reducible exact vM rfl|exact⟨⟩|apply nM|apply fM)
     all_goals((try apply vM);(try simp only[vq]at*);try omega)
     refine⟨i+1,[],⟨⟨by omega,by rw[e1,←akR];exact g9⟩,by omega⟩,?_⟩
     rw[e1,←akR]
     repeat'((conv=>whnf);first|intro _|apply aI|with_reducible exact vM rfl|exact⟨⟩|apply nM|apply fM)
     all_goals((try apply vM);(try simp only[vq]at*);try omega)
    ·intro t x hx hall lp
     obtain⟨ht,rfl⟩:=pV hx;have hxC:=dx ht;have hxr:=hA.rng _ hxC;have hxc:=hAc _ hxC;have g0:=hpos t (by omega) hall
     have hs1:=hsp t ht;have cs1:=gL (g:=5) (nm:=bW) (s:=s) (sum:=sum) (l:=(ls.getD (0+(j:Int)).toNat [])) (k:=(0+(j:Int))) ht
     repeat'((conv=>whnf);first|refine Exists.intro (s) ?_|(intro hq;(try simp only[vw]at hq);try first|exact absurd hq (by decide)|exfalso;omega)|apply aI|with_reducible exact vM rfl|exact⟨⟩|apply nM|apply fM)
     all_goals((try apply vM);(try simp only[vq]at*);try omega)
     all_goals(try omega)
     ·exact⟨h,by omega,by omega,by omega⟩
     ·obtain⟨B,hB⟩:=hs1 (by assumption)
      exact sQ hB g0
     ·rw[show jst 5 s sum (ls.getD (0+(j:Int)).toNat []) i ((s.cd i).getD t 0)=true by assumption]
      assumption
     ·obtain⟨B,hB⟩:=hs1 (by assumption)
      exact qR hB g0 (by assumption)
     ·have q1:jst 5 s sum (ls.getD (0+(j:Int)).toNat []) i ((s.cd i).getD t 0)=true:=by assumption
      have q2:go ((bA 5 bW s sum ls 0 j++bC 5 bW s sum ls (0+(j:Int)) i++dB 5 bW s sum (ls.getD (0+(j:Int)).toNat []) (0+(j:Int)) i t)++[ddV bW i ((s.cd i).getD t 0) (0+(j:Int))])=true:=by assumption
      refine⟨[],?_⟩;rw[cs1,if_pos q1,←akR]
      repeat'((conv=>whnf);first|intro _|apply aI|with_reducible exact vM rfl|exact⟨⟩|apply nM|apply fM)
      all_goals((try apply vM);(try simp only[vq]at*);try omega)
      all_goals(try first|(rw[q1,q2];rfl)|rfl)
     ·have q1:jst 5 s sum (ls.getD (0+(j:Int)).toNat []) i ((s.cd i).getD t 0)=false:=by assumption
      refine⟨[],?_⟩;rw[cs1,if_neg (by rw[q1];decide),ajL]
      repeat'((conv=>whnf);first|intro _|apply aI|with_reducible exact vM rfl|exact⟨⟩|apply nM|apply fM)
      all_goals((try apply vM);(try simp only[vq]at*);try omega)
      all_goals(try(rw[q1];rfl))
   ·have hce:dP 5 bW s sum (ls.getD (0+(j:Int)).toNat []) (0+(j:Int)) i=[]:=by unfold dP;rw[show s.dc i=true from hq];rfl
    rw[hce,ajL]at e1;refine⟨i+1,[],⟨⟨by omega,by rw[e1];exact hgo2⟩,by omega⟩,?_⟩
    rw[e1]
    repeat'((conv=>whnf);first|intro _|apply aI|with_reducible exact vM rfl|exact⟨⟩|apply nM|apply fM)
    all_goals((try apply vM);(try simp only[vq]at*);try omega)
  ·have:i=s.cs.length:=by omega
   subst this;rw[←e2]at hgo2⊢
   repeat'((conv=>whnf);first|(intro hq;(try simp only[vw]at hq);try first|exact absurd hq (by decide)|exfalso;omega)|apply aI|with_reducible exact vM rfl|exact⟨⟩|apply nM|apply fM)
   all_goals((try apply vM);(try simp only[vq]at*);try omega)
   refine⟨j+1,[(21,2)],⟨⟨by omega,hgo2⟩,by omega⟩,?_⟩
   repeat'((conv=>whnf);first|intro _|apply aI|with_reducible exact vM rfl|exact⟨⟩|apply nM|apply fM)
   all_goals((try apply vM);(try simp only[vq]at*);try omega)
 ·have:j=ls.length:=by omega
  subst this
  repeat'((conv=>whnf);first|(intro hq;(try simp only[vw]at hq);try first|exact absurd hq (by decide)|exfalso;omega)|apply aI|with_reducible exact vM rfl|exact⟨⟩|apply nM|apply fM)
  all_goals((try apply vM);(try simp only[vq]at*);try omega)
  rw[hL];rw[hL]at hgo;exact qU hgo
structure Dd where
 g:Nat
 y:Int
 x:Int
 k:Int
abbrev Dn (d:Dd):PV:=ddV (nmG d.g) d.y d.x d.k
def frG (g:Nat):Int:=if lnG g then 0 else-1
def mG (g:Nat) (ls:List (List Int)):Nat:=if lnG g then ls.length else 1
def Dp (g:Nat) (s:St) (sum:Int) (l:List Int) (k:Int) (i:Nat):List Dd:=
 if s.dc i||(lnG g&&!decide ((i:Int)∈l))then []else((s.cd i).filter fun x=>jst g s sum l i x).map fun x=>⟨g,i,x,k⟩
def kV (g:Nat) (s:St) (sum:Int) (ls:List (List Int)):List Dd:=
 (ahX (mG g ls)).flatMap fun j:Nat=>(ahX s.cs.length).flatMap fun i=>Dp g s sum (ls.getD (frG g+(j:Int)).toNat []) (frG g+(j:Int)) i
theorem abz (g:Nat) (s:St) (sum:Int) (l:List Int) (k:Int) (i:Nat):dP g (nmG g) s sum l k i=(Dp g s sum l k i).map Dn:=by
 unfold dP Dp;split
 ·rfl
 ·unfold dB;rw[ajS,List.map_map];rfl
theorem abA (g:Nat) (s:St) (sum:Int) (ls:List (List Int)):bA g (nmG g) s sum ls (frG g) (mG g ls)=(kV g s sum ls).map Dn:=by
 unfold bA kV bC;rw[akS];congr 1;funext j;rw[akS];congr 1;funext i;exact abz _ _ _ _ _ _
theorem qV {g:Nat} {s:St} {sum:Int} {ls:List (List Int)} {d:Dd}:d∈kV g s sum ls↔
 d.g=g∧(0≤d.y∧d.y<s.cs.length)∧(if lnG g then(0≤d.k∧d.k<ls.length)∧d.y∈ls.getD d.k.toNat []else d.k= -1)∧okJ g s sum (ls.getD d.k.toNat []) d.y d.x=true:=by
 unfold kV;rw[akT];constructor
 ·rintro⟨j,hj,hd⟩
  rw[akT]at hd;obtain⟨i,hi,hd⟩:=hd;have hj:=ajF.1 hj;have hi:=ajF.1 hi;unfold Dp at hd;split at hd
  ·simp at hd
  ·rename_i hc
   obtain⟨x,hx,rfl⟩:=akC.1 hd;obtain⟨hx,hJ⟩:=aj2.1 hx;have hc:(s.dc i||(lnG g&&!decide ((i:Int)∈ls.getD (frG g+(j:Int)).toNat [])))=false:=by
    cases h:(s.dc i||(lnG g&&!decide ((i:Int)∈ls.getD (frG g+(j:Int)).toNat [])))with
    |false=>rfl
    |true=>exact absurd h hc
   rw[Bool.or_eq_false_iff]at hc;refine⟨rfl,⟨by simp,by simp;omega⟩,?_,?_⟩
   ·cases hl:lnG g with
    |true=>
     rw[hl]at hc;simp only[mG,frG,hl,if_true]at hj⊢;refine⟨⟨by omega,by omega⟩,?_⟩
     have:=hc.2;simp only[frG,hl,if_true,Bool.true_and,Bool.not_eq_false',decide_eq_true_eq]at this;exact this
    |false=>
     simp only[mG,frG,hl]at hj⊢;simp at hj⊢;omega
   ·unfold okJ
    simp only[aiV];rw[hc.1,decide_eq_true hx,hJ];rfl
 ·rintro⟨h1,⟨h2,h3⟩,h4,h5⟩
  unfold okJ at h5;simp only[aia,akU,decide_eq_true_eq]at h5;obtain⟨a1,a2,a3⟩:=h5;have e:((d.y.toNat:Nat):Int)=d.y:=by omega
  cases hl:lnG g with
  |true=>
   rw[hl]at h4;simp only[if_true]at h4;refine⟨d.k.toNat,ajF.2 (by simp only[mG,hl,if_true];omega),?_⟩
   rw[akT];refine⟨d.y.toNat,ajF.2 (by omega),?_⟩
   have ek:(frG g+((d.k.toNat:Nat):Int))=d.k:=by simp only[frG,hl,if_true];omega
   rw[ek];unfold Dp;rw[a1,hl,e,decide_eq_true h4.2];simp only[Bool.not_true,Bool.and_false,akV];exact akC.2 ⟨d.x,aj2.2 ⟨a2,a3⟩,by subst h1;rfl⟩
  |false=>
   rw[hl]at h4;simp only[Bool.false_eq_true,if_false]at h4;refine⟨0,ajF.2 (by simp[mG,hl]),?_⟩
   rw[akT];refine⟨d.y.toNat,ajF.2 (by omega),?_⟩
   have ek:(frG g+((0:Nat):Int))=d.k:=by simp only[frG,hl];rw[h4];rfl
   rw[ek];unfold Dp;rw[a1,hl,e];simp only[Bool.false_and,akV];exact akC.2 ⟨d.x,aj2.2 ⟨a2,a3⟩,by subst h1;rfl⟩
def gV (s:St) (sum:Int) (ls:List (List Int)):Nat→Option Dd
 |0=>none
 |n+1=>match gV s sum ls n with
  |some d=>some d
  |none=>(kV (n+1) s sum ls).head?
theorem zO {s:St} {sum:Int} {ls:List (List Int)} {d:Dd}:∀{n:Nat},gV s sum ls n=some d→∃g,1≤g∧g≤n∧d∈kV g s sum ls:=by
 intro n;induction n with
 |zero=>intro h;cases h
 |succ n ih=>
  intro h;unfold gV at h;split at h
  ·rename_i d' h1
   cases h
   obtain⟨g,g1,g2,g3⟩:=ih h1;exact⟨g,g1,by omega,g3⟩
  ·exact⟨n+1,by omega,by omega,List.mem_of_head? h⟩
theorem Sy {s:St} {sum:Int} {ls:List (List Int)}:∀{n:Nat},gV s sum ls n=none↔∀g,1≤g→g≤n→kV g s sum ls=[]:=by
 intro n;induction n with
 |zero=>exact⟨fun _ g h1 h2=>by omega,fun _=>rfl⟩
 |succ n ih=>
  unfold gV;constructor
  ·intro h g h1 h2
   split at h
   ·cases h
   ·rename_i hn
    by_cases e:g=n+1
    ·subst e
     cases hL:kV (n+1) s sum ls with
     |nil=>rfl
     |cons a l=>rw[hL]at h;cases h
    ·exact ih.1 hn g h1 (by omega)
  ·intro h
   rw[ih.2 fun g h1 h2=>h g h1 (by omega),h (n+1) (by omega) (by omega)]
   rfl
def VX (g:Nat):Bool:=g≤3
def fnG:Nat→Nat
 |1=>172
 |2=>173
 |3=>174
 |4=>175
 |_=>176
def toG (g:Nat) (ls:List (List Int)):Int:=if lnG g then ls.length else 0
noncomputable def ag1:CPT:=aA 130 (aB qO) noC
theorem abB:aW Tryz.prog ag1:=aj (ak qP) aC
abbrev itV (g:Nat) (c:Int) (ls:List (List Int)) (sum:Int) (gv:List Int) (s:St):PV:=.fn (.func 180) [] [.ip (.pv [.int .i64 (frG g)]) 0,.ip (.pv [.int .i64 (toG g ls)]) 0,.ip (.pv [bdV c ls sum gv s]) 0,rlV (nmG g) (VX g) (lnG g) (fnG g)]
theorem VY (g:Nat) (hg:1≤g∧g≤5) (c:Int) (ls:List (List Int)) (sum:Int) (gv:List Int) (s:St) (h:aR c ls sum s):
 nX Tryz.prog 180 [] [.ip (.pv [.int .i64 (frG g)]) 0,.ip (.pv [.int .i64 (toG g ls)]) 0,.ip (.pv [bdV c ls sum gv s]) 0,rlV (nmG g) (VX g) (lnG g) (fnG g)] 1 ((kV g s sum ls).map Dn):=by
 rw[←abA];obtain rfl|rfl|rfl|rfl|rfl:g=1∨g=2∨g=3∨g=4∨g=5:=by omega
 ·exact Sn c ls sum gv s h
 ·exact Sq c ls sum gv s h
 ·exact Sr c ls sum gv s h
 ·exact Sv c ls sum gv s h
 ·exact Sw c ls sum gv s h
theorem VZ (c:Int) (ls:List (List Int)) (sum:Int) (gv:List Int) (s:St) (g:Nat) (hg:1≤g∧g≤5):aF Tryz.prog 134 [bdV c ls sum gv s,.int .i64 (g:Int)] (itV g c ls sum gv s):=by
 have hte:=Bg;obtain rfl|rfl|rfl|rfl|rfl:g=1∨g=2∨g=3∨g=4∨g=5:=by omega
 all_goals
  refine av (md:=1) (rf:=[]) mixed au abB Tryz.func134 (by rfl) (by rfl) (by rfl) ?_
  repeat'((conv=>whnf);first|(intro hq;(try simp only[vw]at hq);try first|exact absurd hq (by decide)|exfalso;omega)|apply aI|with_reducible exact vM rfl|exact⟨⟩|apply nM|apply fM)
  all_goals((try apply vM);(try simp only[vq]at*);try omega)
  all_goals first|exact Sup.of rfl|(rw[hte];decide)|decide|skip
def Px:PSp:=fun xs K=>match xs with
 | [.ip (.pv [.int .i64 c,.isl (.rows .i64 ls) .none,.int .i64 sum,.isl (.ints .i64 gv) .none,.isl (.ints .u32 M) .none,.isl (.bools D) .none]) 0,.int .i64 g]=>∃(s:St) (n:Nat),VC (M=ms s.cs∧D=s.ds∧g=n∧1≤n∧n≤5)∧K (itV n c ls sum gv s)
 |_=>False
theorem abC:POK Tryz.prog 134 Px:=by
 intro xs K hk;unfold Px at hk;split at hk
 ·obtain⟨s,n,⟨rfl,rfl,rfl,h⟩,hk⟩:=hk
  exact⟨_,hk,VZ _ _ _ _ s n h⟩
 ·exact hk.elim
noncomputable def ag2:CPT:=aA 134 (aB Px) noC
theorem Dq:aW Tryz.prog ag2:=aj (ak abC) aC
def aeH (o:Option Dd):PV:=match o with
 |some d=>.tup [Dn d,.bp true]
 |none=>.tup [ddV uY 0 0 0,.bp false]
theorem abD {s:St} {sum:Int} {ls:List (List Int)} {d:Dd} {i:Nat} (h0:gV s sum ls i=none) (h1:(kV (i+1) s sum ls).head? =some d):∀n,i+1≤n→gV s sum ls n=some d:=by
 intro n hn;induction n with
 |zero=>omega
 |succ n ih=>
  unfold gV;by_cases e:i=n
  ·subst e;rw[h0];exact h1
  ·rw[ih (by omega)]
theorem Sz (p:PV) (b:Bool):Sup (bI [p,PV.bool b]) (PV.tup [p,.bp b]):=⟨fun hr=>by
 cases hr with
 |tup _ _ vs hl hh=>
  refine .tup _ _ _ hl fun i hi=>?_;have:=hh i hi;obtain rfl|rfl:i=0∨i=1:=by simp at hi;omega
  ·exact this
  ·simp only[aD]at this⊢
   generalize vs.getD 1 undef=v1 at this
   cases this;exact .bp _ _⟩
theorem Py (c:Int) (ls:List (List Int)) (sum:Int) (gv:List Int) (s:St) (h:aR c ls sum s) (n:Nat) (hn:n≤5):aF Tryz.prog 92 [bdV c ls sum gv s,.int .i64 (n:Int)] (aeH (gV s sum ls n)):=by
 refine av (md:=1) (rf:=[]) mixed au Dq Tryz.func92 (by rfl) (by rfl) (by rfl) ?_
 repeat'((conv=>whnf);first|(intro hq;(try simp only[vw]at hq);try first|exact absurd hq (by decide)|exfalso;omega)|apply aI|with_reducible exact vM rfl|exact⟨⟩|apply nM|apply fM)
 all_goals((try apply vM);(try simp only[vq]at*);try omega)
 conv=>whnf
 refine aM (X:=Nat) (fun i=>i≤n∧gV s sum ls i=none) (fun i=>[(6,.int .i64 ((i:Int)+1))]) (fun i=>[]) (fun i=>n-i) 0 ⟨aK,mixed,au,Dq,aP⟩ (by rfl) ⟨by omega,rfl⟩ ?_ ?_
 ·repeat'((conv=>whnf);first|intro _|apply aI|with_reducible exact vM rfl|exact⟨⟩|apply nM|apply fM)
  all_goals((try apply vM);(try simp only[vq]at*);try omega)
 intro i ⟨hi,hok⟩;by_cases hlt:i<n
 ·repeat'((conv=>whnf);first|refine Exists.intro (s) ?_|refine Exists.intro (i+1) ?_|(intro hq;(try simp only[vw]at hq);try first|exact absurd hq (by decide)|exfalso;omega)|apply aI|with_reducible exact vM rfl|exact⟨⟩|apply nM|apply fM)
  all_goals((try apply vM);(try simp only[vq]at*);try omega)
  conv=>whnf
  refine jo aK mixed au Dq (fun r=>aP) (fs:=[]) (cs:=[.ip (.pv [.int .i64 (frG (i+1))]) 0,.ip (.pv [.int .i64 (toG (i+1) ls)]) 0,.ip (.pv [bdV c ls sum gv s]) 0,rlV (nmG (i+1)) (VX (i+1)) (lnG (i+1)) (fnG (i+1))]) ((kV (i+1) s sum ls).map Dn) (fun _=>false) (fun _=>[]) (by rfl) (by rfl) (by rfl) (VY (i+1) (by omega) c ls sum gv s h) (by rfl) (by rfl) (by rfl) (by rfl) ?_ ?_ ?_
  ·repeat'((conv=>whnf);first|intro _|apply aI|with_reducible exact vM rfl|exact⟨⟩|apply nM|apply fM)
   all_goals((try apply vM);(try simp only[vq]at*);try omega)
  ·intro hall
   have hE:kV (i+1) s sum ls=[]:=by
    cases hL:kV (i+1) s sum ls with
    |nil=>rfl
    |cons d l=>rw[hL]at hall;exact absurd (hall 0 (by simp)) (by decide)
   repeat'((conv=>whnf);first|(intro hq;(try simp only[vw]at hq);try first|exact absurd hq (by decide)|exfalso;omega)|apply aI|with_reducible exact vM rfl|exact⟨⟩|apply nM|apply fM)
   all_goals((try apply vM);(try simp only[vq]at*);try omega)
   refine⟨i+1,[],⟨⟨by omega,?_⟩,by omega⟩,?_⟩
   ·unfold gV;rw[hok,hE];rfl
   repeat'((conv=>whnf);first|intro _|apply aI|with_reducible exact vM rfl|exact⟨⟩|apply nM|apply fM)
   all_goals((try apply vM);(try simp only[vq]at*);try omega)
  ·intro t x hx hall lp
   have ht:t=0:=by
    rcases Nat.eq_zero_or_pos t with h0|h0
    ·exact h0
    ·exact absurd (hall 0 h0) (by decide)
   subst ht;rw[aiO]at hx;cases hL:kV (i+1) s sum ls with
   |nil=>rw[hL]at hx;cases hx
   |cons d l=>
    rw[hL]at hx;cases hx
    rw[abD hok (by rw[hL];rfl) n (by omega)]
    repeat'((conv=>whnf);first|(intro hq;(try simp only[vw]at hq);try first|exact absurd hq (by decide)|exfalso;omega)|apply aI|with_reducible exact vM rfl|exact⟨⟩|apply nM|apply fM)
    all_goals((try apply vM);(try simp only[vq]at*);try omega)
    exact Sz _ _
 ·have:i=n:=by omega
  subst this;rw[hok]
  repeat'((conv=>whnf);first|(intro hq;(try simp only[vw]at hq);try first|exact absurd hq (by decide)|exfalso;omega)|apply aI|with_reducible exact vM rfl|exact⟨⟩|apply nM|apply fM)
  all_goals((try apply vM);(try simp only[vq]at*);try omega)
  exact Sz _ _
def yu:PSp:=fun xs K=>match xs with
 | [.ip (.pv [.int .i64 c,.isl (.rows .i64 ls) .none,.int .i64 sum,.isl (.ints .i64 gv) .none,.isl (.ints .u32 M) .none,.isl (.bools D) .none]) 0,.int .i64 g]=>∃(s:St) (o:Option Dd),VC (M=ms s.cs∧D=s.ds∧(0≤g∧g≤5)∧aR c ls sum s∧gV s sum ls g.toNat=o)∧K (aeH o)
 |_=>False
theorem EF:POK Tryz.prog 92 yu:=by
 intro xs K hk;unfold yu at hk;split at hk
 ·obtain⟨s,o,⟨rfl,rfl,hg,h,rfl⟩,hk⟩:=hk
  rename_i g;obtain⟨n,rfl⟩:∃n:Nat,g=n:=⟨g.toNat,by omega⟩
  rw[aiV]at hk;exact⟨_,hk,Py _ _ _ _ s h n (by omega)⟩
 ·exact hk.elim
structure bD (c:Int) (ls:List (List Int)) (sum:Int) (gv:List Int):Prop where
 c1:1≤c∧c≤16
 ll:1≤ls.length∧ls.length≤128
 ln:∀i,i<ls.length→CV c (ls.getD i [])
 sm: -999999999≤sum∧sum≤999999999
 gl:(gv.length:Int)=c
 gr:∀x∈gv,0≤x∧x≤c
 gd:∀i j,i<j→j<gv.length→0<gv.getD j 0→gv.getD i 0≠gv.getD j 0
def frL (c:Int) (l:List Int):List Int:=((ahX c.toNat).map fun i:Nat=>(i:Int)+1).filter fun y=>!decide (y∈l)
theorem sS {c:Int} {l:List Int} {x:Int} (hc:0≤c):x∈frL c l↔(1≤x∧x≤c)∧x∉l:=by
 unfold frL;rw[aj2,akC];constructor
 ·rintro⟨⟨i,hi,rfl⟩,h⟩
  have:=ajF.1 hi;exact⟨by omega,by simpa using h⟩
 ·rintro⟨h,h2⟩
  exact⟨⟨(x-1).toNat,ajF.2 (by omega),by omega⟩,by simpa using h2⟩
theorem Me {c:Int} {l:List Int} (hc:1≤c∧c≤16):Asc (frL c l):=by
 refine⟨?_,fun x hx=>?_⟩
 ·unfold frL
  refine List.Pairwise.filter _ ?_;rw[List.pairwise_map];exact List.Pairwise.imp (fun h=>by omega) List.pairwise_lt_range
 ·have:=(sS (by omega)).1 hx;omega
theorem abE (c:Int) (l:List Int) (x:Int):dY (frL c l) x=frL c (l++[x]):=by
 unfold dY frL;rw[List.filter_filter];congr 1
 funext y
 simp[ah0,Bool.and_comm]
theorem V3 {c:Int} {l:List Int} {x:Int} (h:x≤0):frL c (l++[x])=frL c l:=by
 unfold frL;refine List.filter_congr fun y hy=>?_;obtain⟨i,_,rfl⟩:=akC.1 hy;have:¬((i:Int)+1=x):=by omega
 simp[this]
def oU (c:Int) (gv:List Int) (l:List Int):List (List Int):=l.map fun x=>if 0<x then [x]else frL c gv
def oV (l:List Int):List Bool:=l.map fun x=>decide (0<x)
def bgn (c:Int) (gv:List Int):St:=⟨oU c gv gv,oV gv⟩
theorem jF {c:Int} {ls:List (List Int)} {sum:Int} {gv:List Int} (h:bD c ls sum gv):aR c ls sum (bgn c gv):=by
 have hc:=h.c1;have hg:=h.gl;have hat:∀i,i<gv.length→(bgn c gv).cd i=if 0<gv.getD i 0 then [gv.getD i 0]else frL c gv:=fun i hi=>by
  simp[bgn,oU,St.cd,ahZ,hi]
 have hdt:∀i,i<gv.length→(bgn c gv).dc i=decide (0<gv.getD i 0):=fun i hi=>by
  simp[bgn,oV,St.dc,ahZ,hi]
 have hl:(bgn c gv).cs.length=gv.length:=by simp[bgn,oU]
 refine⟨hc,h.ll,h.ln,h.sm,by rw[hl];exact hg,by simp[bgn,oV];exact hg,fun i hi=>?_,fun i hi hd=>?_⟩
 ·rw[hl]at hi
  rw[hat i hi];have hm:=h.gr _ (dx hi);split
  ·exact⟨.one (by omega),fun x hx=>by rw[akx.1 hx];omega⟩
  ·exact⟨Me hc,fun x hx=>((sS (by omega)).1 hx).1.2⟩
 ·rw[hl]at hi
  rw[hdt i hi,decide_eq_true_eq]at hd;rw[hat i hi,if_pos hd];rfl
theorem dA {α:Type} {l:List α} {i:Nat} (h:l.length=i):akt (i-0) (aku 0 l)=l:=by rw[akv,akw,←h,ajS]
theorem Pz (c:Int) (ls:List (List Int)) (sum:Int) (gv:List Int) (h:bD c ls sum gv):
 jm Tryz.prog 86 [pzV c ls sum gv] [] [.rp 0 0] (bdO c ls sum gv (bgn c gv) gv.length):=by
 have hc:=h.c1;have hg:=h.gl;have hsb:=lu (c+1).toNat (by omega)
 have ham:=zK hc;have hfr0:((ahX c.toNat).map fun i:Nat=>(i:Int)+1)=frL c []:=by unfold frL;simp;rw[akW.2 (fun _ _=>rfl)]
 rw[hfr0]at ham;refine bL (md:=1) (rf:=[53,61]) mixed au aC 0 [(1,0),(20,1),(21,2)] Tryz.func86 (by rfl) (by rfl) (by rfl) ?_
 repeat'((conv=>whnf);first|(intro hq;(try simp only[vw]at hq);try first|exact absurd hq (by decide)|exfalso;omega)|apply aI|with_reducible exact vM rfl|exact⟨⟩|apply nM|apply fM)
 all_goals((try apply vM);(try simp only[vq]at*);try omega)
 all_goals(try omega)
 conv=>whnf
 refine aM (X:=Nat) (fun i=>i≤gv.length) (fun i=>[(22,.int .i64 i),(4,.int .u32 (mk (frL c (gv.take i)):Nat))]) (fun i=>[]) (fun i=>gv.length-i) 0 ⟨aK,mixed,au,aC,aP⟩ (by rfl) (by omega) ?_ ?_
 ·repeat'((conv=>whnf);first|intro _|apply aI|with_reducible exact vM rfl|exact⟨⟩|apply nM|apply fM)
  all_goals((try apply vM);(try simp only[vq]at*);try omega)
  all_goals exact ham
 intro i hi;by_cases hlt:i<gv.length
 ·have hx:=h.gr _ (dx hlt)
  have hsx:=lu (gv.getD i 0).toNat (by omega)
  have hdel:=sM (Me (l:=gv.take i) hc).inM (show 0≤gv.getD i 0∧gv.getD i 0≤31 by omega)
  rw[abE,←dH hlt]at hdel
  repeat'((conv=>whnf);first|(intro hq;(try simp only[vw]at hq);try first|exact absurd hq (by decide)|exfalso;omega)|apply aI|with_reducible exact vM rfl|exact⟨⟩|apply nM|apply fM)
  all_goals((try apply vM);(try simp only[vq]at*);try omega)
  all_goals(try omega)
  ·refine⟨i+1,[],⟨by omega,by omega⟩,?_⟩
   repeat'((conv=>whnf);first|intro _|apply aI|with_reducible exact vM rfl|exact⟨⟩|apply nM|apply fM)
   all_goals((try apply vM);(try simp only[vq]at*);try omega)
   all_goals exact hdel
  ·refine⟨i+1,[],⟨by omega,by omega⟩,?_⟩
   rw[dH hlt,V3 (by omega)]
   repeat'((conv=>whnf);first|intro _|apply aI|with_reducible exact vM rfl|exact⟨⟩|apply nM|apply fM)
   all_goals((try apply vM);(try simp only[vq]at*);try omega)
 ·have:i=gv.length:=by omega
  subst this;rw[ajS]
  repeat'((conv=>whnf);first|(intro hq;(try simp only[vw]at hq);try first|exact absurd hq (by decide)|exfalso;omega)|apply aI|with_reducible exact vM rfl|exact⟨⟩|apply nM|apply fM)
  all_goals((try apply vM);(try simp only[vq]at*);try omega)
  conv=>whnf
  refine U3 (X:=Nat) (fun i=>1≤i∧i≤gv.length) (fun i=>[(36,.int .i64 i)]) (fun i=>[(1,.cells (.pv [.int .i64 c,.isl (.rows .i64 ls) .none,.int .i64 sum,.isl (.ints .i64 gv) .none,.rsl 20 0 i,.rsl 21 0 i]) false),(20,.cells (.ints .u32 (ms (oU c gv (gv.take i)))) false),(21,.cells (.bools (oV (gv.take i))) false)]) (fun i=>gv.length-i) gv.length ⟨aK,mixed,au,aC,aP⟩ (by rfl) ?_ ?_
  ·have hx:0≤gv.getD (akf 0) 0∧gv.getD (akf 0) 0≤c:=h.gr _ (dx (show 0<gv.length by omega))
   have hsx:=lu (gv.getD (akf 0) 0).toNat (by omega)
   have e0:gv.take 1=[gv.getD (akf 0) 0]:=dH (l:=gv) (i:=0) (by omega)
   have ec:∀q:List Int,(if 0<gv.getD (akf 0) 0 then [gv.getD (akf 0) 0]else frL c gv)=q→ms (oU c gv (gv.take 1))=[((mk q:Nat):Int)]:=fun q hq=>by rw[e0,←hq];rfl
   have ed:oV (gv.take 1)=[decide (0<gv.getD (akf 0) 0)]:=by rw[e0];rfl
   have hone:(1:Int)*2 ^ (gv.getD (akf 0) 0).toNat=((mk [gv.getD (akf 0) 0]:Nat):Int):=by rw[mk_one,ajY];norm_cast
   repeat'((conv=>whnf);first|(intro hq;(try simp only[vw]at hq);try first|exact absurd hq (by decide)|exfalso;omega)|apply aI|with_reducible exact vM rfl|exact⟨⟩|apply nM|apply fM)
   all_goals((try apply vM);(try simp only[vq]at*);try omega)
   all_goals(try omega)
   ·refine⟨1,[(3,20),(5,21)],⟨⟨by omega,by omega⟩,by omega⟩,?_⟩
    rw[ec _ (if_pos hq),ed]
    repeat'((conv=>whnf);first|intro _|apply aI|with_reducible exact vM rfl|exact⟨⟩|apply nM|apply fM)
    all_goals((try apply vM);(try simp only[vq]at*);try omega)
    all_goals first|(rw[hone];done)|(rw[hone])|skip
   ·refine⟨1,[(3,20),(5,21)],⟨⟨by omega,by omega⟩,by omega⟩,?_⟩
    rw[ec _ (if_neg hq),ed]
    repeat'((conv=>whnf);first|intro _|apply aI|with_reducible exact vM rfl|exact⟨⟩|apply nM|apply fM)
    all_goals((try apply vM);(try simp only[vq]at*);try omega)
  ·intro i ⟨hi1,hi2⟩
   have hbl:(ms (oU c gv (gv.take i))).length=i∧(oV (gv.take i)).length=i:=by
    constructor
    ·rw[dW];unfold oU;rw[ajO,aiG];omega
    ·unfold oV;rw[ajO,aiG];omega
   by_cases hlt:i<gv.length
   ·have hx:=h.gr _ (dx hlt)
    have hsx:=lu (gv.getD i 0).toNat (by omega)
    have e0:=dH hlt;have ec:∀q:List Int,(if 0<gv.getD i 0 then [gv.getD i 0]else frL c gv)=q→ms (oU c gv (gv.take (i+1)))=ms (oU c gv (gv.take i))++[((mk q:Nat):Int)]:=fun q hq=>by
     rw[e0,←hq];unfold oU ms;rw[ajR,ajR];rfl
    have ed:oV (gv.take (i+1))=oV (gv.take i)++[decide (0<gv.getD i 0)]:=by rw[e0];unfold oV;rw[ajR];rfl
    have hone:(1:Int)*2 ^ (gv.getD i 0).toNat=((mk [gv.getD i 0]:Nat):Int):=by rw[mk_one,ajY];norm_cast
    repeat'((conv=>whnf);first|(intro hq;(try simp only[vw]at hq);try first|exact absurd hq (by decide)|exfalso;omega)|apply aI|with_reducible exact vM rfl|exact⟨⟩|apply nM|apply fM)
    all_goals((try apply vM);(try simp only[vq]at*);try omega)
    all_goals(try omega)
    ·refine⟨i+1,[(3,20),(5,21)],⟨⟨by omega,by omega⟩,by omega⟩,?_⟩
     rw[ec _ (if_pos hq),ed]
     repeat'((conv=>whnf);first|intro _|apply aI|with_reducible exact vM rfl|exact⟨⟩|apply nM|apply fM)
     all_goals((try apply vM);(try simp only[vq]at*);try omega)
     all_goals first|rw[dA hbl.1,hone]|rw[dA hbl.2]
    ·refine⟨i+1,[(3,20),(5,21)],⟨⟨by omega,by omega⟩,by omega⟩,?_⟩
     rw[ec _ (if_neg hq),ed]
     repeat'((conv=>whnf);first|intro _|apply aI|with_reducible exact vM rfl|exact⟨⟩|apply nM|apply fM)
     all_goals((try apply vM);(try simp only[vq]at*);try omega)
     all_goals first|rw[dA hbl.1]|rw[dA hbl.2]
   ·have:i=gv.length:=by omega
    subst this;rw[ajS]at*
    repeat'((conv=>whnf);first|(intro hq;(try simp only[vw]at hq);try first|exact absurd hq (by decide)|exfalso;omega)|apply aI|with_reducible exact vM rfl|exact⟨⟩|apply nM|apply fM)
    all_goals((try apply vM);(try simp only[vq]at*);try omega)
    all_goals skip
def BD:LSp:=fun xs objs K=>match xs,objs with
 | [.agg [.int .i64 c,.isl (.rows .i64 ls) .none,.int .i64 sum,.isl (.ints .i64 gv) .none]],[]=>VC (bD c ls sum gv)∧K [.rp 0 0] (bdO c ls sum gv (bgn c gv) gv.length)
 |_,_=>False
theorem Iz:LOK Tryz.prog 86 BD:=by
 intro xs objs K hk;unfold BD at hk;split at hk
 ·exact⟨_,_,hk.2,Pz _ _ _ _ hk.1.get⟩
 ·exact hk.elim
theorem sj {l:List Int} {k i:Nat} (hk:k<i) (hi:i≤l.length):l.getD k 0∈l.take i:=by
 rw[bG];exact⟨k,by rw[aiG];omega,by simp[ahZ,List.getElem?_take,hk]⟩
theorem Mf {c:Int} {ls:List (List Int)} {sum:Int} {gv:List Int}:mK c ls sum gv=if eP c ls≠0 then eP c ls else if sum< -999999999∨999999999<sum then 3 else if(gv.length:Int)≠c then 2 else 0:=by
 unfold mK;simp only[aJ]
 (repeat' split)<;>simp_all
noncomputable def ag3:CPT:=aA 51 (aB Dc) noC
theorem Dr:aW Tryz.prog ag3:=aj (ak R9) aC
theorem V4 (c:Int) (ls:List (List Int)) (sum:Int) (gv:List Int) (h:bO ls) (hg:gv.length≤5000):aF Tryz.prog 18 [pzV c ls sum gv] (.int .i64 (pzE c ls sum gv)):=by
 obtain⟨E,hE⟩:∃E,mK c ls sum gv=E:=⟨_,rfl⟩;have hE0:=Mf (c:=c) (ls:=ls) (sum:=sum) (gv:=gv);unfold pzE;rw[hE]at hE0⊢;refine av (md:=1) (rf:=[]) mixed au Dr Tryz.func18 (by rfl) (by rfl) (by rfl) ?_
 repeat'((conv=>whnf);first|(intro hq;(try simp only[vw]at hq);try first|exact absurd hq (by decide)|exfalso;omega)|apply aI|with_reducible exact vM rfl|exact⟨⟩|apply nM|apply fM)
 all_goals((try apply vM);(try simp only[vq]at*);try omega)
 all_goals first|exact h|skip
 ·rw[if_pos hq]at hE0
  rw[hE0,if_pos hq];exact Sup.of rfl
 ·rename_i h1 h2
  rw[if_neg h1,if_pos (.inr hq)]at hE0;rw[hE0];exact Sup.of rfl
 ·rename_i h1 h2 h3
  rw[if_neg h1,if_neg (by omega),if_pos hq]at hE0
  rw[hE0];exact Sup.of rfl
 rotate_left
 ·rename_i h1
  rw[if_neg h1,if_pos (.inl hq)]at hE0;rw[hE0];exact Sup.of rfl
 rename_i h1 h2 h3;rw[if_neg h1,if_neg (by omega),if_neg hq]at hE0
 rw[hE0,if_neg (by simp)]
 conv=>whnf
 refine aM (X:=Nat) (fun i=>i≤gv.length∧∀j,j<i→gvE c gv j=0) (fun i=>[(4,.int .i64 i)]) (fun i=>[]) (fun i=>gv.length-i) 0 ⟨aK,mixed,au,Dr,aP⟩ (by rfl) ⟨by omega,fun j hj=>by omega⟩ ?_ ?_
 ·repeat'((conv=>whnf);first|intro _|apply aI|with_reducible exact vM rfl|exact⟨⟩|apply nM|apply fM)
  all_goals((try apply vM);(try simp only[vq]at*);try omega)
 intro i ⟨hi,hok⟩;by_cases hlt:i<gv.length
 ·have eS:gvE c gv i=if gv.getD i 0<0∨c<gv.getD i 0 then 3 else if 0<gv.getD i 0∧gv.getD i 0∈gv.take i then 9 else 0:=rfl
  have fin:∀e,gvE c gv i=e→e≠0→dD (gvE c gv) gv.length=e:=fun e a1 a2=>(eX hlt (by rw[a1];exact a2) hok).trans a1
  have nxt:gvE c gv i=0→∀j,j<i+1→gvE c gv j=0:=fun a j hj=>by
   by_cases e:j=i
   ·subst e;exact a
   ·exact hok j (by omega)
  repeat'((conv=>whnf);first|(intro hq;(try simp only[vw]at hq);try first|exact absurd hq (by decide)|exfalso;omega)|apply aI|with_reducible exact vM rfl|exact⟨⟩|apply nM|apply fM)
  all_goals((try apply vM);(try simp only[vq]at*);try omega)
  ·refine Sup.of (congrArg (PV.int .i64) (fin _ ?_ ?_).symm)
   ·rw[eS,if_pos (.inr hq)]
   ·omega
  ·conv=>whnf
   refine aM (X:=Nat) (fun k=>k≤i∧(0<gv.getD i 0→gv.getD i 0∉gv.take k)) (fun k=>[(5,.int .i64 k)]) (fun k=>[]) (fun k=>i-k) 0 ⟨aK,mixed,au,Dr,aP⟩ (by rfl) ⟨by omega,fun _=>by simp⟩ ?_ ?_
   ·repeat'((conv=>whnf);first|intro _|apply aI|with_reducible exact vM rfl|exact⟨⟩|apply nM|apply fM)
    all_goals((try apply vM);(try simp only[vq]at*);try omega)
   intro k ⟨hk,hok2⟩;by_cases hlk:k<i
   ·repeat'((conv=>whnf);first|(intro hq;(try simp only[vw]at hq);try first|exact absurd hq (by decide)|exfalso;omega)|apply aI|with_reducible exact vM rfl|exact⟨⟩|apply nM|apply fM)
    all_goals((try apply vM);(try simp only[vq]at*);try omega)
    ·refine Sup.of (congrArg (PV.int .i64) (fin _ ?_ ?_).symm)
     ·rw[eS,if_neg (by omega),if_pos ⟨by assumption,by rw[←hq];exact sj hlk hi⟩]
     ·omega
    ·refine⟨k+1,[],⟨⟨by omega,fun h hm=>?_⟩,by omega⟩,?_⟩
     ·rcases(vK gv _ k (by omega)).1 hm with h1|h1
      ·exact hok2 h h1
      ·exact hq h1.symm
     repeat'((conv=>whnf);first|intro _|apply aI|with_reducible exact vM rfl|exact⟨⟩|apply nM|apply fM)
     all_goals((try apply vM);(try simp only[vq]at*);try omega)
    ·refine⟨k+1,[],⟨⟨by omega,fun h hm=>absurd h hq⟩,by omega⟩,?_⟩
     repeat'((conv=>whnf);first|intro _|apply aI|with_reducible exact vM rfl|exact⟨⟩|apply nM|apply fM)
     all_goals((try apply vM);(try simp only[vq]at*);try omega)
   ·have:k=i:=by omega
    subst this
    repeat'((conv=>whnf);first|(intro hq;(try simp only[vw]at hq);try first|exact absurd hq (by decide)|exfalso;omega)|apply aI|with_reducible exact vM rfl|exact⟨⟩|apply nM|apply fM)
    all_goals((try apply vM);(try simp only[vq]at*);try omega)
    refine⟨k+1,[],⟨⟨by omega,nxt ?_⟩,by omega⟩,?_⟩
    ·rw[eS,if_neg (by omega),if_neg (fun h=>hok2 h.1 h.2)]
    repeat'((conv=>whnf);first|intro _|apply aI|with_reducible exact vM rfl|exact⟨⟩|apply nM|apply fM)
    all_goals((try apply vM);(try simp only[vq]at*);try omega)
  ·refine Sup.of (congrArg (PV.int .i64) (fin _ ?_ ?_).symm)
   ·rw[eS,if_pos (.inl hq)]
   ·omega
 ·have:gv.length=i:=by omega
  rw[eU (n:=gv.length) (by rw[this];exact hok)]
  repeat'((conv=>whnf);first|intro _|apply aI|with_reducible exact vM rfl|exact⟨⟩|apply nM|apply fM)
  all_goals((try apply vM);(try simp only[vq]at*);try omega)
  exact Sup.of rfl
def PD:PSp:=fun xs K=>match xs with
 | [.agg [.int .i64 c,.isl (.rows .i64 ls) .none,.int .i64 sum,.isl (.ints .i64 gv) .none]]=>VC (bO ls∧gv.length≤5000)∧K (.int .i64 (pzE c ls sum gv))
 |_=>False
theorem SA:POK Tryz.prog 18 PD:=by
 intro xs K h;unfold PD at h;split at h
 ·exact⟨_,h.2,V4 _ _ _ _ h.1.get.1 h.1.get.2⟩
 ·exact h.elim
def nN (p:List Int) (i:Nat):Int:=if p.getD i 0<0∨p.length≤p.getD i 0∨p.getD i 0∈p.take i then 14 else 0
def gG (e1:Int) (p:List Int):Int:=if 256<p.length then e1 else dD (nN p) p.length
def jV (p:List Int) (i:Nat):List Bool:=(ahX p.length).map fun x:Nat=>decide ((x:Int)∈p.take i)
theorem EG (p:List Int) (i:Nat):(jV p i).length=p.length:=by simp[jV]
theorem IB (p:List Int) (i:Nat) (x:Int) (h:0≤x∧x<p.length):(jV p i).getD x.toNat false=decide (x∈p.take i):=by
 have:x.toNat<p.length:=by omega
 simp[jV,ahZ,this,show max x 0=x by omega]
theorem BF (p:List Int):List.replicate p.length false=jV p 0:=by
 refine akH (by simp[jV]) fun j h1 h2=>by simp[jV]
theorem BG (p:List Int) (i:Nat) (hi:i<p.length) (h:0≤p.getD i 0∧p.getD i 0<p.length):(jV p i).set (p.getD i 0).toNat true=jV p (i+1):=by
 refine akH (by simp[jV]) fun j h1 h2=>?_
 rw[akI];have hj:j<p.length:=by simpa [jV]using h1
 simp only[jV,akJ,akK,vK p _ i hi];by_cases e:(p.getD i 0).toNat=j
 ·rw[if_pos e];exact(decide_eq_true (.inr (by omega))).symm
 ·rw[if_neg e]
  have:¬((j:Int)=p.getD i 0):=by omega
  simp only[this,or_false]
theorem SB (p:List Int) (hp:p.length≤5000):aF Tryz.prog 123 [.isl (.ints .i64 p) .none] (.int .i64 (gG 5 p)):=by
 unfold gG;refine av (md:=1) (rf:=[]) mixed au aC Tryz.func123 (by rfl) (by rfl) (by rfl) ?_
 repeat'((conv=>whnf);first|(intro hq;(try simp only[vw]at hq);try first|exact absurd hq (by decide)|exfalso;omega)|apply aI|with_reducible exact vM rfl|exact⟨⟩|apply nM|apply fM)
 all_goals((try apply vM);(try simp only[vq]at*);try omega)
 ·rw[if_pos (by omega)];exact Sup.of rfl
 ·exact .inl trivial
 rw[if_neg (by omega)]
 conv=>whnf
 refine aM (X:=Nat) (fun i=>i≤p.length∧∀j,j<i→nN p j=0) (fun i=>[(14,.int .i64 i)]) (fun i=>[(0,.cells (.bools (jV p i)) false)]) (fun i=>p.length-i) 0 ⟨aK,mixed,au,aC,aP⟩ (by rfl) ⟨by omega,fun j hj=>by omega⟩ ?_ ?_
 ·repeat'((conv=>whnf);first|intro _|apply aI|with_reducible exact vM rfl|exact⟨⟩|apply nM|apply fM)
  all_goals((try apply vM);(try simp only[vq]at*);try omega)
  all_goals exact BF p
 intro i ⟨hi,hok⟩;have hsl:=EG p i;by_cases hlt:i<p.length
 ·have eS:nN p i=if p.getD i 0<0∨p.length≤p.getD i 0∨p.getD i 0∈p.take i then 14 else 0:=rfl
  have eA:=IB p i (p.getD i 0);have fin:∀e,nN p i=e→e≠0→dD (nN p) p.length=e:=fun e a1 a2=>(eX hlt (by rw[a1];exact a2) hok).trans a1
  repeat'((conv=>whnf);first|(intro hq;(try simp only[vw]at hq);try first|exact absurd hq (by decide)|exfalso;omega)|apply aI|with_reducible exact vM rfl|exact⟨⟩|apply nM|apply fM)
  all_goals((try apply vM);(try simp only[vq]at*);try omega)
  all_goals(try(rw[hsl];omega))
  ·rw[eA (by omega),decide_eq_true_eq]at hq
   refine Sup.of (congrArg (PV.int .i64) (fin _ ?_ (by omega)).symm)
   rw[eS,if_pos (.inr (.inr hq))]
  ·rw[eA (by omega),decide_eq_false_iff_not]at hq
   refine⟨i+1,[],⟨⟨by omega,fun j hj=>?_⟩,by omega⟩,?_⟩
   ·by_cases e:j=i
    ·subst e;rw[eS,if_neg (by rintro(h|h|h);omega;omega;exact hq h)]
    ·exact hok j (by omega)
   repeat'((conv=>whnf);first|intro _|apply aI|with_reducible exact vM rfl|exact⟨⟩|apply nM|apply fM)
   all_goals((try apply vM);(try simp only[vq]at*);try omega)
   all_goals exact BG p i hlt (by omega)
  ·refine Sup.of (congrArg (PV.int .i64) (fin _ ?_ (by omega)).symm)
   rw[eS,if_pos (.inr (.inl hq))]
  ·refine Sup.of (congrArg (PV.int .i64) (fin _ ?_ (by omega)).symm)
   rw[eS,if_pos (.inl hq)]
 ·have:p.length=i:=by omega
  rw[eU (n:=p.length) (by rw[this];exact hok)]
  repeat'((conv=>whnf);first|(intro hq;(try simp only[vw]at hq);try first|exact absurd hq (by decide)|exfalso;omega)|apply aI|with_reducible exact vM rfl|exact⟨⟩|apply nM|apply fM)
  all_goals((try apply vM);(try simp only[vq]at*);try omega)
  exact Sup.of rfl
theorem PE (p:List Int) (hp:p.length≤5000):aF Tryz.prog 56 [.isl (.ints .i64 p) .none] (.int .i64 (gG 5 p)):=by
 unfold gG;refine av (md:=1) (rf:=[]) mixed au aC Tryz.func56 (by rfl) (by rfl) (by rfl) ?_
 repeat'((conv=>whnf);first|(intro hq;(try simp only[vw]at hq);try first|exact absurd hq (by decide)|exfalso;omega)|apply aI|with_reducible exact vM rfl|exact⟨⟩|apply nM|apply fM)
 all_goals((try apply vM);(try simp only[vq]at*);try omega)
 ·rw[if_pos (by omega)];exact Sup.of rfl
 ·exact .inl trivial
 rw[if_neg (by omega)]
 conv=>whnf
 refine aM (X:=Nat) (fun i=>i≤p.length∧∀j,j<i→nN p j=0) (fun i=>[(4,.int .i64 i)]) (fun i=>[(0,.cells (.bools (jV p i)) false)]) (fun i=>p.length-i) 0 ⟨aK,mixed,au,aC,aP⟩ (by rfl) ⟨by omega,fun j hj=>by omega⟩ ?_ ?_
 ·repeat'((conv=>whnf);first|intro _|apply aI|with_reducible exact vM rfl|exact⟨⟩|apply nM|apply fM)
  all_goals((try apply vM);(try simp only[vq]at*);try omega)
  all_goals exact BF p
 intro i ⟨hi,hok⟩;have hsl:=EG p i;by_cases hlt:i<p.length
 ·have eS:nN p i=if p.getD i 0<0∨p.length≤p.getD i 0∨p.getD i 0∈p.take i then 14 else 0:=rfl
  have eA:=IB p i (p.getD i 0);have fin:∀e,nN p i=e→e≠0→dD (nN p) p.length=e:=fun e a1 a2=>(eX hlt (by rw[a1];exact a2) hok).trans a1
  repeat'((conv=>whnf);first|(intro hq;(try simp only[vw]at hq);try first|exact absurd hq (by decide)|exfalso;omega)|apply aI|with_reducible exact vM rfl|exact⟨⟩|apply nM|apply fM)
  all_goals((try apply vM);(try simp only[vq]at*);try omega)
  all_goals(try(rw[hsl];omega))
  ·rw[eA (by omega),decide_eq_true_eq]at hq
   refine Sup.of (congrArg (PV.int .i64) (fin _ ?_ (by omega)).symm)
   rw[eS,if_pos (.inr (.inr hq))]
  ·rw[eA (by omega),decide_eq_false_iff_not]at hq
   refine⟨i+1,[],⟨⟨by omega,fun j hj=>?_⟩,by omega⟩,?_⟩
   ·by_cases e:j=i
    ·subst e;rw[eS,if_neg (by rintro(h|h|h);omega;omega;exact hq h)]
    ·exact hok j (by omega)
   repeat'((conv=>whnf);first|intro _|apply aI|with_reducible exact vM rfl|exact⟨⟩|apply nM|apply fM)
   all_goals((try apply vM);(try simp only[vq]at*);try omega)
   all_goals exact BG p i hlt (by omega)
  ·refine Sup.of (congrArg (PV.int .i64) (fin _ ?_ (by omega)).symm)
   rw[eS,if_pos (.inr (.inl hq))]
  ·refine Sup.of (congrArg (PV.int .i64) (fin _ ?_ (by omega)).symm)
   rw[eS,if_pos (.inl hq)]
 ·have:p.length=i:=by omega
  rw[eU (n:=p.length) (by rw[this];exact hok)]
  repeat'((conv=>whnf);first|(intro hq;(try simp only[vw]at hq);try first|exact absurd hq (by decide)|exfalso;omega)|apply aI|with_reducible exact vM rfl|exact⟨⟩|apply nM|apply fM)
  all_goals((try apply vM);(try simp only[vq]at*);try omega)
  exact Sup.of rfl
def FR:PSp:=fun xs K=>match xs with
 | [.isl (.ints .i64 p) .none]=>VC (p.length≤5000)∧K (.int .i64 (gG 5 p))
 |_=>False
theorem Mg:POK Tryz.prog 123 FR:=by
 intro xs K h;unfold FR at h;split at h
 ·exact⟨_,h.2,SB _ h.1.get⟩
 ·exact h.elim
def IC:PSp:=fun xs K=>match xs with
 | [.isl (.ints .i64 p) .none]=>VC (p.length≤5000)∧K (.int .i64 (gG 5 p))
 |_=>False
theorem V5:POK Tryz.prog 56 IC:=by
 intro xs K h;unfold IC at h;split at h
 ·exact⟨_,h.2,PE _ h.1.get⟩
 ·exact h.elim
theorem cK {l:List Int} {i:Nat} (h:i<l.length):l.getD i 0=l[i]:=by rw[ahZ,ah4 h];rfl
theorem yS {l:List Int} (h:∀k,0<k→k<l.length→l.getD (k-1) 0<l.getD k 0):l.Pairwise (·< ·):=by
 have key:∀d i,i+d+1<l.length→l.getD i 0<l.getD (i+d+1) 0:=by
  intro d;induction d with
  |zero=>intro i hi;have:=h (i+1) (by omega) hi;simpa using this
  |succ d ih=>
   intro i hi;have h1:=ih i (by omega)
   have h2:=h (i+(d+1)+1) (by omega) hi
   rw[show i+(d+1)+1-1=i+d+1 by omega]at h2
   omega
 rw[List.pairwise_iff_getElem];intro i j hi hj hij;have:=key (j-i-1) i (by omega)
 rw[show i+(j-i-1)+1=j by omega,cK hi,cK hj]at this
 exact this
theorem IE {l:List Int} {c:Int} (hp:l.Pairwise (·< ·)) (hr:∀x∈l,0≤x∧x<c) (hc:0≤c):(l.length:Int)≤c:=by
 have:=HY l (-1) (c-1) hp (fun x hx=>by have:=hr x hx;omega) (by omega)
 omega
theorem bD.of {c:Int} {ls:List (List Int)} {sum:Int} {gv:List Int} (h:pzE c ls sum gv=0):bD c ls sum gv:=by
 unfold pzE at h;have h0:mK c ls sum gv=0:=by
  by_cases e:mK c ls sum gv=0
  ·exact e
  ·rw[if_pos e]at h;exact h
 rw[if_neg (by rw[h0];simp)]at h
 have hg:=gJ h;rw[Mf]at h0;have hb:eP c ls=0:=by
  by_cases e:eP c ls=0
  ·exact e
  ·rw[if_pos e]at h0;exact h0
 rw[if_neg (by rw[hb];simp)]at h0
 have hs:¬(sum< -999999999∨999999999<sum):=fun e=>by rw[if_pos e]at h0;cases h0
 rw[if_neg hs]at h0;have hl:(gv.length:Int)=c:=by
  by_cases e:(gv.length:Int)=c
  ·exact e
  ·rw[if_pos e]at h0;cases h0
 unfold eP at hb;simp only[aJ]at hb;have hsy:fU c ls=0:=by
  by_cases e:fU c ls=0
  ·exact e
  ·rw[if_neg e]at hb;exact absurd hb e
 rw[if_pos hsy]at hb;have hc16:¬16<c:=fun e=>by rw[if_pos e]at hb;simp at hb
 rw[if_neg hc16,if_pos rfl]at hb;have hls:ls.length≠0:=fun e=>by rw[if_pos e]at hb;simp at hb
 unfold fU at hsy;have hcr:¬(c<1∨256<c):=fun e=>by rw[if_pos e]at hsy;cases hsy
 rw[if_neg hcr]at hsy;have hln:¬128<ls.length:=fun e=>by rw[if_pos e]at hsy;cases hsy
 rw[if_neg hln]at hsy;have hlE:=gJ hsy;refine⟨by omega,by omega,fun i hi=>?_,by omega,hl,fun x hx=>?_,fun i j hij hj hpos e=>?_⟩
 ·have hL:=hlE i hi
  unfold iI at hL;have hne:¬(ls.getD i []).length=0:=fun e=>by rw[if_pos e]at hL;cases hL
  rw[if_neg hne]at hL;have hst:dD (bT c (ls.getD i [])) (ls.getD i []).length=0:=by
   by_cases e:dD (bT c (ls.getD i [])) (ls.getD i []).length=0
   ·exact e
   ·rw[if_pos e]at hL;exact hL
  have hst:=gJ hst;have hk:∀k,k<(ls.getD i []).length→(0≤(ls.getD i []).getD k 0∧(ls.getD i []).getD k 0<c)∧(0<k→(ls.getD i []).getD (k-1) 0<(ls.getD i []).getD k 0):=fun k hk=>by
   have:=hst k hk;unfold bT at this;have h1:¬((ls.getD i []).getD k 0<0∨c≤(ls.getD i []).getD k 0):=fun e=>by rw[if_pos e]at this;cases this
   rw[if_neg h1]at this;refine⟨by omega,fun h0=>?_⟩
   have h2:¬(0<k∧(ls.getD i []).getD k 0≤(ls.getD i []).getD (k-1) 0):=fun e=>by rw[if_pos e]at this;cases this
   omega
  have hr:∀x∈ls.getD i [],0≤x∧x<c:=fun x hx=>by
   obtain⟨k,h1,rfl⟩:=(bG _ x).1 hx;exact(hk k h1).1
  have hp:=yS fun k h0 h1=>(hk k h1).2 h0;have:=IE hp hr (by omega)
  exact⟨by omega,by omega,hr,hp⟩
 ·obtain⟨i,h1,rfl⟩:=(bG _ x).1 hx
  have:=hg i h1;unfold gvE at this;have h2:¬(gv.getD i 0<0∨c<gv.getD i 0):=fun e=>by rw[if_pos e]at this;cases this
  omega
 ·have:=hg j hj
  unfold gvE at this;have h2:¬(gv.getD j 0<0∨c<gv.getD j 0):=fun e=>by rw[if_pos e]at this;cases this
  rw[if_neg h2,if_pos ⟨hpos,by rw[←e];exact sj hij (by omega)⟩]at this
  cases this
def StI (s:St):Prop:=∀i j,i<s.cs.length→j<s.cs.length→i≠j→s.dc i=true→hd0 (s.cd i)∉s.cd j
theorem eD {l:List Int} {x y:Int}:y∈dY l x↔y∈l∧y≠x:=by unfold dY;rw[aj2];simp
theorem EH {l:List Int} {x:Int} (h:x∉l):dY l x=l:=by
 unfold dY;rw[akW];intro y hy;have:y≠x:=fun e=>h (e▸hy);simp[this]
theorem nO {g:Nat} {s:St} {y x:Int}:(apl g s y x).cs.length=s.cs.length∧(apl g s y x).ds.length=s.ds.length:=by
 unfold apl;split<;>simp
theorem xq {g:Nat} {s:St} {y x:Int} (hy:y.toNat<s.ds.length) (i:Nat):(apl g s y x).dc i=if g≤3∧i=y.toNat then true else s.dc i:=by
 unfold apl St.dc;by_cases hg:g≤3
 ·rw[if_pos hg]
  by_cases e:i=y.toNat
  ·subst e;simp[hg,ahZ,hy]
  ·rw[if_neg (fun h=>e h.2)]
   simp[ahZ,aiu (Ne.symm e)]
 ·rw[if_neg hg,if_neg (fun h=>hg h.1)]
theorem sU {g:Nat} {s:St} {y x:Int} (hy:y.toNat<s.cs.length) (i:Nat) (hi:i<s.cs.length):(apl g s y x).cd i=if g≤3 then(if i=y.toNat then [x]else dY (s.cd i) x)else if i=y.toNat then dY (s.cd i) x else s.cd i:=by
 unfold apl St.cd;by_cases hg:g≤3
 ·rw[if_pos hg,if_pos hg]
  by_cases e:i=y.toNat
  ·subst e;simp[ahZ,hy]
  ·rw[if_neg e]
   simp[ahZ,aiu (Ne.symm e),akX (Ne.symm e),hi]
 ·rw[if_neg hg,if_neg hg]
  by_cases e:i=y.toNat
  ·subst e;simp[ahZ,hy]
  ·rw[if_neg e]
   simp[ahZ,aiu (Ne.symm e),akX (Ne.symm e),hi]
theorem lC {c:Int} {ls:List (List Int)} {sum:Int} {s:St} (h:aR c ls sum s) (hI:StI s) {g:Nat} {y x:Int} (hy:0≤y∧y<c) (hx:1≤x∧x≤c) (hd:s.dc y.toNat=false) (hm:x∈s.cd y.toNat):
 aR c ls sum (apl g s y x)∧StI (apl g s y x):=by
 have hc:=h.c1;obtain⟨hyc,hyd⟩:=h.at hy;have hln:=nO (g:=g) (s:=s) (y:=y) (x:=x);have cdi:=fun i hi=>sU (g:=g) (x:=x) hyc i hi;have dci:=fun i=>xq (g:=g) (s:=s) (x:=x) hyd i;have hnot:∀i,i<s.cs.length→s.dc i=true→x∉s.cd i:=fun i hi hdi hxi=>by
  have h1:=h.dec i hi hdi;obtain⟨z,hz⟩:=List.length_eq_one_iff.1 h1;rw[hz,akx]at hxi;have hne:i≠y.toNat:=fun e=>by rw[e,hd]at hdi;cases hdi
  have:=hI i y.toNat hi hyc hne hdi;rw[hz]at this;exact this (by rw[hxi]at hm;exact hm)
 refine⟨⟨hc,h.ll,h.ln,h.sm,by rw[hln.1];exact h.cl,by rw[hln.2];exact h.dl,fun i hi=>?_,fun i hi hdi=>?_⟩,fun i j hi hj hij hdi=>?_⟩
 ·rw[hln.1]at hi
  rw[cdi i hi];have hA:=h.asc i hi;split
  ·split
   ·exact⟨.one (by omega),fun z hz=>by rw[akx.1 hz];omega⟩
   ·exact⟨hA.1.out x,fun z hz=>hA.2 z (eD.1 hz).1⟩
  ·split
   ·exact⟨hA.1.out x,fun z hz=>hA.2 z (eD.1 hz).1⟩
   ·exact hA
 ·rw[hln.1]at hi
  rw[dci i]at hdi;rw[cdi i hi];split
  ·rename_i hg
   split
   ·rfl
   ·rename_i hne
    rw[if_neg (fun e=>hne e.2)]at hdi;rw[EH (hnot i hi hdi)];exact h.dec i hi hdi
  ·rename_i hg
   rw[if_neg (fun e=>hg e.1)]at hdi;split
   ·rename_i e
    rw[e,hd]at hdi;cases hdi
   ·exact h.dec i hi hdi
 ·rw[hln.1]at hi hj
  rw[dci i]at hdi;rw[cdi i hi,cdi j hj];by_cases hg:g≤3
  ·rw[if_pos hg,if_pos hg]
   by_cases ei:i=y.toNat
   ·rw[if_pos ei,if_neg (fun e=>hij (ei.trans e.symm))]
    exact fun hz=>(eD.1 hz).2 rfl
   ·rw[if_neg (fun e=>ei e.2)]at hdi
    rw[if_neg ei,EH (hnot i hi hdi)];have h1:=hI i j hi hj hij hdi;by_cases ej:j=y.toNat
    ·rw[if_pos ej,akx]
     have h2:=h.dec i hi hdi;have h3:=iT (l:=s.cd i) (by omega)
     exact fun e=>hnot i hi hdi (e▸h3)
    ·rw[if_neg ej]
     exact fun hz=>h1 (eD.1 hz).1
  ·rw[if_neg hg,if_neg hg]
   rw[if_neg (fun e=>hg e.1)]at hdi;have ei:i≠y.toNat:=fun e=>by rw[e,hd]at hdi;cases hdi
   rw[if_neg ei];have h1:=hI i j hi hj hij hdi;split
   ·exact fun hz=>h1 (eD.1 hz).1
   ·exact h1
theorem BH {c:Int} {gv:List Int} {i:Nat} (hi:i<gv.length):(bgn c gv).cd i=if 0<gv.getD i 0 then [gv.getD i 0]else frL c gv:=by
 simp[bgn,oU,St.cd,ahZ,hi]
theorem IG {c:Int} {gv:List Int} {i:Nat} (hi:i<gv.length):(bgn c gv).dc i=decide (0<gv.getD i 0):=by
 simp[bgn,oV,St.dc,ahZ,hi]
theorem l8 {c:Int} {gv:List Int}:(bgn c gv).cs.length=gv.length∧(bgn c gv).ds.length=gv.length:=by simp[bgn,oU,oV]
theorem jM {c:Int} {ls:List (List Int)} {sum:Int} {gv:List Int} (h:bD c ls sum gv):StI (bgn c gv):=by
 have hc:=h.c1;intro i j hi hj hij hd;rw[l8.1]at hi hj;rw[IG hi,decide_eq_true_eq]at hd;rw[BH hi,if_pos hd,BH hj];have e:hd0 [gv.getD i 0]=gv.getD i 0:=rfl;rw[e];split
 ·rename_i hp
  rw[akx];intro he;rcases Nat.lt_or_ge i j with h1|h1
  ·exact h.gd i j h1 hj hp he
  ·exact h.gd j i (by omega) hi hd he.symm
 ·intro hm
  exact((sS (by omega)).1 hm).2 (dx hi)
def xu:List Bool→Nat
 | []=>0
 |b::r=>(if b then 0 else 1)+xu r
def kW:List (List Int)→Nat
 | []=>0
 |l::r=>l.length+kW r
def muS (s:St):Nat:=kW s.cs+xu s.ds
theorem V6:∀(l:List Bool) (i:Nat),i<l.length→l.getD i false=false→xu (l.set i true)+1=xu l:=by
 intro l;induction l with
 |nil=>intro i hi;simp at hi
 |cons b r ih=>
  intro i hi hb;cases i with
  |zero=>simp at hb;subst hb;simp[xu];omega
  |succ i=>
   have:=ih i (by simpa using hi) (by simpa using hb)
   simp only[akY,xu];omega
theorem II:∀(l:List (List Int)) (i:Nat) (x:List Int),i<l.length→kW (l.set i x)+(l.getD i []).length=kW l+x.length:=by
 intro l;induction l with
 |nil=>intro i x hi;simp at hi
 |cons b r ih=>
  intro i x hi;cases i with
  |zero=>simp[kW];omega
  |succ i=>
   have:=ih i x (by simpa using hi)
   simp only[akY,kW,List.getD_cons_succ];omega
theorem IJ (l:List Int) (x:Int):(dY l x).length≤l.length:=aky _ _
theorem Mh {l:List Int} {x:Int} (h:x∈l):(dY l x).length<l.length:=by
 unfold dY;rw[List.length_filter_lt_length_iff_exists];exact⟨x,h,by simp⟩
theorem V7 (f:List Int→List Int) (hf:∀l,(f l).length≤l.length):∀l,kW (l.map f)≤kW l:=by
 intro l;induction l with
 |nil=>exact ahO _
 |cons a r ih=>simp only[ajN,kW];have:=hf a;omega
theorem SC {g:Nat} {s:St} {y x:Int} (hy:y.toNat<s.cs.length) (hyd:y.toNat<s.ds.length) (hd:s.dc y.toNat=false) (hm:x∈s.cd y.toNat):muS (apl g s y x)<muS s:=by
 unfold muS apl;split
 ·have h1:=V6 s.ds y.toNat hyd hd
  have h2:=II (s.cs.map fun l=>dY l x) y.toNat [x] (by simpa using hy)
  have h3:((s.cs.map fun l=>dY l x).getD y.toNat [])=dY (s.cd y.toNat) x:=by unfold St.cd;simp[ahZ,hy]
  have h4:kW (s.cs.map fun l=>dY l x)+1≤kW s.cs:=by
   have key:∀(l:List (List Int)) (i:Nat),i<l.length→x∈l.getD i []→kW (l.map fun l=>dY l x)+1≤kW l:=by
    intro l;induction l with
    |nil=>intro i hi;simp at hi
    |cons a r ih=>
     intro i hi hx;simp only[ajN,kW];cases i with
     |zero=>
      have q1:=Mh (l:=a) (x:=x) (by simpa using hx)
      have q2:=V7 (fun l=>dY l x) (fun l=>IJ l x) r;omega
     |succ i=>
      have q1:=IJ a x;have q2:=ih i (by simpa using hi) (by simpa using hx)
      omega
   exact key s.cs y.toNat hy hm
  simp only[List.length_singleton]at h2;simp only;omega
 ·have h2:=II s.cs y.toNat (dY (s.cd y.toNat) x) hy
  have h3:=Mh hm;unfold St.cd at h2 h3⊢;simp only;omega
theorem SE {c:Int} {ls:List (List Int)} {sum:Int} {s:St} (h:aR c ls sum s):muS s≤272:=by
 have hc:=h.c1;have hcl:=h.cl;have hdl:=h.dl;have h1:∀(l:List (List Int)),(∀a∈l,a.length≤16)→kW l≤16*l.length:=by
  intro l;induction l with
  |nil=>intro _;exact ahO _
  |cons a r ih=>
   intro hl;have:=hl a (by simp)
   have:=ih fun b hb=>hl b (by simp[hb])
   simp only[kW,ahK];omega
 have h2:∀(l:List Bool),xu l≤l.length:=by
  intro l;induction l with
  |nil=>exact ahO _
  |cons a r ih=>simp only[xu,ahK];split<;>omega
 have h3:=h1 s.cs fun a ha=>by
  obtain⟨j,hj,rfl⟩:=ah3 ha;have:=LD (h.asc j hj).1;unfold St.cd at this;rw[ahZ,ah4 hj]at this;exact this
 have h4:=h2 s.ds;unfold muS;omega
def jQ (c:Int) (ls:List (List Int)) (sum:Int) (n:Nat):Nat→St→List Dd→List Dd × St × Int
 |0,s,l=>(l,s,0)
 |f+1,s,l=>if brk c ls sum s then([],s,21)else if don s then(l,s,0)else match gV s sum ls n with
  |none=>(l,s,23)
  |some d=>jQ c ls sum n f (apl d.g s d.y d.x) (l++[d])
def sol (c:Int) (ls:List (List Int)) (sum:Int) (gv:List Int) (n:Nat):List Dd × St × Int:=jQ c ls sum n 273 (bgn c gv) []
theorem SF {c:Int} {ls:List (List Int)} {sum:Int} {s:St} (h:aR c ls sum s) {n:Nat} (hn:n≤5) {d:Dd} (hf:gV s sum ls n=some d):
 Dk c ls (nmG d.g) d.y d.x d.k∧bJ (nmG d.g)=d.g∧s.dc d.y.toNat=false∧d.x∈s.cd d.y.toNat:=by
 obtain⟨g,g1,g2,hm⟩:=zO hf;rw[qV]at hm;obtain⟨h1,h2,h3,h4⟩:=hm;have hcl:=h.cl;have hg:bJ (nmG d.g)=d.g:=by
  rw[h1];have:=rO;obtain rfl|rfl|rfl|rfl|rfl:g=1∨g=2∨g=3∨g=4∨g=5:=by omega
  all_goals first|exact this.1|exact this.2.1|exact this.2.2.1|exact this.2.2.2.1|exact this.2.2.2.2
 unfold okJ at h4;simp only[aia,akU,decide_eq_true_eq]at h4;have hA:=h.asc d.y.toNat (by omega)
 refine⟨⟨by rw[hg];omega,by omega,?_,?_⟩,hg,h4.1,h4.2.1⟩
 ·have:=hA.1.rng _ h4.2.1;have:=hA.2 _ h4.2.1;omega
 ·rw[hg,h1]
  cases hl:lnG g with
  |true=>rw[hl]at h3;exact .inr (.inr h3.1)
  |false=>
   obtain rfl|rfl|rfl|rfl|rfl:g=1∨g=2∨g=3∨g=4∨g=5:=by omega
   all_goals first|(cases hl;done)|exact .inl rfl|exact .inr (.inl rfl)
def IK:LSp:=fun xs objs K=>match xs,objs with
 | [.rp 0 0,.agg [.str r,.int .i64 y,.int .i64 x,.int .i64 k]],[.cells (.pv [.int .i64 c,.isl (.rows .i64 ls) .none,.int .i64 sum,.isl (.ints .i64 gv) .none,.rsl 1 0 n,.rsl 2 0 m]) false,.cells (.ints .u32 M) false,.cells (.bools D) false]=>
  ∃s:St,VC (M=ms s.cs∧D=s.ds∧aR c ls sum s∧n=s.cs.length∧m=n∧Dk c ls r y x k)∧K [] (bdO c ls sum gv (apl (bJ r).toNat s y x) n)
 |_,_=>False
theorem V8:LOK Tryz.prog 128 IK:=by
 intro xs objs K hk;unfold IK at hk;split at hk
 ·obtain⟨s,⟨rfl,rfl,h,h1,rfl,h2⟩,hk⟩:=hk
  exact⟨_,_,hk,Pv _ _ _ _ s _ h h1 _ _ _ _ h2⟩
 ·exact hk.elim
abbrev ddC (d:Dd):List PV:=[.str (nmG d.g),.int .i64 d.y,.int .i64 d.x,.int .i64 d.k]
def dd0:Dd:=⟨0,0,0,0⟩
abbrev dlC (l:List Dd):CL:=.genr 4 l.length fun i=>ddC (l.getD i dd0)
theorem aeI (l:List Dd) (t:Tok):Sup (.isl (.recs 4 (l.map ddC)) t) (.isl (dlC l) .none):=⟨fun{S w ι v} hr=>by
 have hn:(CL.recs 4 (l.map ddC)).ncell=(dlC l).ncell:=by simp[CL.ncell]
 have hc:(CL.recs 4 (l.map ddC)).cnt=(dlC l).cnt:=by simp[CL.cnt]
 have hg:∀j,j<(dlC l).ncell→(CL.recs 4 (l.map ddC)).get j=(dlC l).get j:=fun j hj=>by
  simp only[CL.ncell]at hj;have:j / 4<l.length:=by omega
  simp only[CL.get];rw[ahZ,aiO,ahZ,ah4 this];rfl
 cases hr with
 |islnil _ _ _ h=>exact .islnil _ _ _ (by rw[←hc];exact h)
 |isl _ _ _ b off cap h1 h2 h3 h4 h5=>
  rw[hc];exact .isl _ _ _ _ _ _ (by rw[←hc];exact h1) (fun j hj=>h2 j (by rw[hn];exact hj)) (fun j hj=>by rw[←hg j hj];exact h3 j (by rw[hn];exact hj)) (fun h=>by cases h) (fun k h=>by cases h)⟩
theorem yw {us ws:List PV} (hl:us.length=ws.length) (h:∀i,i<us.length→Sup (aD us i) (aD ws i)):Sup (.tup us) (.tup ws):=⟨fun hr=>by
 cases hr with
 |tup _ _ vs hv hh=>exact .tup _ _ _ (hl.symm.trans hv) fun i hi=>(h i (by omega)).get (hh i (by omega))⟩
theorem dN (p:PV):Sup p p:=⟨fun h=>h⟩
def u6 (c:Int) (ls:List (List Int)) (sum:Int) (gv:List Int) (r:List Dd × St × Int):PV:=
 if r.2.2=21 then .tup [.isl (dlC []) .none,.nilp,.int .i64 21]else .tup [.isl (dlC r.1) .none,bdV c ls sum gv r.2.1,.int .i64 r.2.2]
noncomputable def ag4:CPT:=aA 86 (eO [] BD) (aA 90 (kg (rM brk)) (aA 91 (kg (rM fun _ _ _ s=>don s)) (aA 92 (kg yu) (aA 128 (eO [] IK) noC))))
theorem Mj:aW Tryz.prog ag4:=aj (dG [] Iz) (aj (iw EC) (aj (iw LZ) (aj (iw EF) (aj (dG [] V8) aC))))
structure SoX where
 f:Nat
 s:St
 l:List Dd
theorem PG (c:Int) (ls:List (List Int)) (sum:Int) (gv:List Int) (h:bD c ls sum gv) (n:Nat) (hn:n≤5):aF Tryz.prog 99 [pzV c ls sum gv,.int .i64 (n:Int)] (u6 c ls sum gv (sol c ls sum gv n)):=by
 have hgl:=h.gl;refine bR (md:=1) (rf:=[]) mixed au Mj Tryz.func99 (by rfl) (by rfl) (by rfl) ?_
 repeat'((conv=>whnf);first|intro _|apply aI|with_reducible exact vM rfl|exact⟨⟩|apply nM|apply fM)
 all_goals((try apply vM);(try simp only[vq]at*);try omega)
 conv=>whnf
 refine aM (X:=SoX) (fun x=>aR c ls sum x.s∧StI x.s∧muS x.s<x.f∧x.s.cs.length=gv.length∧x.l.length≤273-x.f∧x.f≤273∧jQ c ls sum n x.f x.s x.l=sol c ls sum gv n)
  (fun x=>[(8,.isl (.recs 4 (x.l.map ddC)) (.own 20))]) (fun x=>[(2,.cells (.ints .u32 (ms x.s.cs)) false),(3,.cells (.bools x.s.ds) false),(20,.tok 4 x.l.length)]) (fun x=>x.f) ⟨273,bgn c gv,[]⟩ ⟨aK,mixed,au,Mj,aP⟩ (by rfl) ?_ ?_ ?_
 ·have:=jF h
  exact⟨this,jM h,by have:=SE this;show muS (bgn c gv)<273;omega,l8.1,by simp,by simp,rfl⟩
 ·repeat'((conv=>whnf);first|intro _|apply aI|with_reducible exact vM rfl|exact⟨⟩|apply nM|apply fM)
  all_goals((try apply vM);(try simp only[vq]at*);try omega)
  all_goals skip
 rintro⟨f,s,l⟩ ⟨hB,hI,hmu,hlen,hl,hf,hsol⟩
 simp only at hB hI hmu hlen hl hf hsol⊢;cases f with
 |zero=>omega
 |succ f=>
  have hfin:∀r,sol c ls sum gv n=r→∀p,Sup p (u6 c ls sum gv r)→Sup p (u6 c ls sum gv (sol c ls sum gv n)):=fun r hr p hp=>by rw[hr];exact hp
  have t1:akt (gv.length-0) (aku 0 (ms s.cs))=ms s.cs:=dA (by rw[dW];exact hlen)
  have hdl:s.ds.length=gv.length:=by have:=hB.cl;have:=hB.dl;omega
  have t2:akt (gv.length-0) (aku 0 s.ds)=s.ds:=dA hdl;have hml:=dW s.cs;have s1:(CL.ints .u32 (ms s.cs)).sub 0 gv.length=.ints .u32 (ms s.cs):=congrArg (CL.ints .u32) t1;have s2:(CL.bools s.ds).sub 0 gv.length=.bools s.ds:=congrArg CL.bools t2;have rok:∀e,e≠21→Sup (bI ([PV.isl (CL.recs 4 (List.map ddC l)) Tok.none]++PV.ip (CL.pv [PV.int IntKind.i64 c,PV.isl (CL.rows IntKind.i64 ls) Tok.none,PV.int IntKind.i64 sum,PV.isl (CL.ints IntKind.i64 gv) Tok.none,PV.isl ((CL.ints IntKind.u32 (ms s.cs)).sub 0 gv.length) Tok.none,PV.isl ((CL.bools s.ds).sub 0 gv.length) Tok.none]) 0::([PV.int IntKind.i64 e]++[]))) (u6 c ls sum gv (l,s,e)):=fun e he=>by
   rw[s1,s2];unfold u6;rw[if_neg he];refine yw rfl fun i hi=>?_;obtain rfl|rfl|rfl:i=0∨i=1∨i=2:=by simp at hi;omega
   ·exact aeI l .none
   ·exact dN _
   ·exact dN _
  have rin:Sup (bI ([PV.nils]++([PV.nilp]++([PV.int IntKind.i64 21]++[])))) (u6 c ls sum gv ([],s,21)):=by
   unfold u6;rw[if_pos rfl];all_goals(refine Sup.via ?_;repeat'((conv=>whnf);first|intro _|apply aI|with_reducible exact vM rfl|exact⟨⟩|apply nM|apply fM);all_goals((try apply vM);(try simp only[vq]at*);try omega);all_goals(try(simp[CL.sub];done)))
  unfold jQ at hsol;cases ho:gV s sum ls n with
  |none=>
   rw[ho]at hsol
   repeat'((conv=>whnf);first|refine Exists.intro (s) ?_|refine Exists.intro (none) ?_|(intro hq;(try simp only[vw]at hq);try first|exact absurd hq (by decide)|exfalso;omega)|apply aI|with_reducible exact vM rfl|exact⟨⟩|apply nM|apply fM)
   all_goals((try apply vM);(try simp only[vq]at*);try omega)
   all_goals(try omega)
   all_goals(try first|exact⟨t1,t2,hB⟩|exact⟨t1,t2,⟨by omega,by omega⟩,hB,ho⟩)
   ·exact hfin ([],s,21) (by rw[←hsol,if_pos ‹brk c ls sum s=true›]) _ rin
   ·exact hfin (l,s,0) (by rw[←hsol,if_neg (by rw[‹brk c ls sum s=false›];simp),if_pos ‹don s=true›]) _ (rok 0 (by omega))
   ·exact hfin (l,s,23) (by rw[←hsol,if_neg (by rw[‹brk c ls sum s=false›];simp),if_neg (by rw[‹don s=false›];simp)]) _ (rok 23 (by omega))
  |some d=>
   rw[ho]at hsol;obtain⟨o1,o2,o3,o4⟩:=SF hB hn ho;obtain⟨b1,b2⟩:=lC hB hI (g:=d.g) o1.y o1.x o3 o4;have hyl:=hB.at o1.y;have b3:=SC (g:=d.g) hyl.1 hyl.2 o3 o4;have b4:=nO (g:=d.g) (s:=s) (y:=d.y) (x:=d.x);have hgn:(bJ (nmG d.g)).toNat=d.g:=by rw[o2];rfl
   repeat'((conv=>whnf);first|refine Exists.intro (s) ?_|refine Exists.intro (some d) ?_|(intro hq;(try simp only[vw]at hq);try first|exact absurd hq (by decide)|exfalso;omega)|apply aI|with_reducible exact vM rfl|exact⟨⟩|apply nM|apply fM)
   all_goals((try apply vM);(try simp only[vq]at*);try omega)
   all_goals(try omega)
   all_goals(try first|exact⟨t1,t2,hB⟩|exact⟨t1,t2,⟨by omega,by omega⟩,hB,ho⟩|rfl|(rw[ajO];done)|(simp only[ai7,ajO,ahK,ahG];omega))
   ·exact hfin ([],s,21) (by rw[←hsol,if_pos ‹brk c ls sum s=true›]) _ rin
   ·exact hfin (l,s,0) (by rw[←hsol,if_neg (by rw[‹brk c ls sum s=false›];simp),if_pos ‹don s=true›]) _ (rok 0 (by omega))
   ·rw[ai7,ajO];show _+1≤_;omega
   ·exact⟨hB,by omega,o1⟩
   ·refine⟨⟨f,apl d.g s d.y d.x,l++[d]⟩,[],⟨⟨b1,b2,by simp only;omega,by simp only;omega,by simp only[ai7,ahK,ahG];omega,by simp only;omega,?_⟩,by simp only;omega⟩,?_⟩
    ·rw[←hsol,if_neg (by rw[‹brk c ls sum s=false›];simp),if_neg (by rw[‹don s=false›];simp)]
    ·simp only
     repeat'((conv=>whnf);first|intro _|apply aI|with_reducible exact vM rfl|exact⟨⟩|apply nM|apply fM)
     all_goals((try apply vM);(try simp only[vq]at*);try omega)
     all_goals first|rw[hgn]|(rw[ajR];rfl)|(rw[ai7];rfl)|rfl
theorem abF {c:Int} {ls:List (List Int)} {sum:Int} {n:Nat} (hn:n≤5):∀(f:Nat) (s:St) (l:List Dd),aR c ls sum s→StI s→aR c ls sum (jQ c ls sum n f s l).2.1∧StI (jQ c ls sum n f s l).2.1:=by
 intro f;induction f with
 |zero=>exact fun s l h h2=>⟨h,h2⟩
 |succ f ih=>
  intro s l h h2;unfold jQ;split
  ·exact⟨h,h2⟩
  ·split
   ·exact⟨h,h2⟩
   ·split
    ·exact⟨h,h2⟩
    ·rename_i d hd
     obtain⟨o1,o2,o3,o4⟩:=SF h hn hd;obtain⟨b1,b2⟩:=lC h h2 (g:=d.g) o1.y o1.x o3 o4;exact ih _ _ b1 b2
theorem aeJ {c:Int} {ls:List (List Int)} {sum:Int} {gv:List Int} (h:bD c ls sum gv) {n:Nat} (hn:n≤5):aR c ls sum (sol c ls sum gv n).2.1∧StI (sol c ls sum gv n).2.1:=abF hn _ _ _ (jF h) (jM h)
def Y1 (c:Int) (ls:List (List Int)) (sum:Int) (gv:List Int) (o:Option (List Dd × St × Int)):PV:=match o with
 |none=>.tup [.isl (dlC []) .none,.nilp,.int .i64 21]
 |some r=>.tup [.isl (dlC r.1) .none,bdV c ls sum gv r.2.1,.int .i64 r.2.2]
def jR (r:List Dd × St × Int):Option (List Dd × St × Int):=if r.2.2=21 then none else some r
theorem V9 (c:Int) (ls:List (List Int)) (sum:Int) (gv:List Int) (r:List Dd × St × Int):u6 c ls sum gv r=Y1 c ls sum gv (jR r):=by
 unfold u6 jR;split<;>rfl
def BI:PSp:=fun xs K=>match xs with
 | [.agg [.int .i64 c,.isl (.rows .i64 ls) .none,.int .i64 sum,.isl (.ints .i64 gv) .none],.int .i64 g]=>∃o:Option (List Dd × St × Int),VC (bD c ls sum gv∧(0≤g∧g≤5)∧jR (sol c ls sum gv g.toNat)=o)∧K (Y1 c ls sum gv o)
 |_=>False
theorem IL:POK Tryz.prog 99 BI:=by
 intro xs K hk;unfold BI at hk;split at hk
 ·obtain⟨o,⟨h,hg,rfl⟩,hk⟩:=hk
  rename_i g;obtain⟨n,rfl⟩:∃n:Nat,g=n:=⟨g.toNat,by omega⟩
  rw[aiV,←V9]at hk;exact⟨_,hk,PG _ _ _ _ h n (by omega)⟩
 ·exact hk.elim
noncomputable def ag5:CPT:=aA 22 (aB mM) (aA 86 (eO [] BD) (aA 87 (Om Il) (aA 88 (aB jJ) (aA 89 (aB fC) (aA 90 (kg (rM brk)) (aA 91 (kg (rM fun _ _ _ s=>don s)) (aA 92 (kg yu) (aA 98 (aB rJ) (aA 99 (aB BI) noC)))))))))
theorem fP:aW Tryz.prog ag5:=aj (ak lT) (aj (dG [] Iz) (aj (U5 VH) (aj (ak jh) (aj (ak jr) (aj (iw EC) (aj (iw LZ) (aj (iw EF) (aj (ak yR) (aj (ak IL) aC)))))))))
def noS:St:=⟨[],[]⟩
def xw (c:Int) (ls:List (List Int)) (sum:Int) (gv:List Int):St:=if pzE c ls sum gv=0 then bgn c gv else noS
theorem PI (c:Int) (ls:List (List Int)) (sum:Int) (gv:List Int) (h:bO ls) (hg:gv.length≤5000):aF Tryz.prog 20 [pzV c ls sum gv] (.tup [stV (xw c ls sum gv),.int .i64 (pzE c ls sum gv)]):=by
 by_cases he:pzE c ls sum gv=0
 ·have hp:=bD.of he
  have hb:=jF hp;have hl:=hp.gl;have e1:xw c ls sum gv=bgn c gv:=by unfold xw;rw[if_pos he]
  rw[e1,he];have t1:akt (gv.length-0) (aku 0 (ms (bgn c gv).cs))=ms (bgn c gv).cs:=dA (by rw[dW];exact l8.1)
  have t2:akt (gv.length-0) (aku 0 (bgn c gv).ds)=(bgn c gv).ds:=dA l8.2;have hml:=dW (bgn c gv).cs;have hbl:=l8 (c:=c) (gv:=gv);refine av (md:=1) (rf:=[]) mixed au fP Tryz.func20 (by rfl) (by rfl) (by rfl) ?_
  repeat'((conv=>whnf);first|refine Exists.intro (bgn c gv) ?_|(intro hq;(try simp only[vw]at hq);try first|exact absurd hq (by decide)|exfalso;omega)|apply aI|with_reducible exact vM rfl|exact⟨⟩|apply nM|apply fM)
  all_goals((try apply vM);(try simp only[vq]at*);try omega)
  ·exact⟨h,hg⟩
  ·exact⟨t1,t2,hb⟩
  ·exact Sup.of rfl
 ·have e1:xw c ls sum gv=noS:=by unfold xw;rw[if_neg he]
  rw[e1];refine av (md:=1) (rf:=[]) mixed au fP Tryz.func20 (by rfl) (by rfl) (by rfl) ?_
  repeat'((conv=>whnf);first|(intro hq;(try simp only[vw]at hq);try first|exact absurd hq (by decide)|exfalso;omega)|apply aI|with_reducible exact vM rfl|exact⟨⟩|apply nM|apply fM)
  all_goals((try apply vM);(try simp only[vq]at*);try omega)
  ·exact⟨h,hg⟩
  ·unfold noS;all_goals(refine Sup.via ?_;repeat'((conv=>whnf);first|intro _|apply aI|with_reducible exact vM rfl|exact⟨⟩|apply nM|apply fM);all_goals((try apply vM);(try simp only[vq]at*);try omega);all_goals(try(simp[CL.sub];done)))
def ddO (o:Option Dd):PV:=match o with
 |some d=>Dn d
 |none=>ddV uY 0 0 0
def u7 (c:Int) (ls:List (List Int)) (sum:Int) (gv:List Int):Option Dd × Int:=
 if pzE c ls sum gv≠0 then(none,pzE c ls sum gv)else if brk c ls sum (bgn c gv)then(none,21)else if don (bgn c gv)then(none,29)else match gV (bgn c gv) sum ls 5 with
  |none=>(none,23)
  |some d=>(some d,0)
theorem SG (c:Int) (ls:List (List Int)) (sum:Int) (gv:List Int) (h:bO ls) (hg:gv.length≤5000):aF Tryz.prog 21 [pzV c ls sum gv] (.tup [ddO (u7 c ls sum gv).1,.int .i64 (u7 c ls sum gv).2]):=by
 by_cases he:pzE c ls sum gv=0
 ·have hp:=bD.of he
  have hb:=jF hp;have hl:=hp.gl;have t1:akt (gv.length-0) (aku 0 (ms (bgn c gv).cs))=ms (bgn c gv).cs:=dA (by rw[dW];exact l8.1)
  have t2:akt (gv.length-0) (aku 0 (bgn c gv).ds)=(bgn c gv).ds:=dA l8.2;have hml:=dW (bgn c gv).cs;have hbl:=l8 (c:=c) (gv:=gv);have e1:u7 c ls sum gv=if brk c ls sum (bgn c gv)then(none,(21:Int))else if don (bgn c gv)then(none,(29:Int))else match gV (bgn c gv) sum ls 5 with
   |none=>(none,(23:Int))
   |some d=>(some d,(0:Int)):=by unfold u7;rw[if_neg (by rw[he];simp)]
  cases hbk:brk c ls sum (bgn c gv)with
  |true=>
   rw[hbk,if_pos rfl]at e1;rw[e1];refine av (md:=1) (rf:=[]) mixed au fP Tryz.func21 (by rfl) (by rfl) (by rfl) ?_
   repeat'((conv=>whnf);first|refine Exists.intro (bgn c gv) ?_|(intro hq;(try simp only[vw]at hq);try first|exact absurd hq (by decide)|exfalso;omega)|apply aI|with_reducible exact vM rfl|exact⟨⟩|apply nM|apply fM)
   all_goals((try apply vM);(try simp only[vq]at*);try omega)
   all_goals first|exact⟨h,hg⟩|exact⟨t1,t2,hb⟩|(exfalso;simp[aJ,hbk]at hq;done)|(exact Sup.of (by simp[bI,aJ,ddO,hbk];done))|exact Sup.of rfl|skip
  |false=>
   rw[hbk,if_neg (by simp)]at e1
   cases hdn:don (bgn c gv)with
   |true=>
    rw[hdn,if_pos rfl]at e1;rw[e1];refine av (md:=1) (rf:=[]) mixed au fP Tryz.func21 (by rfl) (by rfl) (by rfl) ?_
    repeat'((conv=>whnf);first|refine Exists.intro (bgn c gv) ?_|(intro hq;(try simp only[vw]at hq);try first|exact absurd hq (by decide)|exfalso;omega)|apply aI|with_reducible exact vM rfl|exact⟨⟩|apply nM|apply fM)
    all_goals((try apply vM);(try simp only[vq]at*);try omega)
    all_goals first|exact⟨h,hg⟩|exact⟨t1,t2,hb⟩|(exfalso;simp[aJ,hbk,hdn]at hq;done)|(exact Sup.of (by simp[bI,aJ,ddO,hbk,hdn];done))|exact Sup.of rfl|skip
   |false=>
    rw[hdn,if_neg (by simp)]at e1
    cases ho:gV (bgn c gv) sum ls 5 with
    |none=>
     rw[ho]at e1;rw[e1];refine av (md:=1) (rf:=[]) mixed au fP Tryz.func21 (by rfl) (by rfl) (by rfl) ?_
     repeat'((conv=>whnf);first|refine Exists.intro (bgn c gv) ?_|refine Exists.intro (none) ?_|(intro hq;(try simp only[vw]at hq);try first|exact absurd hq (by decide)|exfalso;omega)|apply aI|with_reducible exact vM rfl|exact⟨⟩|apply nM|apply fM)
     all_goals((try apply vM);(try simp only[vq]at*);try omega)
     all_goals first|exact⟨h,hg⟩|exact⟨t1,t2,hb⟩|exact⟨t1,t2,⟨by omega,by omega⟩,hb,ho⟩|(exfalso;simp[aJ,hbk,hdn]at hq;done)|(exact Sup.of (by simp[bI,aJ,ddO,hbk,hdn];done))|exact Sup.of rfl|skip
    |some d=>
     rw[ho]at e1;rw[e1];refine av (md:=1) (rf:=[]) mixed au fP Tryz.func21 (by rfl) (by rfl) (by rfl) ?_
     repeat'((conv=>whnf);first|refine Exists.intro (bgn c gv) ?_|refine Exists.intro (some d) ?_|(intro hq;(try simp only[vw]at hq);try first|exact absurd hq (by decide)|exfalso;omega)|apply aI|with_reducible exact vM rfl|exact⟨⟩|apply nM|apply fM)
     all_goals((try apply vM);(try simp only[vq]at*);try omega)
     all_goals first|exact⟨h,hg⟩|exact⟨t1,t2,hb⟩|exact⟨t1,t2,⟨by omega,by omega⟩,hb,ho⟩|(exfalso;simp[aJ,hbk,hdn]at hq;done)|(exact Sup.of (by simp[bI,aJ,ddO,hbk,hdn];done))|exact Sup.of rfl|skip
 ·have e1:u7 c ls sum gv=(none,pzE c ls sum gv):=by unfold u7;rw[if_pos he]
  rw[e1];refine av (md:=1) (rf:=[]) mixed au fP Tryz.func21 (by rfl) (by rfl) (by rfl) ?_
  repeat'((conv=>whnf);first|(intro hq;(try simp only[vw]at hq);try first|exact absurd hq (by decide)|exfalso;omega)|apply aI|with_reducible exact vM rfl|exact⟨⟩|apply nM|apply fM)
  all_goals((try apply vM);(try simp only[vq]at*);try omega)
  ·exact⟨h,hg⟩
  ·exact Sup.of rfl
def vg (c:Int) (ls:List (List Int)) (sum:Int) (gv:List Int) (g:Int):List Dd × St × Int:=
 if aJ [pzE c ls sum gv,jP g]≠0 then([],noS,aJ [pzE c ls sum gv,jP g])else if(sol c ls sum gv g.toNat).2.2=21 then([],noS,21)else sol c ls sum gv g.toNat
abbrev aeK (r:List Dd × St × Int):PV:=.tup [.isl (dlC r.1) .none,stV r.2.1,.int .i64 r.2.2]
theorem SH (e:Int):Sup (bI [PV.nils,PV.agg [PV.nils,PV.nils],PV.int IntKind.i64 e]) (aeK ([],noS,e)):=by
 unfold noS;all_goals(refine Sup.via ?_;repeat'((conv=>whnf);first|intro _|apply aI|with_reducible exact vM rfl|exact⟨⟩|apply nM|apply fM);all_goals((try apply vM);(try simp only[vq]at*);try omega);all_goals(try(simp[CL.sub];done)))
theorem IQ {a b:Int} (h:aJ [a,b]=0):a=0∧b=0:=by
 simp only[aJ]at h;split at h
 ·split at h
  ·exact⟨‹_›,‹_›⟩
  ·exact absurd h ‹_›
 ·exact absurd h ‹_›
theorem SI {g:Int} (h:jP g=0):1≤g∧g≤5:=by
 unfold jP at h;by_cases e:g<1∨5<g
 ·rw[if_pos e]at h;cases h
 ·omega
theorem BJ (c:Int) (ls:List (List Int)) (sum:Int) (gv:List Int) (g:Int) (h:bO ls) (hg:gv.length≤5000):aF Tryz.prog 30 [pzV c ls sum gv,.int .i64 g] (aeK (vg c ls sum gv g)):=by
 by_cases he:aJ [pzE c ls sum gv,jP g]=0
 ·obtain⟨a1,a2⟩:=IQ he
  have hp:=bD.of a1;have hgr:=SI a2;have e1:vg c ls sum gv g=if(sol c ls sum gv g.toNat).2.2=21 then([],noS,21)else sol c ls sum gv g.toNat:=by unfold vg;rw[if_neg (by rw[he];simp)]
  have hsb:=(aeJ hp (show g.toNat≤5 by omega)).1
  by_cases h21:(sol c ls sum gv g.toNat).2.2=21
  ·rw[if_pos h21]at e1
   rw[e1];have hso:jR (sol c ls sum gv g.toNat)=none:=by unfold jR;rw[if_pos h21]
   refine av (md:=1) (rf:=[]) mixed au fP Tryz.func30 (by rfl) (by rfl) (by rfl) ?_
   repeat'((conv=>whnf);first|refine Exists.intro (none) ?_|(intro hq;(try simp only[vw]at hq);try first|exact absurd hq (by decide)|exfalso;omega)|apply aI|with_reducible exact vM rfl|exact⟨⟩|apply nM|apply fM)
   all_goals((try apply vM);(try simp only[vq]at*);try omega)
   ·exact⟨h,hg⟩
   ·exact⟨hp,⟨by omega,by omega⟩,hso⟩
   ·exact SH 21
  ·rw[if_neg h21]at e1
   rw[e1];have hso:jR (sol c ls sum gv g.toNat)=some (sol c ls sum gv g.toNat):=by unfold jR;rw[if_neg h21]
   obtain⟨rr,hr⟩:∃r,sol c ls sum gv g.toNat=r:=⟨_,rfl⟩;rw[hr]at h21 hsb⊢;refine av (md:=1) (rf:=[]) mixed au fP Tryz.func30 (by rfl) (by rfl) (by rfl) ?_
   repeat'((conv=>whnf);first|refine Exists.intro (some rr) ?_|refine Exists.intro (rr.2.1) ?_|(intro hq;(try simp only[vw]at hq);try first|exact absurd hq (by decide)|exfalso;omega)|apply aI|with_reducible exact vM rfl|exact⟨⟩|apply nM|apply fM)
   all_goals((try apply vM);(try simp only[vq]at*);try omega)
   all_goals first|exact⟨h,hg⟩|exact⟨hp,⟨by omega,by omega⟩,by rw[hso,hr]⟩|(exfalso;exact h21 hq)|exact hsb|exact⟨rfl,rfl,hsb⟩|exact Sup.of rfl
 ·have e1:vg c ls sum gv g=([],noS,aJ [pzE c ls sum gv,jP g]):=by unfold vg;rw[if_pos he]
  rw[e1];refine av (md:=1) (rf:=[]) mixed au fP Tryz.func30 (by rfl) (by rfl) (by rfl) ?_
  repeat'((conv=>whnf);first|(intro hq;(try simp only[vw]at hq);try first|exact absurd hq (by decide)|exfalso;omega)|apply aI|with_reducible exact vM rfl|exact⟨⟩|apply nM|apply fM)
  all_goals((try apply vM);(try simp only[vq]at*);try omega)
  ·exact⟨h,hg⟩
  ·exact SH _
def oW (c:Int) (ls:List (List Int)) (sum:Int) (gv:List Int):Nat→Nat→Nat
 |0,g=>g
 |f+1,g=>if(sol c ls sum gv g).2.2=0 then g else oW c ls sum gv f (g+1)
def fB (c:Int) (ls:List (List Int)) (sum:Int) (gv:List Int):Int × List Dd × Int:=
 if(sol c ls sum gv 5).2.2≠0 then(0,[],(sol c ls sum gv 5).2.2)else((oW c ls sum gv 4 1:Nat),(sol c ls sum gv (oW c ls sum gv 4 1)).1,0)
theorem SK {c:Int} {ls:List (List Int)} {sum:Int} {gv:List Int}:∀(f g k:Nat),(∀j,g≤j→j<k→(sol c ls sum gv j).2.2≠0)→(sol c ls sum gv k).2.2=0→g≤k→k≤g+f→oW c ls sum gv f g=k:=by
 intro f;induction f with
 |zero=>intro g k _ _ h1 h2;show g=k;omega
 |succ f ih=>
  intro g k hn hk h1 h2;unfold oW;by_cases e:g=k
  ·subst e;rw[if_pos hk]
  ·rw[if_neg (hn g (by omega) (by omega))]
   exact ih (g+1) k (fun j hj hk'=>hn j (by omega) hk') hk (by omega) (by omega)
theorem KH (c:Int) (ls:List (List Int)) (sum:Int) (gv:List Int) (hp:bD c ls sum gv):
 aF Tryz.prog 100 [pzV c ls sum gv] (.tup [.int .i64 (fB c ls sum gv).1,.isl (dlC (fB c ls sum gv).2.1) .none,.int .i64 (fB c ls sum gv).2.2]):=by
 have sn:∀e:Int,Sup (bI [PV.int IntKind.i64 0,PV.nils,PV.int IntKind.i64 e]) (.tup [.int .i64 0,.isl (dlC []) .none,.int .i64 e]):=fun e=>by all_goals(refine Sup.via ?_;repeat'((conv=>whnf);first|intro _|apply aI|with_reducible exact vM rfl|exact⟨⟩|apply nM|apply fM);all_goals((try apply vM);(try simp only[vq]at*);try omega);all_goals(try(simp[CL.sub];done)))
 obtain⟨r5,h5⟩:∃r,sol c ls sum gv 5=r:=⟨_,rfl⟩;by_cases h21:r5.2.2=21
 ·have hso:jR (sol c ls sum gv 5)=none:=by unfold jR;rw[h5,if_pos h21]
  have hgr:fB c ls sum gv=(0,[],21):=by unfold fB;rw[h5,if_pos (by rw[h21];simp),h21]
  rw[hgr];refine av (md:=1) (rf:=[]) mixed au fP Tryz.func100 (by rfl) (by rfl) (by rfl) ?_
  repeat'((conv=>whnf);first|refine Exists.intro (none) ?_|(intro hq;(try simp only[vw]at hq);try first|exact absurd hq (by decide)|exfalso;omega)|apply aI|with_reducible exact vM rfl|exact⟨⟩|apply nM|apply fM)
  all_goals((try apply vM);(try simp only[vq]at*);try omega)
  ·exact⟨hp,⟨by omega,by omega⟩,hso⟩
  ·exact sn 21
 ·have hso:jR (sol c ls sum gv 5)=some r5:=by unfold jR;rw[h5,if_neg h21]
  by_cases h50:r5.2.2=0
  ·skip
   refine av (md:=1) (rf:=[]) mixed au fP Tryz.func100 (by rfl) (by rfl) (by rfl) ?_
   repeat'((conv=>whnf);first|refine Exists.intro (some r5) ?_|(intro hq;(try simp only[vw]at hq);try first|exact absurd hq (by decide)|exfalso;omega)|apply aI|with_reducible exact vM rfl|exact⟨⟩|apply nM|apply fM)
   all_goals((try apply vM);(try simp only[vq]at*);try omega)
   ·exact⟨hp,⟨by omega,by omega⟩,hso⟩
   conv=>whnf
   refine aM (X:=Nat) (fun g=>(1≤g∧g≤5)∧∀j,1≤j→j<g→(sol c ls sum gv j).2.2≠0) (fun g=>[(8,.int .i64 (g:Int))]) (fun g=>[]) (fun g=>6-g) 1 ⟨aK,mixed,au,fP,aP⟩ (by rfl) ⟨by omega,fun j h1 h2=>by omega⟩ ?_ ?_
   ·repeat'((conv=>whnf);first|intro _|apply aI|with_reducible exact vM rfl|exact⟨⟩|apply nM|apply fM)
    all_goals((try apply vM);(try simp only[vq]at*);try omega)
   intro g ⟨hg,hok⟩;obtain⟨rg,hrg⟩:∃r,sol c ls sum gv g=r:=⟨_,rfl⟩;have nxt:rg.2.2≠0→(g+1≤5∧∀j,1≤j→j<g+1→(sol c ls sum gv j).2.2≠0):=fun h0=>by
    have:g≠5:=fun e=>by subst e;rw[←hrg,h5]at h0;exact h0 h50
    refine⟨by omega,fun j h1 h2=>?_⟩
    by_cases e:j=g
    ·subst e;rw[hrg];exact h0
    ·exact hok j h1 (by omega)
   by_cases hg21:rg.2.2=21
   ·have hso2:jR (sol c ls sum gv g)=none:=by unfold jR;rw[hrg,if_pos hg21]
    repeat'((conv=>whnf);first|refine Exists.intro (none) ?_|(intro hq;(try simp only[vw]at hq);try first|exact absurd hq (by decide)|exfalso;omega)|apply aI|with_reducible exact vM rfl|exact⟨⟩|apply nM|apply fM)
    all_goals((try apply vM);(try simp only[vq]at*);try omega)
    ·exact⟨hp,⟨by omega,by omega⟩,hso2⟩
    obtain⟨n1,n2⟩:=nxt (by rw[hg21];simp)
    refine⟨g+1,[],⟨⟨⟨by omega,n1⟩,n2⟩,by omega⟩,?_⟩
    repeat'((conv=>whnf);first|intro _|apply aI|with_reducible exact vM rfl|exact⟨⟩|apply nM|apply fM)
    all_goals((try apply vM);(try simp only[vq]at*);try omega)
   ·have hso2:jR (sol c ls sum gv g)=some rg:=by unfold jR;rw[hrg,if_neg hg21]
    repeat'((conv=>whnf);first|refine Exists.intro (some rg) ?_|(intro hq;(try simp only[vw]at hq);try first|exact absurd hq (by decide)|exfalso;omega)|apply aI|with_reducible exact vM rfl|exact⟨⟩|apply nM|apply fM)
    all_goals((try apply vM);(try simp only[vq]at*);try omega)
    ·exact⟨hp,⟨by omega,by omega⟩,hso2⟩
    ·have hgn:=SK (c:=c) (ls:=ls) (sum:=sum) (gv:=gv) 4 1 g hok (by rw[hrg];exact hq) hg.1 (by omega)
     have hgr:fB c ls sum gv=(((g:Nat):Int),rg.1,0):=by unfold fB;rw[h5,if_neg (by rw[h50];simp),hgn,hrg]
     rw[hgr];exact Sup.of (by simp only[bI];rw[hq])
    ·obtain⟨n1,n2⟩:=nxt hq
     refine⟨g+1,[],⟨⟨⟨by omega,n1⟩,n2⟩,by omega⟩,?_⟩
     repeat'((conv=>whnf);first|intro _|apply aI|with_reducible exact vM rfl|exact⟨⟩|apply nM|apply fM)
     all_goals((try apply vM);(try simp only[vq]at*);try omega)
  ·have hgr:fB c ls sum gv=(0,[],r5.2.2):=by unfold fB;rw[h5,if_pos h50]
   rw[hgr];refine av (md:=1) (rf:=[]) mixed au fP Tryz.func100 (by rfl) (by rfl) (by rfl) ?_
   repeat'((conv=>whnf);first|refine Exists.intro (some r5) ?_|(intro hq;(try simp only[vw]at hq);try first|exact absurd hq (by decide)|exfalso;omega)|apply aI|with_reducible exact vM rfl|exact⟨⟩|apply nM|apply fM)
   all_goals((try apply vM);(try simp only[vq]at*);try omega)
   ·exact⟨hp,⟨by omega,by omega⟩,hso⟩
   ·exact sn _
def Dt:PSp:=fun xs K=>match xs with
 | [.agg [.int .i64 c,.isl (.rows .i64 ls) .none,.int .i64 sum,.isl (.ints .i64 gv) .none]]=>VC (bD c ls sum gv)∧K (.tup [.int .i64 (fB c ls sum gv).1,.isl (dlC (fB c ls sum gv).2.1) .none,.int .i64 (fB c ls sum gv).2.2])
 |_=>False
theorem SL:POK Tryz.prog 100 Dt:=by
 intro xs K hk;unfold Dt at hk;split at hk
 ·exact⟨_,hk.2,KH _ _ _ _ hk.1.get⟩
 ·exact hk.elim
noncomputable def ag6:CPT:=aA 22 (aB mM) (aA 100 (aB Dt) (aA 101 (aB pY) noC))
theorem qc:aW Tryz.prog ag6:=aj (ak lT) (aj (ak SL) (aj (ak rP) aC))
def fV (c:Int) (ls:List (List Int)) (sum:Int) (gv:List Int):Int × List Dd × Int:=if pzE c ls sum gv≠0 then(0,[],pzE c ls sum gv)else fB c ls sum gv
theorem BK (c:Int) (ls:List (List Int)) (sum:Int) (gv:List Int) (h:bO ls) (hg:gv.length≤5000):aF Tryz.prog 31 [pzV c ls sum gv] (.tup [.int .i64 (fV c ls sum gv).1,.int .i64 (fV c ls sum gv).2.2]):=by
 by_cases he:pzE c ls sum gv=0
 ·have e1:fV c ls sum gv=fB c ls sum gv:=by unfold fV;rw[if_neg (by rw[he];simp)]
  rw[e1];refine av (md:=1) (rf:=[]) mixed au qc Tryz.func31 (by rfl) (by rfl) (by rfl) ?_
  repeat'((conv=>whnf);first|(intro hq;(try simp only[vw]at hq);try first|exact absurd hq (by decide)|exfalso;omega)|apply aI|with_reducible exact vM rfl|exact⟨⟩|apply nM|apply fM)
  all_goals((try apply vM);(try simp only[vq]at*);try omega)
  all_goals first|exact⟨h,hg⟩|exact bD.of he|exact Sup.of rfl|skip
 ·have e1:fV c ls sum gv=(0,[],pzE c ls sum gv):=by unfold fV;rw[if_pos he]
  rw[e1];refine av (md:=1) (rf:=[]) mixed au qc Tryz.func31 (by rfl) (by rfl) (by rfl) ?_
  repeat'((conv=>whnf);first|(intro hq;(try simp only[vw]at hq);try first|exact absurd hq (by decide)|exfalso;omega)|apply aI|with_reducible exact vM rfl|exact⟨⟩|apply nM|apply fM)
  all_goals((try apply vM);(try simp only[vq]at*);try omega)
  all_goals first|exact⟨h,hg⟩|exact Sup.of rfl|skip
def kD (l:List Dd):List Int:=(ahX 5).map fun g=>((l.filter fun d=>decide (d.g=g+1)).length:Int)
theorem SN (l:List Dd) (d:Dd) (h:1≤d.g∧d.g≤5):(kD l).set (d.g-1) ((kD l).getD (d.g-1) 0+1)=kD (l++[d]):=by
 refine akH (by simp[kD]) fun j h1 h2=>?_
 have hj:j<5:=by simpa [kD]using h2
 rw[akI];simp only[kD,akJ,akK,akO,akP,akQ,ai7];by_cases e:d.g-1=j
 ·rw[if_pos e]
  subst e;simp[ahZ,show d.g-1<5 by omega,show d.g-1+1=d.g by omega]
 ·rw[if_neg e]
  simp[show¬d.g=j+1 by omega]
theorem aeL {c:Int} {ls:List (List Int)} {sum:Int} {n:Nat}:∀(f:Nat) (s:St) (l:List Dd),(∀d∈l,1≤d.g∧d.g≤n)→∀d∈(jQ c ls sum n f s l).1,1≤d.g∧d.g≤n:=by
 intro f;induction f with
 |zero=>exact fun s l h=>h
 |succ f ih=>
  intro s l h;unfold jQ;split
  ·intro d hd;simp at hd
  ·split
   ·exact h
   ·split
    ·exact h
    ·rename_i d hd
     refine ih _ _ fun d' hd'=>?_;rcases ah0.1 hd' with h1|h1
     ·exact h d' h1
     ·rw[akx.1 h1]
      obtain⟨g,g1,g2,g3⟩:=zO hd;rw[(qV.1 g3).1];exact⟨g1,g2⟩
theorem aeM {c:Int} {ls:List (List Int)} {sum:Int} {gv:List Int}:∀d∈(fB c ls sum gv).2.1,1≤d.g∧d.g≤5:=by
 intro d hd;unfold fB at hd;split at hd
 ·simp at hd
 ·have:=aeL (n:=oW c ls sum gv 4 1) 273 _ [] (fun d h=>by simp at h) d hd
  have hb:∀f g,oW c ls sum gv f g≤g+f:=by
   intro f;induction f with
   |zero=>intro g;exact ahO _
   |succ f ih=>intro g;unfold oW;split;omega;have:=ih (g+1);omega
  have:=hb 4 1;omega
theorem Wd {c:Int} {ls:List (List Int)} {sum:Int} {n:Nat}:∀(f:Nat) (s:St) (l:List Dd),(jQ c ls sum n f s l).1.length≤l.length+f:=by
 intro f;induction f with
 |zero=>exact fun s l=>ahO _
 |succ f ih=>
  intro s l;unfold jQ;split
  ·simp
  ·split
   ·simp only;omega
   ·split
    ·simp only;omega
    ·have:=ih (apl ‹Dd›.g s ‹Dd›.y ‹Dd›.x) (l++[‹Dd›])
     rw[ai7]at this;simp only[ahK,ahG]at this;omega
theorem Wh {c:Int} {ls:List (List Int)} {sum:Int} {gv:List Int}:(fB c ls sum gv).2.1.length≤273:=by
 unfold fB;split
 ·simp
 ·have:=Wd (c:=c) (ls:=ls) (sum:=sum) (n:=oW c ls sum gv 4 1) 273 (bgn c gv) []
  rw[ahG,Nat.zero_add]at this;exact this
theorem abG (l:List Dd) (i:Nat):0≤(kD l).getD i 0∧(kD l).getD i 0≤l.length:=by
 by_cases hi:i<5
 ·have:(kD l).getD i 0=((l.filter fun d=>decide (d.g=i+1)).length:Int):=by simp[kD,ahZ,hi]
  rw[this];have:=aky (fun d:Dd=>decide (d.g=i+1)) l;omega
 ·have:(kD l).getD i 0=0:=by simp[kD,ahZ,hi]
  rw[this];omega
def IU (c:Int) (ls:List (List Int)) (sum:Int) (gv:List Int):List Int:=if(fV c ls sum gv).2.2≠0 then []else kD (fV c ls sum gv).2.1
theorem aeN {g:Nat} (h:1≤g∧g≤5):bJ (nmG g)=g:=by
 have:=rO;obtain rfl|rfl|rfl|rfl|rfl:g=1∨g=2∨g=3∨g=4∨g=5:=by omega
 all_goals first|exact this.1|exact this.2.1|exact this.2.2.1|exact this.2.2.2.1|exact this.2.2.2.2
theorem PK (c:Int) (ls:List (List Int)) (sum:Int) (gv:List Int) (h:bO ls) (hg:gv.length≤5000):aF Tryz.prog 32 [pzV c ls sum gv] (.tup [.isl (.ints .i64 (IU c ls sum gv)) .none,.int .i64 (fV c ls sum gv).2.2]):=by
 have sn:∀e:Int,Sup (bI [PV.nils,PV.int IntKind.i64 e]) (.tup [.isl (.ints .i64 []) .none,.int .i64 e]):=fun e=>by all_goals(refine Sup.via ?_;repeat'((conv=>whnf);first|intro _|apply aI|with_reducible exact vM rfl|exact⟨⟩|apply nM|apply fM);all_goals((try apply vM);(try simp only[vq]at*);try omega);all_goals(try(simp[CL.sub];done)))
 by_cases he:pzE c ls sum gv=0
 ·have e1:fV c ls sum gv=fB c ls sum gv:=by unfold fV;rw[if_neg (by rw[he];simp)]
  unfold IU;rw[e1];have hgg:=aeM (c:=c) (ls:=ls) (sum:=sum) (gv:=gv);obtain⟨l,hF⟩:∃l,(fB c ls sum gv).2.1=l:=⟨_,rfl⟩;rw[hF]at hgg;have hl3:l.length≤273:=by rw[←hF];exact Wh
  by_cases h0:(fB c ls sum gv).2.2=0
  ·rw[if_neg (by rw[h0];simp),hF]
   refine av (md:=1) (rf:=[]) mixed au qc Tryz.func32 (by rfl) (by rfl) (by rfl) ?_
   repeat'((conv=>whnf);first|(intro hq;(try simp only[vw]at hq);try first|exact absurd hq (by decide)|exfalso;omega)|apply aI|with_reducible exact vM rfl|exact⟨⟩|apply nM|apply fM)
   all_goals((try apply vM);(try simp only[vq]at*);try omega)
   all_goals first|exact .inl trivial|exact⟨h,hg⟩|exact bD.of he|skip
   rw[hF];conv=>whnf
   refine aM (X:=Nat) (fun i=>i≤l.length) (fun i=>[(28,.int .i64 i)]) (fun i=>[(9,.cells (.ints .i64 (kD (l.take i))) false)]) (fun i=>l.length-i) 0 ⟨aK,mixed,au,qc,aP⟩ (by rfl) (by omega) ?_ ?_
   ·repeat'((conv=>whnf);first|intro _|apply aI|with_reducible exact vM rfl|exact⟨⟩|apply nM|apply fM)
    all_goals((try apply vM);(try simp only[vq]at*);try omega)
    all_goals rfl
   intro i hi;have hsl:(kD (l.take i)).length=5:=by simp[kD]
   have hbd:=abG (l.take i);have hli:(l.take i).length≤273:=by rw[aiG];omega
   by_cases hlt:i<l.length
   ·have hd:=hgg (l.getD i dd0) (by rw[ahZ,ah4 hlt];exact akd _)
    have hgn:=aeN hd;obtain⟨dg,hdg⟩:∃g:Int,g=((l.getD i dd0).g:Nat):=⟨_,rfl⟩;have hbi:=hbd (dg-1).toNat;have ht1:l.take (i+1)=l.take i++[l.getD i dd0]:=by rw[ajQ,ahZ,ah4 hlt];rfl
    have hsu:=SN (l.take i) (l.getD i dd0) hd;rw[←ht1,show(l.getD i dd0).g-1=(dg-1).toNat by omega]at hsu
    repeat'((conv=>whnf);first|refine Exists.intro (dg) ?_|(intro hq;(try simp only[vw]at hq);try first|exact absurd hq (by decide)|exfalso;omega)|apply aI|with_reducible exact vM rfl|exact⟨⟩|apply nM|apply fM)
    all_goals((try apply vM);(try simp only[vq]at*);try omega)
    all_goals(try first|omega|rfl|(rw[hgn];exact hdg.symm))
    refine⟨i+1,[],⟨by omega,by omega⟩,?_⟩
    repeat'((conv=>whnf);first|intro _|apply aI|with_reducible exact vM rfl|exact⟨⟩|apply nM|apply fM)
    all_goals((try apply vM);(try simp only[vq]at*);try omega)
    all_goals(try exact hsu)
   ·have:i=l.length:=by omega
    subst this;rw[ajS]at*
    repeat'((conv=>whnf);first|(intro hq;(try simp only[vw]at hq);try first|exact absurd hq (by decide)|exfalso;omega)|apply aI|with_reducible exact vM rfl|exact⟨⟩|apply nM|apply fM)
    all_goals((try apply vM);(try simp only[vq]at*);try omega)
    all_goals(try(rw[hsl];decide))
    rw[h0];refine Sup.of ?_;show PV.tup [.isl (.ints .i64 (akt (akf 5-0) (aku 0 (kD l)))) .none,.int .i64 0]=_;rw[dA (by rw[hsl];rfl)]
  ·rw[if_pos h0]
   refine av (md:=1) (rf:=[]) mixed au qc Tryz.func32 (by rfl) (by rfl) (by rfl) ?_
   repeat'((conv=>whnf);first|(intro hq;(try simp only[vw]at hq);try first|exact absurd hq (by decide)|exfalso;omega)|apply aI|with_reducible exact vM rfl|exact⟨⟩|apply nM|apply fM)
   all_goals((try apply vM);(try simp only[vq]at*);try omega)
   all_goals first|exact .inl trivial|exact⟨h,hg⟩|exact bD.of he|exact sn _|skip
 ·have e1:fV c ls sum gv=(0,[],pzE c ls sum gv):=by unfold fV;rw[if_pos he]
  have e2:IU c ls sum gv=[]:=by unfold IU;rw[e1,if_pos he]
  rw[e1,e2];refine av (md:=1) (rf:=[]) mixed au qc Tryz.func32 (by rfl) (by rfl) (by rfl) ?_
  repeat'((conv=>whnf);first|(intro hq;(try simp only[vw]at hq);try first|exact absurd hq (by decide)|exfalso;omega)|apply aI|with_reducible exact vM rfl|exact⟨⟩|apply nM|apply fM)
  all_goals((try apply vM);(try simp only[vq]at*);try omega)
  all_goals first|exact .inl trivial|exact⟨h,hg⟩|exact sn _|skip
structure StS (s:St):Prop where
 cl:s.cs.length≤5000
 dl:s.ds.length≤5000
 ll:∀i,(s.cd i).length≤5000
structure ag7 (s:St):Prop where
 cl:1≤s.cs.length∧s.cs.length≤16
 dl:s.ds.length=s.cs.length
 asc:∀i,i<s.cs.length→Asc (s.cd i)
theorem aR.lt {c:Int} {ls:List (List Int)} {sum:Int} {s:St} (h:aR c ls sum s):ag7 s:=by
 have:=h.c1;have:=h.cl;have:=h.dl;exact⟨by omega,by omega,fun i hi=>(h.asc i hi).1⟩
structure StW where
 s:St
theorem aeO (b:Bool) (p:PV):Sup (bI [PV.bool b,p]) (PV.tup [.bp b,p]):=⟨fun hr=>by
 cases hr with
 |tup _ _ vs hl hh=>
  refine .tup _ _ _ hl fun i hi=>?_;have:=hh i hi;obtain rfl|rfl:i=0∨i=1:=by simp at hi;omega
  ·simp only[aD]at this⊢
   generalize vs.getD 0 undef=v1 at this
   cases this;exact .bp _ _
  ·exact this⟩
structure Du where
 r:ByteArray
 y:Int
 x:Int
 k:Int
def fZ (N l:List Int):Int:=l.foldl (fun a x=>a+N.getD x.toNat 0) 0
theorem zP (N l:List Int) (x:Int):fZ N (l++[x])=fZ N l+N.getD x.toNat 0:=by unfold fZ;rw[akc];rfl
theorem qd {N:List Int} (hN:∀x∈N,0≤x∧x≤16) (l:List Int):0≤fZ N l∧fZ N l≤16*l.length:=by
 obtain⟨n,hn⟩:∃n,l.length=n:=⟨_,rfl⟩;induction n generalizing l with
 |zero=>rw[List.length_eq_zero_iff.1 hn];simp[fZ]
 |succ n ih=>
  obtain⟨l',x,rfl⟩:∃l' x,l=l'++[x]:=⟨l.take n,l.getD n 0,by rw[←dH (by omega),←hn,ajS]⟩
  have ih:=ih l' (by simpa using hn)
  rw[zP,ai7];have:0≤N.getD x.toNat 0∧N.getD x.toNat 0≤16:=by
   rw[ahZ];cases e:N[x.toNat]? with
   |none=>simp
   |some y=>exact hN y (List.mem_of_getElem? e)
  simp only[ahK,ahG];omega
def su (sum:Int) (N:List Int) (i:Int) (l:List Int):Bool:=!decide (l.getD (l.length-1) 0=i-1)||decide (fZ N l=sum)
def jS (ls:List (List Int)) (sum:Int) (N:List Int) (i:Int):Bool:=ls.all (su sum N i)
theorem cu {α:Type} {l:List α} {i:Nat} {d:α} (h:i<l.length):l.getD i d∈l:=by
 rw[ahZ,ah4 h];exact akd _
theorem abH {ls:List (List Int)} {sum:Int} {N:List Int} {i:Int} {j:Nat} (hj:j<ls.length) (h:su sum N i (ls.getD j [])=false):jS ls sum N i=false:=by
 unfold jS;rw[List.all_eq_false];exact⟨_,cu hj,by rw[h];simp⟩
abbrev srC (c:Int) (ls:List (List Int)) (sum:Int) (gv:List Int) (lim:Int) (nums:PV) (u:Int) (res:PV):CL:=.pv [.int .i64 c,.isl (.rows .i64 ls) .none,.int .i64 sum,.isl (.ints .i64 gv) .none,.int .i64 lim,nums,.int .u32 u,res]
structure IV (c:Int) (N:List Int):Prop where
 len:(N.length:Int)=c
 rng:∀x∈N,0≤x∧x≤16
theorem SQ (c:Int) (ls:List (List Int)) (sum:Int) (gv:List Int) (lim:Int) (N:List Int) (u:Int) (R:List (List Int)) (i:Int) (h:bD c ls sum gv) (hN:IV c N) (hi:0≤i∧i≤16):
 aF Tryz.prog 155 [.ip (srC c ls sum gv lim (.isl (.ints .i64 N) .none) u (.isl (.rows .i64 R) .none)) 0,.int .i64 i] (.bp (jS ls sum N i)):=by
 have hc:=h.c1;have hll:=h.ll;have hsm:=h.sm;have hNl:=hN.len;refine av (md:=1) (rf:=[]) mixed au aC Tryz.func155 (by rfl) (by rfl) (by rfl) ?_
 repeat'((conv=>whnf);first|(intro hq;(try simp only[vw]at hq);try first|exact absurd hq (by decide)|exfalso;omega)|apply aI|with_reducible exact vM rfl|exact⟨⟩|apply nM|apply fM)
 all_goals((try apply vM);(try simp only[vq]at*);try omega)
 conv=>whnf
 refine aM (X:=Nat) (fun j=>j≤ls.length∧∀t,t<j→su sum N i (ls.getD t [])=true) (fun j=>[(17,.int .i64 j)]) (fun j=>[]) (fun j=>ls.length-j) 0 ⟨aK,mixed,au,aC,aP⟩ (by rfl) ⟨by omega,fun t ht=>absurd ht (Nat.not_lt_zero t)⟩ ?_ ?_
 ·repeat'((conv=>whnf);first|intro _|apply aI|with_reducible exact vM rfl|exact⟨⟩|apply nM|apply fM)
  all_goals((try apply vM);(try simp only[vq]at*);try omega)
 intro j ⟨hj,hok⟩;by_cases hlt:j<ls.length
 ·have hL:=h.ln j hlt
  have hne:=hL.ne;have hlen:=hL.len;have eidx:((((ls.getD j []).length:Nat):Int)-1).toNat=(ls.getD j []).length-1:=by omega
  have hlast:=hL.rng ((ls.getD j []).getD ((ls.getD j []).length-1) 0) (dx (by omega))
  have hnext:su sum N i (ls.getD j [])=true→∀t,t<j+1→su sum N i (ls.getD t [])=true:=fun hh t ht=>by
   rcases akG.1 ht with h'|h'
   ·exact hok t h'
   ·rw[h'];exact hh
  repeat'((conv=>whnf);first|(intro hq;(try simp only[vw]at hq);try first|exact absurd hq (by decide)|exfalso;omega)|apply aI|with_reducible exact vM rfl|exact⟨⟩|apply nM|apply fM)
  all_goals((try apply vM);(try simp only[vq]at*);try omega)
  all_goals(try omega)
  all_goals(try rw[eidx]at*)
  ·refine⟨j+1,[],⟨⟨by omega,hnext (by unfold su;rw[decide_eq_false hq];rfl)⟩,by omega⟩,?_⟩
   repeat'((conv=>whnf);first|intro _|apply aI|with_reducible exact vM rfl|exact⟨⟩|apply nM|apply fM)
   all_goals((try apply vM);(try simp only[vq]at*);try omega)
  rename_i hq;have hla:=aiK.1 hq;conv=>whnf
  refine aM (X:=Nat) (fun k=>k≤(ls.getD j []).length) (fun k=>[(32,.int .i64 k),(7,.int .i64 (fZ N ((ls.getD j []).take k)))]) (fun k=>[]) (fun k=>(ls.getD j []).length-k) 0 ⟨aK,mixed,au,aC,aP⟩ (by rfl) (by omega) ?_ ?_
  ·repeat'((conv=>whnf);first|intro _|apply aI|with_reducible exact vM rfl|exact⟨⟩|apply nM|apply fM)
   all_goals((try apply vM);(try simp only[vq]at*);try omega)
   all_goals skip
  intro k hk;have hb:=qd hN.rng ((ls.getD j []).take k);rw[aiG,Nat.min_eq_left hk]at hb;by_cases hlk:k<(ls.getD j []).length
  ·have hx:=hL.rng ((ls.getD j []).getD k 0) (cu hlk)
   have hsx:fZ N ((ls.getD j []).take (k+1))=fZ N ((ls.getD j []).take k)+N.getD ((ls.getD j []).getD k 0).toNat 0:=by rw[dH hlk,zP]
   have hv:=hN.rng (N.getD ((ls.getD j []).getD k 0).toNat 0) (cu (by omega))
   repeat'((conv=>whnf);first|(intro hq;(try simp only[vw]at hq);try first|exact absurd hq (by decide)|exfalso;omega)|apply aI|with_reducible exact vM rfl|exact⟨⟩|apply nM|apply fM)
   all_goals((try apply vM);(try simp only[vq]at*);try omega)
   all_goals(try omega)
   refine⟨k+1,[],⟨by omega,by omega⟩,?_⟩
   rw[hsx]
   repeat'((conv=>whnf);first|intro _|apply aI|with_reducible exact vM rfl|exact⟨⟩|apply nM|apply fM)
   all_goals((try apply vM);(try simp only[vq]at*);try omega)
   all_goals skip
  ·have e:k=(ls.getD j []).length:=by omega
   subst e;rw[ajS]at*
   repeat'((conv=>whnf);first|(intro hq;(try simp only[vw]at hq);try first|exact absurd hq (by decide)|exfalso;omega)|apply aI|with_reducible exact vM rfl|exact⟨⟩|apply nM|apply fM)
   all_goals((try apply vM);(try simp only[vq]at*);try omega)
   all_goals(try omega)
   ·rw[abH hlt (by unfold su;rw[decide_eq_true hla,decide_eq_false hq];rfl)]
    exact fO false
   ·refine⟨j+1,[],⟨⟨by omega,hnext (by unfold su;rw[decide_eq_true (aiK.1 hq),Bool.or_true])⟩,by omega⟩,?_⟩
    repeat'((conv=>whnf);first|intro _|apply aI|with_reducible exact vM rfl|exact⟨⟩|apply nM|apply fM)
    all_goals((try apply vM);(try simp only[vq]at*);try omega)
 ·have e:j=ls.length:=by omega
  subst e;have:jS ls sum N i=true:=by
   unfold jS;rw[ajp];intro x hx;obtain⟨t,ht,rfl⟩:=ah3 hx;have:=hok t ht
   rwa [ahZ,ah4 ht]at this
  rw[this]
  repeat'((conv=>whnf);first|(intro hq;(try simp only[vw]at hq);try first|exact absurd hq (by decide)|exfalso;omega)|apply aI|with_reducible exact vM rfl|exact⟨⟩|apply nM|apply fM)
  all_goals((try apply vM);(try simp only[vq]at*);try omega)
  all_goals exact fO true
def PL:PSp:=fun xs K=>match xs with
 | [.ip (.pv [.int .i64 c,.isl (.rows .i64 ls) .none,.int .i64 sum,.isl (.ints .i64 gv) .none,.int .i64 lim,.isl (.ints .i64 N) .none,.int .u32 u,.isl (.rows .i64 R) .none]) 0,.int .i64 i]=>VC (bD c ls sum gv∧IV c N∧0≤i∧i≤16)∧K (.bp (jS ls sum N i))
 |_=>False
theorem abI:POK Tryz.prog 155 PL:=by
 intro xs K hk;unfold PL at hk;split at hk
 ·exact⟨_,hk.2,SQ _ _ _ _ _ _ _ _ _ hk.1.get.1 hk.1.get.2.1 hk.1.get.2.2⟩
 ·exact hk.elim
theorem Wi (l:List Int) (hl:1≤l.length∧l.length≤1000000):aF Tryz.prog 102 [.isl (.ints .i64 l) .none] (.isl (.ints .i64 l) .none):=by
 refine av (md:=1) (rf:=[]) mixed au aC Tryz.func102 (by rfl) (by rfl) (by rfl) ?_
 repeat'((conv=>whnf);first|intro _|apply aI|with_reducible exact vM rfl|exact⟨⟩|apply nM|apply fM)
 all_goals((try apply vM);(try simp only[vq]at*);try omega)
 all_goals first|(simp;omega)|exact Sup.of rfl
def Wj:PSp:=fun xs K=>match xs with
 | [.isl (.ints .i64 l) .none]=>VC (1≤l.length∧l.length≤1000000)∧K (.isl (.ints .i64 l) .none)
 |_=>False
theorem aeP:POK Tryz.prog 102 Wj:=by
 intro xs K h;unfold Wj at h;split at h
 ·exact⟨_,h.2,Wi _ h.1.get⟩
 ·exact h.elim
theorem SS (l:List Int) (hl:1≤l.length∧l.length≤1000000):jm Tryz.prog 102 [.isl (.ints .i64 l) .none] [] [.rsl 0 0 l.length] [.cells (.ints .i64 l) false]:=by
 refine bL (md:=1) (rf:=[7]) mixed au aC 0 [(1,0)] Tryz.func102 (by rfl) (by rfl) (by rfl) ?_
 repeat'((conv=>whnf);first|(intro hq;(try simp only[vw]at hq);try first|exact absurd hq (by decide)|exfalso;omega)|apply aI|with_reducible exact vM rfl|exact⟨⟩|apply nM|apply fM)
 all_goals((try apply vM);(try simp only[vq]at*);try omega)
 all_goals skip
def PN:LSp:=fun xs objs K=>match xs,objs with
 | [.isl (.ints .i64 l) .none],[]=>VC (1≤l.length∧l.length≤1000000)∧K [.rsl 0 0 l.length] [.cells (.ints .i64 l) false]
 |_,_=>False
theorem Mk:LOK Tryz.prog 102 PN:=by
 intro xs objs K hk;unfold PN at hk;split at hk
 ·exact⟨_,_,hk.2,SS _ hk.1.get⟩
 ·exact hk.elim
def kE (lim:Int) (ls:List (List Int)) (sum:Int) (gv:List Int):Nat→List (List Int)→List Int→List Int→List (List Int)
 |0,R,N,U=>if lim≤R.length∨jS ls sum N gv.length=false then R else R++[N]
 |f+1,R,N,U=>if lim≤R.length∨jS ls sum N ((gv.length-(f+1):Nat):Int)=false then R
  else if 0<gv.getD (gv.length-(f+1)) 0 then kE lim ls sum gv f R N U
  else(ahX gv.length).foldl (fun R (x:Nat)=>if((x:Int)+1)∈U then R else kE lim ls sum gv f R (N.set (gv.length-(f+1)) ((x:Int)+1)) (U++[(x:Int)+1])) R
theorem IW {α:Type} {f:List (List Int)→α→List (List Int)} {b:Nat}:∀(l:List α) (R:List (List Int)),R.length≤b→(∀R x,R.length≤b→(f R x).length≤b)→(l.foldl f R).length≤b:=by
 intro l;induction l with
 |nil=>intro R h _;exact h
 |cons x l ih=>intro R h hf;exact ih _ (hf R x h) hf
theorem IX {lim:Int} {ls:List (List Int)} {sum:Int} {gv:List Int} {b:Nat} (hl:lim≤b):∀(f:Nat) (R:List (List Int)) (N U:List Int),R.length≤b→(kE lim ls sum gv f R N U).length≤b:=by
 intro f;induction f with
 |zero=>
  intro R N U h;unfold kE;split
  ·exact h
  ·rw[ai7,ahK,ahG];omega
 |succ f ih=>
  intro R N U h;unfold kE;split
  ·exact h
  ·split
   ·exact ih _ _ _ h
   ·refine IW _ _ h fun R x hR=>?_
    split
    ·exact hR
    ·exact ih _ _ _ hR
abbrev srO (c:Int) (ls:List (List Int)) (sum:Int) (gv:List Int) (lim:Int) (N U:List Int) (R:List (List Int)):List AO:=
 [.cells (srC c ls sum gv lim (.rsl 1 0 gv.length) ((mk U:Nat):Int) (.isl (.rows .i64 R) (.own 2))) false,.cells (.ints .i64 N) false,.tok 1 R.length]
structure SrI (c:Int) (gv:List Int) (f:Nat) (N U:List Int):Prop where
 n:IV c N
 u:InM U
 fl:f≤gv.length
 z:∀j,gv.length-f≤j→j<gv.length→gv.getD j 0=0→N.getD j 0=0
def sV (f:Nat):Prop:=∀(c:Int) (ls:List (List Int)) (sum:Int) (gv:List Int) (lim:Int) (N U:List Int) (R:List (List Int)),bD c ls sum gv→lim≤256→R.length≤256→SrI c gv f N U→
 jm Tryz.prog 103 [.rp 0 0,.int .i64 ((gv.length-f:Nat):Int)] (srO c ls sum gv lim N U R) [] (srO c ls sum gv lim N U (kE lim ls sum gv f R N U))
def FT (f:Nat):LSp:=fun xs objs K=>match xs,objs with
 | [.rp 0 0,.int .i64 i],[.cells (.pv [.int .i64 c,.isl (.rows .i64 ls) .none,.int .i64 sum,.isl (.ints .i64 gv) .none,.int .i64 lim,.rsl 1 0 n,.int .u32 u,.isl (.rows .i64 R) (.own 2)]) false,.cells (.ints .i64 N) false,.tok 1 m]=>
  ∃U:List Int,VC (n=gv.length∧m=R.length∧u=(mk U:Nat)∧i=((gv.length-f:Nat):Int)∧bD c ls sum gv∧lim≤256∧R.length≤256∧SrI c gv f N U)∧K [] (srO c ls sum gv lim N U (kE lim ls sum gv f R N U))
 |_,_=>False
theorem IY {f:Nat} (h:sV f):LOK Tryz.prog 103 (FT f):=by
 intro xs objs K hk;unfold FT at hk;split at hk
 ·obtain⟨U,⟨rfl,rfl,rfl,rfl,h1,h2,h3,h4⟩,hk⟩:=hk
  exact⟨_,_,hk,h _ _ _ _ _ _ _ _ h1 h2 h3 h4⟩
 ·exact hk.elim
theorem SV (l:List Int) (hl:1≤l.length∧l.length≤1000000):jm Tryz.prog 102 [.rsl 0 0 l.length] [.cells (.ints .i64 l) false] [.isl (.ints .i64 l) .none] [.cells (.ints .i64 l) false]:=by
 have tk:akt (0+l.length-0) (aku 0 l)=l:=dA (by omega)
 refine bL (md:=1) (rf:=[]) mixed au aC 1 [] Tryz.func102 (by rfl) (by rfl) (by rfl) ?_
 repeat'((conv=>whnf);first|(intro hq;(try simp only[vw]at hq);try first|exact absurd hq (by decide)|exfalso;omega)|apply aI|with_reducible exact vM rfl|exact⟨⟩|apply nM|apply fM)
 all_goals((try apply vM);(try simp only[vq]at*);try omega)
 all_goals first|exact .inl trivial|(simp;omega)|(simp;done)|skip
def Wm:LSp:=fun xs objs K=>match xs,objs with
 | [.rsl 0 0 n],[.cells (.ints .i64 l) false]=>VC (n=l.length∧1≤l.length∧l.length≤1000000)∧K [.isl (.ints .i64 l) .none] [.cells (.ints .i64 l) false]
 |_,_=>False
theorem abJ:LOK Tryz.prog 102 Wm:=by
 intro xs objs K hk;unfold Wm at hk;split at hk
 ·obtain⟨⟨rfl,h⟩,hk⟩:=hk
  exact⟨_,_,hk,SV _ h⟩
 ·exact hk.elim
noncomputable def aeQ:CPT:=aA 102 (eO [] Wm) (aA 155 (kg PL) (aA 156 (aB FJ) noC))
theorem Dv:aW Tryz.prog aeQ:=aj (dG [] abJ) (aj (iw abI) (aj (ak Lx) aC))
theorem SX:sV 0:=by
 intro c ls sum gv lim N U R h hlim hR hI;have hgl:=h.gl;have hNl:=hI.n.len;have hc:=h.c1;have hU:=iy hI.u;have tk:akt (gv.length-0) (aku 0 N)=N:=dA (by omega)
 have e0:((gv.length-0:Nat):Int)=gv.length:=by omega
 have hi:bD c ls sum gv∧IV c (akt (gv.length-0) (aku 0 N))∧0≤((gv.length-0:Nat):Int)∧((gv.length-0:Nat):Int)≤16:=⟨h,by rw[tk];exact hI.n,by omega,by omega⟩
 have eR:∀b,jS ls sum (akt (gv.length-0) (aku 0 N)) ((gv.length-0:Nat):Int)=b→jS ls sum N gv.length=b:=fun b hb=>by rwa [tk]at hb
 unfold kE;by_cases hc1:lim≤R.length∨jS ls sum N gv.length=false
 ·rw[if_pos hc1]
  refine bL (md:=1) (rf:=[]) mixed au Dv 3 [] Tryz.func103 (by rfl) (by rfl) (by rfl) ?_
  repeat'((conv=>whnf);first|(intro hq;(try simp only[vw]at hq);try first|exact absurd hq (by decide)|exfalso;omega)|apply aI|with_reducible exact vM rfl|exact⟨⟩|apply nM|apply fM)
  all_goals((try apply vM);(try simp only[vq]at*);try omega)
  all_goals(try first|exact hi|(exfalso;rename_i hq;have:=eR _ hq;rw[this]at hc1;simp at hc1;omega))
  all_goals skip
 ·rw[if_neg hc1]
  refine bL (md:=1) (rf:=[]) mixed au Dv 3 [] Tryz.func103 (by rfl) (by rfl) (by rfl) ?_
  repeat'((conv=>whnf);first|(intro hq;(try simp only[vw]at hq);try first|exact absurd hq (by decide)|exfalso;omega)|apply aI|with_reducible exact vM rfl|exact⟨⟩|apply nM|apply fM)
  all_goals((try apply vM);(try simp only[vq]at*);try omega)
  all_goals(try first|exact hi|(rw[tk];omega)|omega|(exfalso;omega)|(exfalso;rename_i hq;exact hc1 (.inr (eR _ hq))))
  repeat'((conv=>whnf);first|(intro hq;(try simp only[vw]at hq);try first|exact absurd hq (by decide)|exfalso;omega)|apply aI|with_reducible exact vM rfl|exact⟨⟩|apply nM|apply fM)
  all_goals((try apply vM);(try simp only[vq]at*);try omega)
  all_goals(rw[ai7,ahK,ahG];try omega)
noncomputable def ag8 (f:Nat):CPT:=aA 103 (eO [] (FT f)) aeQ
theorem yx {f:Nat} (h:sV f):aW Tryz.prog (ag8 f):=aj (dG [] (IY h)) Dv
theorem Wn {l:List Int} (h:InM l) {x:Int} (hx:0≤x∧x≤31):C8 (mk l) x=decide (x∈l):=by
 unfold C8;rw[RB h hx];by_cases hm:x∈l<;>simp[hm]
theorem Wo {l:List Int} {x:Int} (h:x∉l):dY (l++[x]) x=l:=by
 unfold dY;rw[akO,akW.2 (fun y hy=>by simp;rintro rfl;exact h hy)]
 simp
theorem SY {f:Nat} (ih:sV f):sV (f+1):=by
 intro c ls sum gv lim N U R h hlim hR hI;have hcp:=yx ih;have hgl:=h.gl;have hNl:=hI.n.len;have hc:=h.c1;have hU:=iy hI.u;have hfl:=hI.fl;have tk:akt (gv.length-0) (aku 0 N)=N:=dA (by omega)
 have e0:((gv.length-(f+1):Nat):Int)+1=((gv.length-f:Nat):Int):=by omega
 obtain⟨i,hi0⟩:∃i,gv.length-(f+1)=i:=⟨_,rfl⟩;have hii:i<gv.length:=by omega
 have hi:bD c ls sum gv∧IV c (akt (gv.length-0) (aku 0 N))∧0≤(i:Int)∧(i:Int)≤16:=⟨h,by rw[tk];exact hI.n,by omega,by omega⟩
 have eR:∀b,jS ls sum (akt (gv.length-0) (aku 0 N)) (i:Int)=b→jS ls sum N i=b:=fun b hb=>by rwa [tk]at hb
 have hI':SrI c gv f N U:=⟨hI.n,hI.u,by omega,fun j h1 h2 h3=>hI.z j (by omega) h2 h3⟩
 unfold kE;rw[hi0]at e0⊢;by_cases hc1:lim≤R.length∨jS ls sum N i=false
 ·rw[if_pos hc1]
  refine bL (md:=1) (rf:=[]) mixed au (yx ih) 3 [] Tryz.func103 (by rfl) (by rfl) (by rfl) ?_
  repeat'((conv=>whnf);first|(intro hq;(try simp only[vw]at hq);try first|exact absurd hq (by decide)|exfalso;omega)|apply aI|with_reducible exact vM rfl|exact⟨⟩|apply nM|apply fM)
  all_goals((try apply vM);(try simp only[vq]at*);try omega)
  all_goals(try first|exact hi|(exfalso;omega)|(exfalso;have:=eR true (by assumption);rw[this]at hc1;simp at hc1;omega))
  all_goals skip
 rw[if_neg hc1];by_cases hg:0<gv.getD i 0
 ·rw[if_pos hg]
  refine bL (md:=1) (rf:=[]) mixed au (yx ih) 3 [] Tryz.func103 (by rfl) (by rfl) (by rfl) ?_
  repeat'((conv=>whnf);first|refine Exists.intro (U) ?_|(intro hq;(try simp only[vw]at hq);try first|exact absurd hq (by decide)|exfalso;omega)|apply aI|with_reducible exact vM rfl|exact⟨⟩|apply nM|apply fM)
  all_goals((try apply vM);(try simp only[vq]at*);try omega)
  all_goals(try first|exact hi|(exfalso;omega)|(exfalso;rename_i hq;exact hc1 (.inr (eR _ hq)))|exact⟨rfl,rfl,rfl,e0,h,hlim,hR,hI'⟩|exact⟨e0,h,hlim,hR,hI'⟩|(exfalso;exact hq hg))
 rw[if_neg hg];refine bL (md:=1) (rf:=[]) mixed au (yx ih) 3 [] Tryz.func103 (by rfl) (by rfl) (by rfl) ?_
 repeat'((conv=>whnf);first|(intro hq;(try simp only[vw]at hq);try first|exact absurd hq (by decide)|exfalso;omega)|apply aI|with_reducible exact vM rfl|exact⟨⟩|apply nM|apply fM)
 all_goals((try apply vM);(try simp only[vq]at*);try omega)
 all_goals(try first|exact hi|(exfalso;omega)|(exfalso;rename_i hq;exact hc1 (.inr (eR _ hq)))|(exfalso;exact hg hq))
 conv=>whnf
 have hz:=hI.z i (by omega) hii (by have:=h.gr _ (cu (d:=0) hii);omega)
 have hs0:∀v:Int,(N.set i v).set i 0=N:=fun v=>by
  rw[List.set_set];refine akH (by simp) fun j h1 h2=>?_
  rw[akI];split
  ·rename_i e;subst e
   rw[ahZ,ah4 (by omega)]at hz
   exact hz.symm
  ·rfl
 obtain⟨F,hF⟩:∃F:List (List Int)→Nat→List (List Int),F=fun R (x:Nat)=>if((x:Int)+1)∈U then R else kE lim ls sum gv f R (N.set i ((x:Int)+1)) (U++[(x:Int)+1]):=⟨_,rfl⟩;have hFs:∀x,(ahX (x+1)).foldl F R=F ((ahX x).foldl F R) x:=fun x=>by rw[akM,akc];rfl
 have hFl:∀x,((ahX x).foldl F R).length≤256:=fun x=>IW _ _ hR fun R x hR=>by
  rw[hF];simp only;split
  ·exact hR
  ·exact IX (by omega) _ _ _ _ hR
 rw[←hF];refine aM (X:=Nat) (fun x=>x≤gv.length) (fun x=>[(4,.int .i64 ((x:Int)+1))]) (fun x=>[(0,.cells (srC c ls sum gv lim (.rsl 1 0 gv.length) ((mk U:Nat):Int) (.isl (.rows .i64 ((ahX x).foldl F R)) (.own 2))) false),(2,.tok 1 ((ahX x).foldl F R).length)]) (fun x=>gv.length-x) 0 ⟨aK,mixed,au,hcp,aP⟩ (by rfl) (by omega) ?_ ?_
 ·repeat'((conv=>whnf);first|intro _|apply aI|with_reducible exact vM rfl|exact⟨⟩|apply nM|apply fM)
  all_goals((try apply vM);(try simp only[vq]at*);try omega)
  all_goals skip
 intro x hx;by_cases hlt:x<gv.length
 ·have hx31:0≤(x:Int)+1∧(x:Int)+1≤31:=by omega
  have hhas:=Wn hI.u hx31;have hRx:=hFl x;have hFx:=hFs x;by_cases hm:((x:Int)+1)∈U
  ·rw[decide_eq_true hm]at hhas
   have hstep:F ((ahX x).foldl F R) x=(ahX x).foldl F R:=by rw[hF];exact if_pos hm
   rw[hstep]at hFx
   repeat'((conv=>whnf);first|refine Exists.intro (U) ?_|(intro hq;(try simp only[vw]at hq);try first|exact absurd hq (by decide)|exfalso;omega)|apply aI|with_reducible exact vM rfl|exact⟨⟩|apply nM|apply fM)
   all_goals((try apply vM);(try simp only[vq]at*);try omega)
   all_goals(try(exfalso;rw[hhas]at hq;cases hq;done))
   refine⟨x+1,[],⟨by omega,by omega⟩,?_⟩
   rw[hFx]
   repeat'((conv=>whnf);first|intro _|apply aI|with_reducible exact vM rfl|exact⟨⟩|apply nM|apply fM)
   all_goals((try apply vM);(try simp only[vq]at*);try omega)
   all_goals skip
  ·rw[decide_eq_false hm]at hhas
   have hstep:F ((ahX x).foldl F R) x=kE lim ls sum gv f ((ahX x).foldl F R) (N.set i ((x:Int)+1)) (U++[(x:Int)+1]):=by rw[hF];exact if_neg hm
   rw[hstep]at hFx;have hor:=OH hI.u hx31;have hU1:InM (U++[(x:Int)+1]):=fun y hy=>by
    rcases ah0.1 hy with h|h
    ·exact hI.u y h
    ·simp at h;subst h;exact hx31
   have hdel:=sM hU1 hx31;rw[Wo hm]at hdel;have hU1l:=iy hU1;have hI1:SrI c gv f (N.set i ((x:Int)+1)) (U++[(x:Int)+1]):=by
    refine⟨⟨by rw[ait];exact hNl,fun y hy=>?_⟩,hU1,by omega,fun j h1 h2 h3=>?_⟩
    ·rcases List.mem_or_eq_of_mem_set hy with h|rfl
     ·exact hI.n.rng y h
     ·omega
    ·have:=hI.z j (by omega) h2 h3
     rw[ahZ,aiu (by omega),←ahZ];exact this
   have hsb:=lu ((x:Int)+1).toNat (by omega)
   have hR2:=IX (lim:=lim) (ls:=ls) (sum:=sum) (gv:=gv) (b:=256) (by omega) f _ (N.set i ((x:Int)+1)) (U++[(x:Int)+1]) hRx
   obtain⟨U1,hU1e⟩:∃U1,U1=U++[(x:Int)+1]:=⟨_,rfl⟩;rw[←hU1e]at hor hU1 hdel hU1l hI1 hR2 hFx
   repeat'((conv=>whnf);first|refine Exists.intro (U1) ?_|(intro hq;(try simp only[vw]at hq);try first|exact absurd hq (by decide)|exfalso;omega)|apply aI|with_reducible exact vM rfl|exact⟨⟩|apply nM|apply fM)
   all_goals((try apply vM);(try simp only[vq]at*);try omega)
   all_goals(try(exfalso;rw[hhas]at hq;cases hq;done))
   all_goals(try first|exact⟨hor,e0,h,hlim,hRx,hI1⟩|(rw[ait];omega))
   refine⟨x+1,[],⟨by omega,by omega⟩,?_⟩
   rw[hFx];have hs1:=hs0 ((x:Int)+1)
   repeat'((conv=>whnf);first|intro _|apply aI|with_reducible exact vM rfl|exact⟨⟩|apply nM|apply fM)
   all_goals((try apply vM);(try simp only[vq]at*);try omega)
   all_goals first|exact hdel|exact hs1|skip
 ·have e:x=gv.length:=by omega
  subst e
  repeat'((conv=>whnf);first|(intro hq;(try simp only[vw]at hq);try first|exact absurd hq (by decide)|exfalso;omega)|apply aI|with_reducible exact vM rfl|exact⟨⟩|apply nM|apply fM)
  all_goals((try apply vM);(try simp only[vq]at*);try omega)
  all_goals skip
theorem Wp:∀f,sV f:=fun f=>by
 induction f with
 |zero=>exact SX
 |succ f ih=>exact SY ih
def zeN (l:List Int):Nat:=(l.filter fun x=>decide (x=0)).length
theorem abK (l:List Int) (x:Int):zeN (l++[x])=if x=0 then zeN l+1 else zeN l:=by
 unfold zeN;rw[akO,ai7];by_cases h:x=0
 ·subst h;rfl
 ·rw[if_neg h,akP,if_neg (by simpa using h)];rfl
theorem aeR (l:List Int):zeN l≤l.length:=aky _ _
def mP (lim:Int):Int:=if lim<0∨256<lim then 3 else 0
def pK (c:Int) (ls:List (List Int)) (sum:Int) (gv:List Int) (lim:Int):List (List Int) × Int:=
 if aJ [pzE c ls sum gv,mP lim]≠0 then([],aJ [pzE c ls sum gv,mP lim])else if 9<zeN gv then([],20)else(kE lim ls sum gv gv.length [] gv gv,0)
noncomputable def ag9 (n:Nat):CPT:=aA 22 (aB mM) (aA 88 (aB jJ) (aA 89 (aB fC) (aA 102 (eO [] PN) (aA 103 (eO [] (FT n)) noC))))
theorem abL (n:Nat):aW Tryz.prog (ag9 n):=aj (ak lT) (aj (ak jh) (aj (ak jr) (aj (dG [] Mk) (aj (dG [] (IY (Wp n))) aC))))
theorem Ta (e:Int):Sup (bI [PV.nils,PV.int .i64 e]) (.tup [.isl (.rows .i64 []) .none,.int .i64 e]):=by all_goals(refine Sup.via ?_;repeat'((conv=>whnf);first|intro _|apply aI|with_reducible exact vM rfl|exact⟨⟩|apply nM|apply fM);all_goals((try apply vM);(try simp only[vq]at*);try omega);all_goals(try(simp[CL.sub];done)))
theorem sW (c:Int) (ls:List (List Int)) (sum:Int) (gv:List Int) (lim:Int) (h:bO ls) (hg:gv.length≤5000):aF Tryz.prog 39 [pzV c ls sum gv,.int .i64 lim] (.tup [.isl (.rows .i64 (pK c ls sum gv lim).1) .none,.int .i64 (pK c ls sum gv lim).2]):=by
 have hcp:=abL gv.length;have hA:lim<0→3=mP lim:=fun hl=>by unfold mP;rw[if_pos (.inl hl)]
 have hB:¬lim<0→(if 256<lim then 3 else 0)=mP lim:=fun hl=>by
  unfold mP;by_cases h2:256<lim
  ·rw[if_pos h2,if_pos (.inr h2)]
  ·rw[if_neg h2,if_neg (by omega)]
 unfold pK;by_cases he:aJ [pzE c ls sum gv,mP lim]=0
 case neg=>
  rw[if_pos he];have hk:∀x,x=mP lim→Sup (bI [PV.nils,PV.int .i64 (aJ [pzE c ls sum gv,x])]) (.tup [.isl (.rows .i64 []) .none,.int .i64 (aJ [pzE c ls sum gv,mP lim])]):=fun x hx=>by rw[hx];exact Ta _
  have hk2:∀x,x=mP lim→aJ [pzE c ls sum gv,x]≠0:=fun x hx=>by rw[hx];exact he
  refine bR (md:=1) (rf:=[]) mixed au hcp Tryz.func39 (by rfl) (by rfl) (by rfl) ?_
  repeat'((conv=>whnf);first|(intro hq;(try simp only[vw]at hq);try first|exact absurd hq (by decide)|exfalso;omega)|apply aI|with_reducible exact vM rfl|exact⟨⟩|apply nM|apply fM)
  all_goals((try apply vM);(try simp only[vq]at*);try omega)
  all_goals first|exact⟨h,hg⟩|exact hk _ (hB (by omega))|(rw[if_pos trivial];exact hk _ (hA (by omega)))|exact hk _ (hA (by omega))|(exfalso;exact ‹¬aJ [_,if 256<lim then 3 else 0]≠0› (hk2 _ (hB (by omega))))|(exfalso;exact ‹¬aJ [_,3]≠0› (hk2 _ (hA (by omega))))|skip
 rw[if_neg (by rw[he];simp)]
 obtain⟨h1,h2⟩:=IQ he;have hp:=bD.of h1;have hgl:=hp.gl;have hc:=hp.c1;have hl:0≤lim∧lim≤256:=by
  unfold mP at h2;by_cases e:lim<0∨256<lim
  ·rw[if_pos e]at h2;cases h2
  ·omega
 have hk2:∀x,x=mP lim→aJ [pzE c ls sum gv,x]=0:=fun x hx=>by rw[hx];exact he
 refine bR (md:=1) (rf:=[]) mixed au hcp Tryz.func39 (by rfl) (by rfl) (by rfl) ?_
 repeat'((conv=>whnf);first|(intro hq;(try simp only[vw]at hq);try first|exact absurd hq (by decide)|exfalso;omega)|apply aI|with_reducible exact vM rfl|exact⟨⟩|apply nM|apply fM)
 all_goals((try apply vM);(try simp only[vq]at*);try omega)
 all_goals(try first|exact⟨h,hg⟩|(exfalso;omega)|(exfalso;exact ‹aJ [_,_]≠0› (hk2 _ (by unfold mP;(repeat' split)<;>first|rfl|(exfalso;omega)|(exfalso;exact absurd trivial ‹¬True›)))))
 conv=>whnf
 refine aM (X:=Nat) (fun k=>k≤gv.length) (fun k=>[(30,.int .i64 k),(7,.int .i64 (zeN (gv.take k):Nat))]) (fun k=>[]) (fun k=>gv.length-k) 0 ⟨aK,mixed,au,hcp,aP⟩ (by rfl) (by omega) ?_ ?_
 ·repeat'((conv=>whnf);first|intro _|apply aI|with_reducible exact vM rfl|exact⟨⟩|apply nM|apply fM)
  all_goals((try apply vM);(try simp only[vq]at*);try omega)
  all_goals skip
 intro k hk;have hzl:=aeR (gv.take k);rw[aiG]at hzl;by_cases hlt:k<gv.length
 ·have hza:zeN (gv.take (k+1))=if gv.getD k 0=0 then zeN (gv.take k)+1 else zeN (gv.take k):=by rw[dH hlt,abK]
  repeat'((conv=>whnf);first|(intro hq;(try simp only[vw]at hq);try first|exact absurd hq (by decide)|exfalso;omega)|apply aI|with_reducible exact vM rfl|exact⟨⟩|apply nM|apply fM)
  all_goals((try apply vM);(try simp only[vq]at*);try omega)
  all_goals(try omega)
  ·refine⟨k+1,[],⟨by omega,by omega⟩,?_⟩
   rw[hza,if_pos ‹gv.getD k 0=0›]
   repeat'((conv=>whnf);first|intro _|apply aI|with_reducible exact vM rfl|exact⟨⟩|apply nM|apply fM)
   all_goals((try apply vM);(try simp only[vq]at*);try omega)
   all_goals skip
  ·refine⟨k+1,[],⟨by omega,by omega⟩,?_⟩
   rw[hza,if_neg ‹¬gv.getD k 0=0›]
   repeat'((conv=>whnf);first|intro _|apply aI|with_reducible exact vM rfl|exact⟨⟩|apply nM|apply fM)
   all_goals((try apply vM);(try simp only[vq]at*);try omega)
   all_goals skip
 have e:k=gv.length:=by omega
 subst e;rw[ajS]at*;by_cases hz9:9<zeN gv
 ·rw[if_pos hz9]
  repeat'((conv=>whnf);first|(intro hq;(try simp only[vw]at hq);try first|exact absurd hq (by decide)|exfalso;omega)|apply aI|with_reducible exact vM rfl|exact⟨⟩|apply nM|apply fM)
  all_goals((try apply vM);(try simp only[vq]at*);try omega)
  all_goals first|exact Ta _|(exfalso;omega)|skip
 rw[if_neg hz9]
 repeat'((conv=>whnf);first|(intro hq;(try simp only[vw]at hq);try first|exact absurd hq (by decide)|exfalso;omega)|apply aI|with_reducible exact vM rfl|exact⟨⟩|apply nM|apply fM)
 all_goals((try apply vM);(try simp only[vq]at*);try omega)
 all_goals(try omega)
 conv=>whnf
 refine aM (X:=Nat) (fun k=>k≤gv.length) (fun k=>[(51,.int .i64 k)]) (fun k=>[(18,.cells (srC c ls sum gv lim (.rsl 14 0 gv.length) ((mk (gv.take k):Nat):Int) (.isl (.rows .i64 []) (.own 22))) false),(22,.tok 1 0)]) (fun k=>gv.length-k) 0 ⟨aK,mixed,au,hcp,aP⟩ (by rfl) (by omega) ?_ ?_
 ·repeat'((conv=>whnf);first|intro _|apply aI|with_reducible exact vM rfl|exact⟨⟩|apply nM|apply fM)
  all_goals((try apply vM);(try simp only[vq]at*);try omega)
  all_goals first|rfl|skip
 intro k hk;have hInM:∀j,InM (gv.take j):=fun j y hy=>by have:=hp.gr y (List.mem_of_mem_take hy);omega
 have hmk:=iy (hInM k);by_cases hlt:k<gv.length
 ·have hx:=hp.gr (gv.getD k 0) (cu hlt)
  have hsb:=lu (gv.getD k 0).toNat (by omega)
  have hor:=OH (hInM k) (show 0≤gv.getD k 0∧gv.getD k 0≤31 by omega)
  rw[←dH hlt]at hor
  repeat'((conv=>whnf);first|(intro hq;(try simp only[vw]at hq);try first|exact absurd hq (by decide)|exfalso;omega)|apply aI|with_reducible exact vM rfl|exact⟨⟩|apply nM|apply fM)
  all_goals((try apply vM);(try simp only[vq]at*);try omega)
  all_goals(try omega)
  refine⟨k+1,[],⟨by omega,by omega⟩,?_⟩
  repeat'((conv=>whnf);first|intro _|apply aI|with_reducible exact vM rfl|exact⟨⟩|apply nM|apply fM)
  all_goals((try apply vM);(try simp only[vq]at*);try omega)
  all_goals exact hor
 have e:k=gv.length:=by omega
 subst e;rw[ajS]at*;have e0:(0:Int)=((gv.length-gv.length:Nat):Int):=by omega
 have hI:SrI c gv gv.length gv gv:=⟨⟨by omega,fun x hx=>by have:=hp.gr x hx;omega⟩,fun x hx=>by have:=hp.gr x hx;omega,ahO _,fun j _ _ h=>h⟩
 repeat'((conv=>whnf);first|refine Exists.intro (gv) ?_|(intro hq;(try simp only[vw]at hq);try first|exact absurd hq (by decide)|exfalso;omega)|apply aI|with_reducible exact vM rfl|exact⟨⟩|apply nM|apply fM)
 all_goals((try apply vM);(try simp only[vq]at*);try omega)
 ·exact⟨e0,hp,hl.2,by omega,hI⟩
 ·exact Sup.of rfl
def aeS (C1 C2:CT):CT:=fun args n H K=>∃b:Bool,match b with
 |true=>C1 args n H K
 |false=>C2 args n H K
theorem abM {P:Program} {g:FuncId} {C1 C2:CT} (h1:COK P g C1) (h2:COK P g C2):COK P g (aeS C1 C2):=by
 intro args n H K hk;obtain⟨b,hk⟩:=hk;cases b with
 |true=>exact h1 _ _ _ _ hk
 |false=>exact h2 _ _ _ _ hk
noncomputable def aha:CPT:=aA 102 (aeS (eO [] PN) (aB Wj)) noC
theorem Ml:aW Tryz.prog aha:=aj (abM (dG [] Mk) (ak aeP)) aC
theorem yT (c:Int) (ls:List (List Int)) (sum:Int) (gv:List Int) (hg:1≤gv.length∧gv.length≤1000000) (hl:ls.length≤5000) (hn:∀i,i<ls.length→1≤(ls.getD i []).length∧(ls.getD i []).length≤5000):
 jm Tryz.prog 124 [pzV c ls sum gv] [] [.agg [.int .i64 c,.isl (.rows .i64 ls) .none,.int .i64 sum,.rsl 0 0 gv.length]] [.cells (.ints .i64 gv) false]:=by
 refine bL (md:=1) (rf:=[]) mixed au Ml 0 [(2,0)] Tryz.func124 (by rfl) (by rfl) (by rfl) ?_
 repeat'((conv=>whnf);first|refine Exists.intro (true) ?_|(intro hq;(try simp only[vw]at hq);try first|exact absurd hq (by decide)|exfalso;omega)|apply aI|with_reducible exact vM rfl|exact⟨⟩|apply nM|apply fM)
 all_goals((try apply vM);(try simp only[vq]at*);try omega)
 conv=>whnf
 refine aM (X:=Nat) (fun k=>k≤ls.length) (fun k=>[(20,.int .i64 k)]) (fun k=>[(6,.cells (.pv [.int .i64 c,.isl (.rows .i64 (ls.take k)) (.own 12),.int .i64 sum,.rsl 2 0 gv.length]) false),(12,.tok 1 k)]) (fun k=>ls.length-k) 0 ⟨aK,mixed,au,Ml,aP⟩ (by rfl) (by omega) ?_ ?_
 ·repeat'((conv=>whnf);first|intro _|apply aI|with_reducible exact vM rfl|exact⟨⟩|apply nM|apply fM)
  all_goals((try apply vM);(try simp only[vq]at*);try omega)
  all_goals skip
 intro k hk;by_cases hlt:k<ls.length
 ·have hl1:=hn k hlt
  have e1:(ls.take k).length=k:=by rw[aiG];omega
  have e2:ls.take k++[ls.getD k []]=ls.take (k+1):=by
   rw[ajQ,ahZ,ah4 hlt];rfl
  repeat'((conv=>whnf);first|refine Exists.intro (false) ?_|(intro hq;(try simp only[vw]at hq);try first|exact absurd hq (by decide)|exfalso;omega)|apply aI|with_reducible exact vM rfl|exact⟨⟩|apply nM|apply fM)
  all_goals((try apply vM);(try simp only[vq]at*);try omega)
  all_goals(try(simp only[ai7,aiG,ahK,ahG];omega))
  all_goals(try omega)
  refine⟨k+1,[],⟨by omega,by omega⟩,?_⟩
  repeat'((conv=>whnf);first|intro _|apply aI|with_reducible exact vM rfl|exact⟨⟩|apply nM|apply fM)
  all_goals((try apply vM);(try simp only[vq]at*);try omega)
  all_goals(try(rw[e2]))
 ·have e:k=ls.length:=by omega
  subst e;rw[ajS]
  repeat'((conv=>whnf);first|(intro hq;(try simp only[vw]at hq);try first|exact absurd hq (by decide)|exfalso;omega)|apply aI|with_reducible exact vM rfl|exact⟨⟩|apply nM|apply fM)
  all_goals((try apply vM);(try simp only[vq]at*);try omega)
  all_goals skip
theorem Tc (L0:List Int) (hl:L0.length≤1000000):nX Tryz.prog 231 [] [.ip (.pv [.isl (.ints .i64 L0) .none]) 0] 1 (L0.map (PV.int .i64)):=by
 refine lQ (md:=1) (rf:=[]) mixed au Tryz.func231 (by rfl) (by rfl) (by rfl) fun G go b hY=>⟨_,aC,?_⟩
 obtain⟨L,hL⟩:∃L,L=L0.map (PV.int .i64):=⟨_,rfl⟩;have hlen:L.length=L0.length:=by simp[hL]
 have hget:∀i,i<L0.length→L[i]? =some (.int .i64 (L0.getD i 0)):=fun i hi=>by simp[hL,hi]
 rw[←hL]at hY⊢;have W:Walk Tryz.prog none kR tab.get noC (uM b 1 G go L):=⟨aK,mixed,au,aC,hY _ _⟩;have stop:∀i,i<L0.length→GoTo go L i→go (L.take i++[.int .i64 (L0.getD i 0)])=false→L.take i++[.int .i64 (L0.getD i 0)]=iQ go [] L:=fun i hi hg h=>by
  rw[eu (hget i hi)]at h⊢;rw[wI (by omega) hg h]
 have cont:∀i,i<L0.length→GoTo go L i→go (L.take i++[.int .i64 (L0.getD i 0)])=true→GoTo go L (i+1):=fun i hi hg h=>hg.succ (by rw[←eu (hget i hi)];exact h)
 have done:GoTo go L L0.length→L.take L0.length=iQ go [] L:=fun hg=>by rw[zl (by omega) hg,←hlen];simp
 repeat'((conv=>whnf);first|intro _|apply aI|with_reducible exact vM rfl|exact⟨⟩|apply nM|apply fM)
 all_goals((try apply vM);(try simp only[vq]at*);try omega)
 conv=>whnf
 refine aM (X:=Nat) (fun k=>k≤L0.length∧GoTo go L k) (fun k=>[(7,.int .i64 k),(4,.any)]) (fun k=>[(0,.ext G (L.take k))]) (fun k=>L0.length-k) 0 W (by rfl) ⟨by omega,.zero⟩ ?_ ?_
 ·repeat'((conv=>whnf);first|intro _|apply aI|with_reducible exact vM rfl|exact⟨⟩|apply nM|apply fM)
  all_goals((try apply vM);(try simp only[vq]at*);try omega)
  all_goals simp
 intro k hk;obtain⟨hk1,hk3⟩:=hk;by_cases hlt:k<L0.length
 ·repeat'((conv=>whnf);first|intro _|apply aI|with_reducible exact vM rfl|exact⟨⟩|apply nM|apply fM)
  all_goals((try apply vM);(try simp only[vq]at*);try omega)
  ·exact Rs (hget k hlt) hk3
  ·exact stop k hlt hk3 (by simp_all)
  ·rename_i hgo
   refine⟨k+1,[],⟨⟨by omega,cont k hlt hk3 (by simpa using hgo)⟩,by omega⟩,?_⟩
   repeat'((conv=>whnf);first|intro _|apply aI|with_reducible exact vM rfl|exact⟨⟩|apply nM|apply fM)
   all_goals((try apply vM);(try simp only[vq]at*);try omega)
   exact eu (hget k hlt)
 ·have:L0.length=k:=by omega
  subst this
  repeat'((conv=>whnf);first|intro _|apply aI|with_reducible exact vM rfl|exact⟨⟩|apply nM|apply fM)
  all_goals((try apply vM);(try simp only[vq]at*);try omega)
  exact done hk3
def hsA (L:List Int):Nat→List (Nat × AO)
 |0=>[]
 |i+1=>[(0,.cells (.pv [.rsl 5 0 (i+1)]) false),(5,.cells (.ints .i64 (L.take (i+1))) false)]
theorem Dw (L:List Int) (hl:1≤L.length∧L.length≤1000000):jm Tryz.prog 188 [.nils,.fn (.func 231) [] [.ip (.pv [.isl (.ints .i64 L) .none]) 0]] [] [.rsl 0 0 L.length] [.cells (.ints .i64 L) false]:=by
 refine bL (md:=1) (rf:=[11]) mixed au aC 0 [(5,0)] Tryz.func188 (by rfl) (by rfl) (by rfl) ?_
 repeat'((conv=>whnf);first|intro _|apply aI|with_reducible exact vM rfl|exact⟨⟩|apply nM|apply fM)
 all_goals((try apply vM);(try simp only[vq]at*);try omega)
 conv=>whnf
 refine jo aK mixed au aC (fun r=>aP) (fs:=[]) (cs:=[.ip (.pv [.isl (.ints .i64 L) .none]) 0]) (L.map (PV.int .i64)) (fun _=>true) (hsA L) (by rfl) (by rfl) (by rfl) (Tc L hl.2) (by rfl) (by rfl) (by rfl) (by rfl) ?_ ?_ ?_
 ·repeat'((conv=>whnf);first|intro _|apply aI|with_reducible exact vM rfl|exact⟨⟩|apply nM|apply fM)
  all_goals((try apply vM);(try simp only[vq]at*);try omega)
 ·intro hall
  obtain⟨m,hm⟩:∃m,L.length=m+1:=⟨L.length-1,by omega⟩
  have ht:L.take (m+1)=L:=by rw[←hm,ajS]
  rw[ajO,hm]
  repeat'((conv=>whnf);first|intro _|apply aI|with_reducible exact vM rfl|exact⟨⟩|apply nM|apply fM)
  all_goals((try apply vM);(try simp only[vq]at*);try omega)
  all_goals(try rw[ht])
 ·intro i x hx hall lp
  have hx':i<L.length∧x=.int .i64 (L.getD i 0):=by
   rw[aiO]at hx;cases h:L[i]? with
   |none=>rw[h]at hx;cases hx
   |some y=>
    rw[h]at hx;cases hx
    have:=(List.getElem?_eq_some_iff.1 h).1;exact⟨this,by rw[ahZ,h];rfl⟩
  obtain⟨hi,rfl⟩:=hx';cases i with
  |zero=>
   have e1:[L.getD 0 0]=L.take 1:=by
    cases L with
    |nil=>simp at hi
    |cons a r=>rfl
   repeat'((conv=>whnf);first|intro _|apply aI|with_reducible exact vM rfl|exact⟨⟩|apply nM|apply fM)
   all_goals((try apply vM);(try simp only[vq]at*);try omega)
   refine⟨[(2,5)],?_⟩
   repeat'((conv=>whnf);first|intro _|apply aI|with_reducible exact vM rfl|exact⟨⟩|apply nM|apply fM)
   all_goals((try apply vM);(try simp only[vq]at*);try omega)
   all_goals(try(rw[e1]))
  |succ i=>
   have e1:(L.take (i+1)).length=i+1:=by rw[aiG];omega
   have e2:akt (i+1-0) (aku 0 (akt (i+1) L))++[L.getD (i+1) 0]=L.take (i+1+1):=by
    rw[akv,akw,List.take_take,Nat.min_self,ajQ (i:=i+1),ahZ,ah4 hi];rfl
   repeat'((conv=>whnf);first|intro _|apply aI|with_reducible exact vM rfl|exact⟨⟩|apply nM|apply fM)
   all_goals((try apply vM);(try simp only[vq]at*);try omega)
   all_goals(try(rw[aiG];omega))
   refine⟨[(2,5)],?_⟩
   repeat'((conv=>whnf);first|intro _|apply aI|with_reducible exact vM rfl|exact⟨⟩|apply nM|apply fM)
   all_goals((try apply vM);(try simp only[vq]at*);try omega)
   all_goals(try(rw[e2]))
def PO:LSp:=fun xs objs K=>match xs,objs with
 | [.nils,.fn (.func f) [] [.ip (.pv [.isl (.ints .i64 L) .none]) 0]],[]=>VC (f=231∧1≤L.length∧L.length≤1000000)∧K [.rsl 0 0 L.length] [.cells (.ints .i64 L) false]
 |_,_=>False
theorem abN:LOK Tryz.prog 188 PO:=by
 intro xs objs K hk;unfold PO at hk;split at hk
 ·obtain⟨⟨rfl,h⟩,hk⟩:=hk
  exact⟨_,_,hk,Dw _ h⟩
 ·exact hk.elim
def IZ:LSp:=fun xs objs K=>match xs,objs with
 | [.fn (.func f) [] [.ip (.pv [.isl (.ints .i64 L) .none]) 0]],[]=>VC (f=231∧1≤L.length∧L.length≤1000000)∧K [.rsl 0 0 L.length] [.cells (.ints .i64 L) false]
 |_,_=>False
noncomputable def ahb:CPT:=aA 188 (eO [] PO) noC
theorem abO:aW Tryz.prog ahb:=aj (dG [] abN) aC
theorem I4 (L:List Int) (hl:1≤L.length∧L.length≤1000000):jm Tryz.prog 148 [.fn (.func 231) [] [.ip (.pv [.isl (.ints .i64 L) .none]) 0]] [] [.rsl 0 0 L.length] [.cells (.ints .i64 L) false]:=by
 refine bL (md:=1) (rf:=[]) mixed au abO 0 [(0,0)] Tryz.func148 (by rfl) (by rfl) (by rfl) ?_
 repeat'((conv=>whnf);first|intro _|apply aI|with_reducible exact vM rfl|exact⟨⟩|apply nM|apply fM)
 all_goals((try apply vM);(try simp only[vq]at*);try omega)
 all_goals trace_state
theorem Wq:LOK Tryz.prog 148 IZ:=by
 intro xs objs K hk;unfold IZ at hk;split at hk
 ·obtain⟨⟨rfl,h⟩,hk⟩:=hk
  exact⟨_,_,hk,I4 _ h⟩
 ·exact hk.elim
theorem abP:COK Tryz.prog 219 sI:=Eo (enters' Tryz.func219 (by rfl) (by rfl)) Go.Proofs.Tryz.slices_Sort_int
noncomputable def ahc:CPT:=aA 148 (eO [] IZ) (aA 219 sI noC)
theorem abQ:aW Tryz.prog ahc:=aj (dG [] Wq) (aj abP aC)
theorem KI (L:List Int) (hl:1≤L.length∧L.length≤1000000):aF Tryz.prog 204 [.fn (.func 231) [] [.ip (.pv [.isl (.ints .i64 L) .none]) 0]] (.isl (.ints .i64 (bK L)) .none):=by
 have e:=jf L;refine av (md:=1) (rf:=[]) mixed au abQ Tryz.func204 (by rfl) (by rfl) (by rfl) ?_
 repeat'((conv=>whnf);first|intro _|apply aI|with_reducible exact vM rfl|exact⟨⟩|apply nM|apply fM)
 all_goals((try apply vM);(try simp only[vq]at*);try omega)
 all_goals(refine Sup.via ?_;repeat'((conv=>whnf);first|intro _|apply aI|with_reducible exact vM rfl|exact⟨⟩|apply nM|apply fM);all_goals((try apply vM);(try simp only[vq]at*);try omega);all_goals(try(simp[CL.sub];done)))
 all_goals(simp only[CL.sub,akv,akw];rw[akL (by omega)])
def Dx:PSp:=fun xs K=>match xs with
 | [.fn (.func f) [] [.ip (.pv [.isl (.ints .i64 L) .none]) 0]]=>VC (f=231∧1≤L.length∧L.length≤1000000)∧K (.isl (.ints .i64 (bK L)) .none)
 |_=>False
theorem Td:POK Tryz.prog 204 Dx:=by
 intro xs K hk;unfold Dx at hk;split at hk
 ·obtain⟨⟨rfl,h⟩,hk⟩:=hk
  exact⟨_,hk,KI _ h⟩
 ·exact hk.elim
theorem KJ (l:CL):aF Tryz.prog 205 [.isl l .none] (.fn (.func 231) [] [.ip (.pv [.isl l .none]) 0]):=by
 refine av (md:=1) (rf:=[]) mixed au aC Tryz.func205 (by rfl) (by rfl) (by rfl) ?_
 repeat'((conv=>whnf);first|intro _|apply aI|with_reducible exact vM rfl|exact⟨⟩|apply nM|apply fM)
 all_goals((try apply vM);(try simp only[vq]at*);try omega)
 all_goals exact Sup.of rfl
def Dy:PSp:=fun xs K=>match xs with
 | [.isl c .none]=>K (.fn (.func 231) [] [.ip (.pv [.isl c .none]) 0])
 |_=>False
theorem Te:POK Tryz.prog 205 Dy:=by
 intro xs K hk;unfold Dy at hk;split at hk
 ·exact⟨_,hk,KJ _⟩
 ·exact hk.elim
def lU (l:List Int):Bool:=(ahX l.length).all fun i=>decide ((bK l).getD i 0=(i:Int)+1)
theorem EI {l:List Int} (h:∀i,i<l.length→(bK l).getD i 0=(i:Int)+1):lU l=true:=ajp.2 fun i hi=>by simpa using h i (by simpa using hi)
theorem PS {l:List Int} {i:Nat} (hi:i<l.length) (hh:(bK l).getD i 0≠(i:Int)+1):lU l=false:=by
 refine Bool.eq_false_iff.2 fun e=>hh ?_;simpa using ajp.1 e i (by simpa using hi)
noncomputable def ahd:CPT:=aA 204 (aB Dx) (aA 205 (aB Dy) noC)
theorem Mq:aW Tryz.prog ahd:=aj (ak Td) (aj (ak Te) aC)
theorem PU (l:List Int) (hl:1≤l.length∧l.length≤1000000):aF Tryz.prog 167 [.isl (.ints .i64 l) .none] (.bp (lU l)):=by
 have e:=jf l;refine av (md:=1) (rf:=[]) mixed au Mq Tryz.func167 (by rfl) (by rfl) (by rfl) ?_
 repeat'((conv=>whnf);first|intro _|apply aI|with_reducible exact vM rfl|exact⟨⟩|apply nM|apply fM)
 all_goals((try apply vM);(try simp only[vq]at*);try omega)
 conv=>whnf
 refine aM (X:=Nat) (fun i=>i≤l.length∧∀j,j<i→(bK l).getD j 0=(j:Int)+1) (fun i=>[(9,.int .i64 i),(3,.any),(4,.any)]) (fun i=>[]) (fun i=>l.length-i) 0 ⟨aK,mixed,au,Mq,aP⟩ (by rfl) ⟨by omega,fun j hj=>by omega⟩ ?_ ?_
 ·repeat'((conv=>whnf);first|intro _|apply aI|with_reducible exact vM rfl|exact⟨⟩|apply nM|apply fM)
  all_goals((try apply vM);(try simp only[vq]at*);try omega)
 intro i hi;obtain⟨hi,hall⟩:=hi;by_cases hlt:i<l.length
 ·repeat'((conv=>whnf);first|intro _|apply aI|with_reducible exact vM rfl|exact⟨⟩|apply nM|apply fM)
  all_goals((try apply vM);(try simp only[vq]at*);try omega)
  ·rename_i hq
   rw[PS hlt hq];all_goals(refine Sup.via ?_;repeat'((conv=>whnf);first|intro _|apply aI|with_reducible exact vM rfl|exact⟨⟩|apply nM|apply fM);all_goals((try apply vM);(try simp only[vq]at*);try omega);all_goals(try(simp[CL.sub];done)))
  ·rename_i hq
   have hq:=aiK.1 hq;refine⟨i+1,[],⟨⟨by omega,fun j hj=>?_⟩,by omega⟩,?_⟩
   ·by_cases e:j=i
    ·subst e;exact hq
    ·exact hall j (by omega)
   repeat'((conv=>whnf);first|intro _|apply aI|with_reducible exact vM rfl|exact⟨⟩|apply nM|apply fM)
   all_goals((try apply vM);(try simp only[vq]at*);try omega)
 ·have:l.length=i:=by omega
  subst this
  repeat'((conv=>whnf);first|intro _|apply aI|with_reducible exact vM rfl|exact⟨⟩|apply nM|apply fM)
  all_goals((try apply vM);(try simp only[vq]at*);try omega)
  rw[EI hall];all_goals(refine Sup.via ?_;repeat'((conv=>whnf);first|intro _|apply aI|with_reducible exact vM rfl|exact⟨⟩|apply nM|apply fM);all_goals((try apply vM);(try simp only[vq]at*);try omega);all_goals(try(simp[CL.sub];done)))
def I5:PSp:=fun xs K=>match xs with
 | [.isl (.ints .i64 l) .none]=>VC (1≤l.length∧l.length≤1000000)∧K (.bp (lU l))
 |_=>False
theorem Ws:POK Tryz.prog 167 I5:=by
 intro xs K h;unfold I5 at h;split at h
 ·exact⟨_,h.2,PU _ h.1.get⟩
 ·exact h.elim
def cfE (l:List Int):Int:=aJ [if l.length=0 then 12 else 0,if 256<l.length then 5 else 0,uV l]
noncomputable def ahe:CPT:=aA 193 (aB pW) (aA 195 (aB fC) (aA 203 (aB uW) noC))
theorem abR:aW Tryz.prog ahe:=aj (ak rH) (aj (ak qN) (aj (ak Bt) aC))
theorem abS (l:List Int) (hl:l.length≤1000000):aF Tryz.prog 166 [.isl (.ints .i64 l) .none] (.int .i64 (cfE l)):=by
 unfold cfE;refine av (md:=1) (rf:=[]) mixed au abR Tryz.func166 (by rfl) (by rfl) (by rfl) ?_
 repeat'((conv=>whnf);first|(intro hq;(try simp only[vw]at hq);try first|exact absurd hq (by decide)|exfalso;omega)|apply aI|with_reducible exact vM rfl|exact⟨⟩|apply nM|apply fM)
 all_goals((try apply vM);(try simp only[vq]at*);try omega)
 all_goals first|omega|(refine Sup.of (congrArg (PV.int .i64) ?_);(repeat' split)<;>first|rfl|(exfalso;omega))|skip
def cfP:PSp:=fun xs K=>match xs with
 | [.isl (.ints .i64 l) .none]=>VC (l.length≤1000000)∧K (.int .i64 (cfE l))
 |_=>False
theorem afW:POK Tryz.prog 166 cfP:=by
 intro xs K h;unfold cfP at h;split at h
 ·exact⟨_,h.2,abS _ h.1.get⟩
 ·exact h.elim
noncomputable def ahf:CPT:=aA 166 (aB cfP) (aA 167 (aB I5) noC)
theorem Mr:aW Tryz.prog ahf:=aj (ak afW) (aj (ak Ws) aC)
def jy (l:List Int):Bool × Int:=if cfE l≠0 then(false,cfE l)else(lU l,0)
theorem Fj (l:List Int) (hl:l.length≤1000000):aF Tryz.prog 121 [.isl (.ints .i64 l) .none] (.tup [.bp (jy l).1,.int .i64 (jy l).2]):=by
 unfold jy;by_cases he:cfE l=0
 ·have h1:1≤l.length:=by
   by_cases e:l.length=0
   ·unfold cfE at he;rw[if_pos e]at he;simp[aJ]at he
   ·omega
  rw[if_neg (by rw[he];simp)]
  refine av (md:=1) (rf:=[]) mixed au Mr Tryz.func121 (by rfl) (by rfl) (by rfl) ?_
  repeat'((conv=>whnf);first|(intro hq;(try simp only[vw]at hq);try first|exact absurd hq (by decide)|exfalso;omega)|apply aI|with_reducible exact vM rfl|exact⟨⟩|apply nM|apply fM)
  all_goals((try apply vM);(try simp only[vq]at*);try omega)
  all_goals first|exact hl|exact⟨h1,hl⟩|exact Sup.of rfl|(exfalso;exact hq he)|skip
 ·rw[if_pos he]
  refine av (md:=1) (rf:=[]) mixed au Mr Tryz.func121 (by rfl) (by rfl) (by rfl) ?_
  repeat'((conv=>whnf);first|(intro hq;(try simp only[vw]at hq);try first|exact absurd hq (by decide)|exfalso;omega)|apply aI|with_reducible exact vM rfl|exact⟨⟩|apply nM|apply fM)
  all_goals((try apply vM);(try simp only[vq]at*);try omega)
  all_goals first|exact hl|exact aeO _ _|(exfalso;exact hq he)|skip
def xA:PSp:=fun xs K=>match xs with
 | [.isl (.ints .i64 l) .none]=>VC (l.length≤1000000)∧K (.tup [.bp (jy l).1,.int .i64 (jy l).2])
 |_=>False
theorem KL:POK Tryz.prog 121 xA:=by
 intro xs K h;unfold xA at h;split at h
 ·exact⟨_,h.2,Fj _ h.1.get⟩
 ·exact h.elim
end Go.Eng.YtcechbdgokjmgaaGreatDoor
