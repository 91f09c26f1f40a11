/- Contracts of functions of the program: what each returns. Their conditions stand in them. -/
import Init
import Derived.Laws.Externs
import Derived.Lib.Mul64
import Derived.Lib.BitFns
import Derived.Lib.ItoaNum
import Derived.Test.YtmkagljofpddpaaGreatDoorEe
open BitVec renaming ofInt→akO,testBit_toNat→am8
open Bool renaming or_comm→anz
open Int renaming toNat_natCast→amI,natCast_emod→amR,emod_add_ediv_mul→amS,eq_ofNat_of_zero_le→am4,toNat→ana,natCast_mul→anb,natCast_add→anc,natAbs→anh,not_le→ank,natAbs_neg→anl,neg_neg→anm,mul_neg→ano,natCast_ediv→anp,ediv_emod_unique→anH,mul_sub→anI,tmod_lt_of_pos→anJ
open List renaming length_cons→akq,length_eq_zero_iff→alY,range→akE,getD_eq_getElem?_getD→akG,ext_getElem→amC,getElem?_eq_getElem→akL,getElem?_eq_none→amD,replicate→akP,map_congr_left→amE,mem_range→amn,getElem_set→amF,getElem_map→amG,getElem_range→amH,take_length→amJ,mem_of_find?_eq_some→am0,find?_eq_some_iff_getElem→am2,find?_eq_none→am3,getElem?_set→ak1,length_set→ak3,length_pos_iff→anj,take→anF,drop→anG
open Nat renaming div_lt_self→amv,div_div_eq_div_mul→amw,pow_succ→amx,mul_comm→akT,div_lt_iff_lt_mul→ala,le_div_iff_mul_le→ald,pow_lt_pow_iff_right→amy,add_sub_cancel→amA,pow_pos→amB,mod_eq_of_lt→akX,div_eq_of_lt→akV,add_assoc→akr,le_refl→aku,div_add_mod→alb,pow_add→amK,mod_mul_right_div_self→amL,div_le_div_right→amM,pow_le_pow_right→amN,mod_one→alg,mod_lt→alc,add_mul_div_right→amO,add_mod→amP,mod_mod→amQ,add_mul_mod_self_right→amT,mul_le_mul→alE,mul_le_mul_left→amU,mul_lt_mul_of_pos_right→amV,pos_of_ne_zero→ak9,mul_mod_mul_right→amW,mul_le_mul_right→ak6,add_mul→ak7,le_mul_of_pos_right→alv,zero_add→akS,mul_mod→amX,mul_assoc→amY,zero_le→alq,mul_pos→amZ,le_of_lt→am1,mul_one→akZ,lt_of_lt_of_le→akv,add_comm→am5,lt_of_le_of_lt→am6,eq_of_testBit_eq→am7,testBit_lt_two_pow→am9,div_eq_zero_iff_lt→ane,mul_lt_mul_of_lt_of_lt→anf,pow_zero→ang,zero_mul→alu,pow_one→ani,le_trans→aky,le_of_not_lt→anq,add_zero→akn,mul_div_cancel→alR,div_le_self→anr,mul_lt_mul_of_pos_left→ant,shiftLeft_add_eq_or_of_lt→anu,shiftLeft_eq→anv,testBit_or→anw,div_mul_le_self→anx,lt_mul_div_succ→anA,div_add_mod'→anB,one_mul→ak8,le_mul_of_pos_left→anC,div_one→alf,lt_trans→anD,cast→anE,mod_le→anK,gcd→anL,gcd_comm→anM
namespace Go.Eng
theorem aj {p:Prop} (h:p:=by first|with_reducible exact vM rfl|exact⟨⟩):p:=h
theorem ak {p q:Prop} (h:p) (z:¬p:=by first|decide|omega):q:=(z h).elim
theorem aW {p:Prop} (h:p:=by
 repeat'((conv=>whnf);first|intro _|apply aI|exact aj|apply nM|apply fM)
 all_goals((try apply vM);(try simp only[vq]at*);try omega)):p:=h
theorem eU {p:Prop} (h:p:=by
 repeat'((conv=>whnf);first|intro _|apply aI|exact aj|apply nM|apply fM)
 all_goals((try apply vM);(try simp only[vq]at*);try omega)
 all_goals exact fun _ _=>trivial):p:=h
theorem iq {p:Prop} (h:p:=by
 repeat'((conv=>whnf);first|(intro hq;(try simp only[vw]at hq);try exact ak hq)|apply aI|exact aj|apply nM|apply fM)
 all_goals((try apply vM);(try simp only[vq]at*);try omega)
 all_goals first|exact Sup.of rfl|trace_state):p:=h
theorem jy {p:Prop} (h:p:=by
 repeat'((conv=>whnf);first|(intro hq;(try simp only[vw]at hq);try exact ak hq)|apply aI|exact aj|apply nM|apply fM)
 all_goals((try apply vM);(try simp only[vq]at*);try omega)
 all_goals first|omega|exact kE rfl|exact Sup.of rfl|trace_state):p:=h
theorem jT {p:Prop} (h:p:=by
 repeat'((conv=>whnf);first|intro _|apply aI|exact aj|apply nM|apply fM)
 all_goals((try apply vM);(try simp only[vq]at*);try omega)
 all_goals first|rfl|trace_state):p:=h
theorem mR {p:Prop} (h:p:=by
 repeat'((conv=>whnf);first|intro _|apply aI|exact aj|apply nM|apply fM)
 all_goals((try apply vM);(try simp only[vq]at*);try omega)
 all_goals trace_state):p:=h
theorem mU {p:Prop} (h:p:=by
 repeat'((conv=>whnf);first|(intro hq;(try simp only[vw]at hq);try exact ak hq)|apply aI|exact aj|apply nM|apply fM)
 all_goals((try apply vM);(try simp only[vq]at*);try omega)
 all_goals first
  |exact b64 _ qqO
  |exact Jg _
  |(rw[F4,c6 qqO,R3,U0,hs2,R2];exact Sup.of rfl)
  |(refine⟨t-1,[],⟨hnext qqO,qqO⟩,?_⟩;rw[F3,F4,c5];repeat'((conv=>whnf);first|intro _|apply aI|exact aj|apply nM|apply fM);all_goals((try apply vM);(try simp only[vq]at*);try omega))):p:=h
theorem pU {p:Prop} (h:p:=by
 repeat'((conv=>whnf);first|(intro hq;(try simp only[vw]at hq);try exact ak hq)|apply aI|exact aj|apply nM|apply fM)
 all_goals((try apply vM);(try simp only[vq]at*);try omega)
 all_goals first|omega|exact Sup.of rfl|trace_state):p:=h
theorem pV {p:Prop} (h:p:=by
 repeat'((conv=>whnf);first|intro _|apply aI|exact aj|apply nM|apply fM)
 all_goals((try apply vM);(try simp only[vq]at*);try omega)
 all_goals first|exact fun _ _=>trivial|exact⟨fun _ _=>trivial,fun _ _ _=>trivial⟩|trace_state):p:=h
theorem pW {p:Prop} (h:p:=by
 repeat'((conv=>whnf);first|intro _|apply aI|exact aj|apply nM|apply fM)
 all_goals((try apply vM);(try simp only[vq]at*);try omega)
 all_goals first|exact fun _ _=>trivial|rfl|trace_state):p:=h
theorem qN {p:Prop} (h:p:=by
 repeat'((conv=>whnf);first|(intro hq;(try simp only[vw]at hq);try exact ak hq)|apply aI|exact aj|apply nM|apply fM)
 all_goals((try apply vM);(try simp only[vq]at*);try omega)
 all_goals(try simp only[ea,eb,dI,XC,XF])
 all_goals first
  |exact na
  |exact nb
  |exact⟨ha,hb,hLa,hLb⟩
  |exact adw _ _
  |exact Sup.of rfl
  |(refine Sup.of ?_;unfold mX;simp only[es,et,dX];first|rw[if_pos qqO]|rw[if_neg qqO,if_pos qqO]|rw[if_neg qqO,if_neg qqO])
  |trace_state):p:=h
theorem qO {p:Prop} (h:p:=by
 repeat'((conv=>whnf);first|(intro hq;(try simp only[vw]at hq);try exact ak hq)|apply aI|exact aj|apply nM|apply fM)
 all_goals((try apply vM);(try simp only[vq]at*);try omega)
 all_goals(try simp only[ea,eb,dM,dI])
 all_goals(try simp only[ea,eb,xW W2,dI]at hq)
 all_goals first
  |exact na
  |exact nb
  |exact ha
  |exact hb
  |omega
  |exact⟨bV _,bV _,qqO,qqO,hne⟩
  |exact⟨bV _,L3⟩
  |exact⟨bV _,L4⟩
  |exact BF _ _
  |exact⟨BF _ _,Dz,L5,L6⟩
  |exact⟨BF _ _,hb,L7,hLb⟩
  |(obtain⟨e1,e2⟩:=E1 hq;rw[←e1,←e2];exact Sup.of rfl)
  |(obtain⟨e1,e2⟩:=E2 hq;rw[←e1,←e2];exact Sup.of rfl)
  |trace_state):p:=h
theorem qP {p:Prop} (h:p:=by
 repeat'((conv=>whnf);first|(intro hq;(try simp only[vw]at hq);try exact ak hq)|apply aI|exact aj|apply nM|apply fM)
 all_goals((try apply vM);(try simp only[vq]at*);try omega)
 all_goals first|rfl|exact Sup.of rfl|trace_state):p:=h
theorem qQ {p:Prop} (h:p:=by
 repeat'((conv=>whnf);first|(intro hq;(try simp only[vw]at hq);try exact ak hq)|apply aI|exact aj|apply nM|apply fM)
 all_goals((try apply vM);(try simp only[vq]at*);try omega)
 all_goals(try simp only[cO])
 all_goals first|exact h|exact Sup.of rfl|trace_state):p:=h
theorem qR {p:Prop} (h:p:=by
 repeat'((conv=>whnf);first|intro _|apply aI|exact aj|apply nM|apply fM)
 all_goals((try apply vM);(try simp only[vq]at*);try omega)
 all_goals first|exact⟨rfl,lS _ _⟩|exact lS _ _|exact fun _ _=>trivial|exact⟨fun _ _=>trivial,fun _ _ _=>trivial⟩|trace_state):p:=h
theorem qU {p:Prop} (h:p:=by
 repeat'((conv=>whnf);first|(intro hq;(try simp only[vw]at hq);try exact ak hq)|apply aI|exact aj|apply nM|apply fM)
 all_goals((try apply vM);(try simp only[vq]at*);try omega)
 all_goals first|exact Sup.of rfl|exact kE rfl|(exfalso;omega)|trace_state):p:=h
theorem vZ {p:Prop} (h:p:=by
 repeat'((conv=>whnf);first|(intro hq;(try simp only[vw]at hq);try exact ak hq)|apply aI|exact aj|apply nM|apply fM)
 all_goals((try apply vM);(try simp only[vq]at*);try omega)
 all_goals exact Sup.of rfl):p:=h
theorem wm {p:Prop} (h:p:=by
 repeat'((conv=>whnf);first|(intro hq;(try simp only[vw]at hq);try exact ak hq)|apply aI|exact aj|apply nM|apply fM)
 all_goals((try apply vM);(try simp only[vq]at*);try omega)
 exact Sup.of rfl):p:=h
theorem wo {p:Prop} (h:p:=by
 repeat'((conv=>whnf);first|(intro hq;(try simp only[vw]at hq);try exact ak hq)|apply aI|exact aj|apply nM|apply fM)
 all_goals((try apply vM);(try simp only[vq]at*);try omega)
 all_goals(try simp only[ea,eb,dM])
 all_goals first
  |exact na
  |exact nb
  |exact ha
  |exact hb
  |omega
  |exact⟨bV _,bV _,qqO,qqO⟩
  |exact⟨bV _,L3⟩
  |(rw[←E];exact Sup.of rfl)
  |trace_state):p:=h
theorem wz {p:Prop} (h:p:=by
 repeat'((conv=>whnf);first|(intro hq;(try simp only[vw]at hq);try exact ak hq)|apply aI|exact aj|apply nM|apply fM)
 all_goals((try apply vM);(try simp only[vq]at*);try omega)
 all_goals first
  |exact b64 _ qqO
  |exact Jg _
  |(rw[R3,U0,hs2,R2];exact Sup.of rfl)):p:=h
theorem wB {p:Prop} (h:p:=by
 repeat'((conv=>whnf);first|(intro hq;(try simp only[vw]at hq);try exact ak hq)|apply aI|exact aj|apply nM|apply fM)
 all_goals((try apply vM);(try simp only[vq]at*);try omega)
 all_goals(refine Sup.via ?_;repeat'((conv=>whnf);first|intro _|apply aI|exact aj|apply nM|apply fM);all_goals((try apply vM);(try simp only[vq]at*);try omega))):p:=h
theorem wC {p:Prop} (h:p:=by
 repeat'((conv=>whnf);first|(intro hq;(try simp only[vw]at hq);try exact ak hq)|apply aI|exact aj|apply nM|apply fM)
 all_goals((try apply vM);(try simp only[vq]at*);try omega)
 all_goals first|exact Sup.of rfl|omega|trace_state):p:=h
theorem wD {p:Prop} (h:p:=by
 repeat'((conv=>whnf);first|(intro hq;(try simp only[vw]at hq);try exact ak hq)|apply aI|exact aj|apply nM|apply fM)
 all_goals((try apply vM);(try simp only[vq]at*);try omega)
 all_goals(try simp only[e])
 all_goals first|omega|(rw[←e];exact Sup.of rfl)|exact Sup.of rfl|trace_state):p:=h
theorem wE {p:Prop} (h:p:=by
 repeat'((conv=>whnf);first|intro _|apply aI|exact aj|apply nM|apply fM)
 all_goals((try apply vM);(try simp only[vq]at*);try omega)
 all_goals first|exact fun _ _=>trivial|trace_state):p:=h
theorem EH {p:Prop} (h:p:=by
 repeat'((conv=>whnf);first|intro _|apply aI|exact aj|apply nM|apply fM)
 all_goals((try apply vM);(try simp only[vq]at*);try omega)
 ·rw[ME];rfl
 ·exact TJ _ _ _ qqO):p:=h
theorem EI {p:Prop} (h:p:=by
 repeat'((conv=>whnf);first|(intro hq;(try simp only[vw]at hq);try exact ak hq)|apply aI|exact aj|apply nM|apply fM)
 all_goals((try apply vM);(try simp only[vq]at*);try omega)
 all_goals first
  |(rw[hm];omega)
  |(refine⟨qqO,qqO,qqO,qqO⟩)
  |(first|rw[hA,hB]|rw[hA0 qqO,hB0 qqO]
    rw[pX qqO rfl];refine⟨i+1,[],⟨qqO,qqO⟩,?_⟩;rw[show((i+1:Nat):Int)=(i:Int)+1 by omega]
    repeat'((conv=>whnf);first|intro _|apply aI|exact aj|apply nM|apply fM)
    all_goals((try apply vM);(try simp only[vq]at*);try omega)
    all_goals skip)):p:=h
theorem EJ {p:Prop} (h:p:=by
 repeat'((conv=>whnf);first|(intro hq;(try simp only[vw]at hq);try exact ak hq)|apply aI|exact aj|apply nM|apply fM)
 all_goals((try apply vM);(try simp only[vq]at*);try omega)
 all_goals(try exact Sup.of rfl)):p:=h
theorem EK {p:Prop} (h:p:=by
 repeat'((conv=>whnf);first|intro _|apply aI|exact aj|apply nM|apply fM)
 all_goals((try apply vM);(try simp only[vq]at*);try omega)
 all_goals exact Sup.of rfl):p:=h
theorem EL {p:Prop} (h:p:=by
 repeat'((conv=>whnf);first|(intro hq;(try simp only[vw]at hq);try exact ak hq)|apply aI|exact aj|apply nM|apply fM)
 all_goals((try apply vM);(try simp only[vq]at*);try omega)
 all_goals(try simp only[hc0])
 all_goals first
  |(rw[ByteArray.size_append];omega)
  |exact Sup.of rfl
  |trace_state):p:=h
theorem EM {p:Prop} (h:p:=by
 repeat'((conv=>whnf);first|(intro hq;(try simp only[vw]at hq);try exact ak hq)|apply aI|exact aj|apply nM|apply fM)
 all_goals((try apply vM);(try simp only[vq]at*);try omega)
 all_goals first|omega|exact⟨qqO,h4⟩|exact Sup.of rfl|(exfalso;simp_all;done)|trace_state):p:=h
theorem EN {p:Prop} (h:p:=by
 repeat'((conv=>whnf);first|intro _|apply aI|exact aj|apply nM|apply fM)
 all_goals((try apply vM);(try simp only[vq]at*);try omega)
 ·intro b hb
  refine funext fun j=>congrArg frC ?_;rw[if_neg qqO]):p:=h
theorem EO {p:Prop} (h:p:=by
 repeat'((conv=>whnf);first|intro _|apply aI|exact aj|apply nM|apply fM)
 all_goals((try apply vM);(try simp only[vq]at*);try omega)
 ·intro b hb
  refine kI fun j hj=>?_;rw[if_neg qqO]):p:=h
theorem EP {p:Prop} (h:p:=by
 repeat'((conv=>whnf);first|(intro hq;(try simp only[vw]at hq);try exact ak hq)|apply aI|exact aj|apply nM|apply fM)
 all_goals((try apply vM);(try simp only[vq]at*);try omega)
 all_goals first
  |(refine⟨c+1,[],⟨qqO,qqO⟩,?_⟩
    repeat'((conv=>whnf);first|intro _|apply aI|exact aj|apply nM|apply fM)
    all_goals((try apply vM);(try simp only[vq]at*);try omega)
    all_goals skip)
  |trace_state):p:=h
theorem ER {p:Prop} (h:p:=by
 repeat'((conv=>whnf);first|(intro hq;(try simp only[vw]at hq);try exact ak hq)|apply aI|exact aj|apply nM|apply fM)
 all_goals((try apply vM);(try simp only[vq]at*);try omega)
 all_goals first
  |(refine⟨c+1,[],⟨qqO,qqO⟩,?_⟩
    rw[hn']
    repeat'((conv=>whnf);first|intro _|apply aI|exact aj|apply nM|apply fM)
    all_goals((try apply vM);(try simp only[vq]at*);try omega)
    all_goals exact fun _ _=>trivial)
  |(rw[hP];omega)
  |contradiction
  |trace_state):p:=h
theorem ET {p:Prop} (h:p:=by
 repeat'((conv=>whnf);first|(intro hq;(try simp only[vw]at hq);try exact ak hq)|apply aI|exact aj|apply nM|apply fM)
 all_goals((try apply vM);(try simp only[vq]at*);try omega)
 all_goals first
  |exact fC _ _
  |exact .inr trivial
  |(refine⟨c+1,[(17,7)],⟨qqO,qqO⟩,?_⟩
    rw[hn']
    repeat'((conv=>whnf);first|intro _|apply aI|exact aj|apply nM|apply fM)
    all_goals((try apply vM);(try simp only[vq]at*);try omega)
    all_goals first
     |exact fun _ _=>trivial
     |exact⟨fun k _=>by split<;>rfl,fun k hk _=>by
      split
      ·rfl
      ·rw[show k=n+1 by omega]
       show _=CL.ints _ (cu w (fu (Fp p) 0 1 S ((bK S.piv w).getD (n+1) 0) S.piv.length));rw[hlast]⟩
     |exact⟨fun _ _=>trivial,fun k hk _=>by
      rw[show k=0 by omega]
      show _=CL.ints _ (cu w (fu (Fp p) 0 1 S ((bK S.piv w).getD 0 0) S.piv.length));rw[hlast]⟩
     )
  |(show _≤_;omega)
  |trace_state):p:=h
theorem aiT {p:Prop} (h:p:=by
 repeat'((conv=>whnf);first|intro _|apply aI|exact aj|apply nM|apply fM)
 all_goals((try apply vM);(try simp only[vq]at*);try omega)
 all_goals first
  |exact fun _ _=>trivial
  |exact⟨fun k _=>by split<;>rfl,fun k hk _=>by
   split
   ·rfl
   ·rw[show k=n+1 by omega]
    show _=CL.ints _ (cu w (fu (Fp p) 0 1 S ((bK S.piv w).getD (n+1) 0) S.piv.length));rw[hlast]⟩
  |exact⟨fun _ _=>trivial,fun k hk _=>by
   rw[show k=0 by omega]
   show _=CL.ints _ (cu w (fu (Fp p) 0 1 S ((bK S.piv w).getD 0 0) S.piv.length));rw[hlast]⟩
  |trace_state):p:=h
theorem EU {p:Prop} (h:p:=by
 repeat'((conv=>whnf);first|(intro hq;(try simp only[vw]at hq);try exact ak hq)|apply aI|exact aj|apply nM|apply fM)
 all_goals((try apply vM);(try simp only[vq]at*);try omega)
 all_goals first|exact⟨hl,hnd,fun _ h=>h⟩|exact fun _ _=>trivial|trace_state):p:=h
theorem EW {p:Prop} (h:p:=by
 repeat'((conv=>whnf);first|intro _|apply aI|exact aj|apply nM|apply fM)
 all_goals((try apply vM);(try simp only[vq]at*);try omega)
 all_goals first|exact lS _ _|exact fun _ _=>trivial|exact⟨fun _ _=>trivial,fun _ _ _=>trivial⟩|trace_state):p:=h
theorem EX {p:Prop} (h:p:=by
 repeat'((conv=>whnf);first|(intro hq;(try simp only[vw]at hq);try exact ak hq)|apply aI|exact aj|apply nM|apply fM)
 all_goals((try apply vM);(try simp only[vq]at*);try omega)
 all_goals first
  |exact iE _ _
  |exact lS _ _
  |exact .inr trivial
  |(refine⟨c+1,[(17,7)],⟨qqO,qqO⟩,?_⟩
    rw[hn']
    repeat'((conv=>whnf);first|intro _|apply aI|exact aj|apply nM|apply fM)
    all_goals((try apply vM);(try simp only[vq]at*);try omega)
    all_goals first
     |exact fun _ _=>trivial
     |exact⟨fun k _=>by split<;>rfl,fun k hk _=>by
      split
      ·rfl
      ·rw[show k=n+1 by omega]
       show _=CL.recs _ (rfL w (fu Ff zFr oFr S ((bK S.piv w).getD (n+1) 0) S.piv.length));rw[hlast]⟩
     |exact⟨fun _ _=>trivial,fun k hk _=>by
      rw[show k=0 by omega]
      show _=CL.recs _ (rfL w (fu Ff zFr oFr S ((bK S.piv w).getD 0 0) S.piv.length));rw[hlast]⟩
     )
  |(show _≤_;omega)
  |trace_state):p:=h
theorem aiU {p:Prop} (h:p:=by
 repeat'((conv=>whnf);first|intro _|apply aI|exact aj|apply nM|apply fM)
 all_goals((try apply vM);(try simp only[vq]at*);try omega)
 all_goals first
  |exact fun _ _=>trivial
  |exact⟨fun k _=>by split<;>rfl,fun k hk _=>by
   split
   ·rfl
   ·rw[show k=n+1 by omega]
    show _=CL.recs _ (rfL w (fu Ff zFr oFr S ((bK S.piv w).getD (n+1) 0) S.piv.length));rw[hlast]⟩
  |exact⟨fun _ _=>trivial,fun k hk _=>by
   rw[show k=0 by omega]
   show _=CL.recs _ (rfL w (fu Ff zFr oFr S ((bK S.piv w).getD 0 0) S.piv.length));rw[hlast]⟩
  |trace_state):p:=h
theorem EY {p:Prop} (h:p:=by
 repeat'((conv=>whnf);first|intro _|apply aI|exact aj|apply nM|apply fM)
 all_goals((try apply vM);(try simp only[vq]at*);try omega)
 all_goals first|rfl|exact fun _ _=>trivial|skip):p:=h
theorem EZ {p:Prop} (h:p:=by
 repeat'((conv=>whnf);first|intro _|apply aI|exact aj|apply nM|apply fM)
 all_goals((try apply vM);(try simp only[vq]at*);try omega)
 all_goals first|exact congrArg CL.pv e3|exact e3|skip):p:=h
theorem E5 {p:Prop} (h:p:=by
 repeat'((conv=>whnf);first|intro _|apply aI|exact aj|apply nM|apply fM)
 all_goals((try apply vM);(try simp only[vq]at*);try omega)
 all_goals first|exact⟨fun _ _=>trivial,fun _ _ _=>trivial⟩|trace_state):p:=h
theorem Fa {p:Prop} (h:p:=by
 repeat'((conv=>whnf);first|(intro hq;(try simp only[vw]at hq);try exact ak hq)|apply aI|exact aj|apply nM|apply fM)
 all_goals((try apply vM);(try simp only[vq]at*);try omega)
 all_goals first
  |exact⟨hp,hst⟩
  |(exfalso;omega)
  |(refine⟨1,[(24,6)],⟨qqO,qqO⟩,?_⟩
    repeat'((conv=>whnf);first|intro _|apply aI|exact aj|apply nM|apply fM)
    all_goals((try apply vM);(try simp only[vq]at*);try omega)
    all_goals first|rfl|exact⟨fun _ _=>trivial,fun _ _ _=>trivial⟩)
  |trace_state):p:=h
theorem aiV {p:Prop} (h:p:=by
 repeat'((conv=>whnf);first|intro _|apply aI|exact aj|apply nM|apply fM)
 all_goals((try apply vM);(try simp only[vq]at*);try omega)
 all_goals first|rfl|exact⟨fun _ _=>trivial,fun _ _ _=>trivial⟩|trace_state):p:=h
theorem Fb {p:Prop} (h:p:=by
 repeat'((conv=>whnf);first|(intro hq;(try simp only[vw]at hq);try exact ak hq)|apply aI|exact aj|apply nM|apply fM)
 all_goals((try apply vM);(try simp only[vq]at*);try omega)
 all_goals first
  |exact⟨hp,hst⟩
  |(rw[fC];omega)
  |(refine⟨t+2,[(24,6)],⟨qqO,qqO⟩,?_⟩
    repeat'((conv=>whnf);first|intro _|apply aI|exact aj|apply nM|apply fM)
    all_goals((try apply vM);(try simp only[vq]at*);try omega)
    all_goals first|exact hml|exact⟨fun _ _=>trivial,fun _ _ _=>trivial⟩)
  |trace_state):p:=h
theorem aiW {p:Prop} (h:p:=by
 repeat'((conv=>whnf);first|intro _|apply aI|exact aj|apply nM|apply fM)
 all_goals((try apply vM);(try simp only[vq]at*);try omega)
 all_goals first|exact hml|exact⟨fun _ _=>trivial,fun _ _ _=>trivial⟩|trace_state):p:=h
theorem Fe {p:Prop} (h:p:=by
 repeat'((conv=>whnf);first|(intro hq;(try simp only[vw]at hq);try exact ak hq)|apply aI|exact aj|apply nM|apply fM)
 all_goals((try apply vM);(try simp only[vq]at*);try omega)
 all_goals first
  |omega
  |contradiction
  |(refine⟨i+1,[],⟨⟨qqO,fun j hj=>by
     by_cases e:j=i
     ·subst e;exact he
     ·exact h2' () j qqO⟩,qqO⟩,?_⟩
    repeat'((conv=>whnf);first|intro _|apply aI|exact aj|apply nM|apply fM)
    all_goals((try apply vM);(try simp only[vq]at*);try omega)
    all_goals skip)
  |trace_state):p:=h
theorem Fg {p:Prop} (h:p:=by
 repeat'((conv=>whnf);first|(intro hq;(try simp only[vw]at hq);try exact ak hq)|apply aI|exact aj|apply nM|apply fM)
 all_goals((try apply vM);(try simp only[vq]at*);try omega)
 all_goals first|omega|exact kE rfl|exact Sup.of rfl|contradiction|trace_state):p:=h
theorem Fh {p:Prop} (h:p:=by
 repeat'((conv=>whnf);first|(intro hq;(try simp only[vw]at hq);try exact ak hq)|apply aI|exact aj|apply nM|apply fM)
 all_goals((try apply vM);(try simp only[vq]at*);try omega)
 all_goals first
  |omega
  |contradiction
  |(refine⟨i+1,[],⟨⟨qqO,fun j hj=>by
     by_cases e:j=i
     ·subst e;exact he
     ·exact h2' () j qqO⟩,qqO⟩,?_⟩
    repeat'((conv=>whnf);first|intro _|apply aI|exact aj|apply nM|apply fM)
    all_goals((try apply vM);(try simp only[vq]at*);try omega)
    all_goals skip)
  |(exfalso;simp_all;done)
  |trace_state):p:=h
theorem Fj {p:Prop} (h:p:=by
 repeat'((conv=>whnf);first|(intro hq;(try simp only[vw]at hq);try exact ak hq)|apply aI|exact aj|apply nM|apply fM)
 all_goals((try apply vM);(try simp only[vq]at*);try omega)
 all_goals first|omega|exact kE rfl|exact Sup.of rfl|contradiction|(exfalso;simp_all;done)|trace_state):p:=h
theorem Fu {p:Prop} (h:p:=by
 repeat'((conv=>whnf);first|intro _|apply aI|exact aj|apply nM|apply fM)
 all_goals((try apply vM);(try simp only[vq]at*);try omega)
 all_goals exact Ri p):p:=h
theorem Fv {p:Prop} (h:p:=by
 repeat'((conv=>whnf);first|(intro hq;(try simp only[vw]at hq);try exact ak hq)|apply aI|exact aj|apply nM|apply fM)
 all_goals((try apply vM);(try simp only[vq]at*);try omega)
 all_goals(try(rw[hsl];omega))
 ·rw[eA qqO,decide_eq_true_eq]at hq
  refine Sup.of (congrArg (PV.int .i64) (fin _ ?_ qqO).symm);rw[eS,if_pos (.inr (.inr hq))]
 ·rw[eA qqO,decide_eq_false_iff_not]at hq
  refine⟨i+1,[],⟨⟨qqO,fun j hj=>?_⟩,qqO⟩,?_⟩
  ·by_cases e:j=i
   ·subst e;rw[eS,if_neg (by rintro(h|h|h);omega;omega;exact hq h)]
   ·exact hok j qqO
  repeat'((conv=>whnf);first|intro _|apply aI|exact aj|apply nM|apply fM)
  all_goals((try apply vM);(try simp only[vq]at*);try omega)
  all_goals exact BS p i hlt qqO
 ·refine Sup.of (congrArg (PV.int .i64) (fin _ ?_ qqO).symm)
  rw[eS,if_pos (.inr (.inl hq))]
 ·refine Sup.of (congrArg (PV.int .i64) (fin _ ?_ qqO).symm)
  rw[eS,if_pos (.inl hq)]):p:=h
theorem aiX {p:Prop} (h:p:=by
 repeat'((conv=>whnf);first|intro _|apply aI|exact aj|apply nM|apply fM)
 all_goals((try apply vM);(try simp only[vq]at*);try omega)
 all_goals exact BS p i hlt qqO):p:=h
theorem Fx {p:Prop} (h:p:=by
 repeat'((conv=>whnf);first|intro _|apply aI|exact aj|apply nM|apply fM)
 all_goals((try apply vM);(try simp only[vq]at*);try omega)
 all_goals first|rfl|skip):p:=h
theorem Fy {p:Prop} (h:p:=by
 repeat'((conv=>whnf);first|(intro hq;(try simp only[vw]at hq);try exact ak hq)|apply aI|exact aj|apply nM|apply fM)
 all_goals((try apply vM);(try simp only[vq]at*);try omega)
 all_goals first|(exfalso;contradiction)|exact VK _ _|trace_state):p:=h
theorem Fz {p:Prop} (h:p:=by
 repeat'((conv=>whnf);first|intro _|apply aI|exact aj|apply nM|apply fM)
 all_goals((try apply vM);(try simp only[vq]at*);try omega)
 all_goals first|omega|trace_state):p:=h
end Go.Eng
namespace Go.Eng.Dig
set_option linter.unusedSimpArgs false
set_option linter.unusedVariables false
def dlF (B:Nat):Nat→Nat→List Int
 |0,_=>[]
 |f+1,x=>if x=0 then []else((x % B:Nat):Int)::dlF B f (x / B)
def dl (B x:Nat):List Int:=dlF B x x
theorem agD {B:Nat} (hB:2≤B):∀(f g x:Nat),x≤f→x≤g→dlF B f x=dlF B g x:=by
 intro f;induction f with
 |zero=>
  intro g x hf hg;have:x=0:=qqO;subst this;cases g<;>simp[dlF]
 |succ f ih=>
  intro g x hf hg;cases g with
  |zero=>
   have:x=0:=qqO;subst this;simp[dlF]
  |succ g=>
   simp only[dlF];split
   ·rfl
   ·have:=amv (n:=x) (k:=B) qqO qqO
    rw[ih g (x / B) qqO qqO]
theorem lD (B:Nat):dl B 0=[]:=rfl
theorem wF {B x:Nat} (hB:2≤B) (hx:x≠0):dl B x=((x % B:Nat):Int)::dl B (x / B):=by
 unfold dl;have h:=amv (n:=x) (k:=B) qqO qqO;obtain⟨f,rfl⟩:∃f,x=f+1:=⟨x-1,qqO⟩;rw[dlF,if_neg qqO,agD hB f ((f+1) / B) ((f+1) / B) qqO qqO]
theorem Bu {B:Nat} (hB:2≤B) {P:Nat→Prop} (h0:P 0) (h:∀x,x≠0→P (x / B)→P x) (x:Nat):P x:=by
 induction x using Nat.strongRecOn with
 |ind x ih=>
  by_cases hx:x=0
  ·subst hx;exact h0
  ·exact h x hx (ih _ (amv qqO qqO))
theorem dz {B:Nat} (hB:2≤B) (x:Nat):∀i,(dl B x).getD i 0=((x / B ^ i % B:Nat):Int):=by
 refine Bu hB (P:=fun x=>∀i,(dl B x).getD i 0=((x / B ^ i % B:Nat):Int)) ?_ ?_ x
 ·intro i;simp[lD]
 ·intro x hx ih i
  rw[wF hB hx];cases i with
  |zero=>simp
  |succ i=>rw[List.getD_cons_succ,ih,amw,amx,akT]
theorem fP {B:Nat} (hB:2≤B) (x:Nat):x<B ^ (dl B x).length:=by
 refine Bu hB (P:=fun x=>x<B ^ (dl B x).length) ?_ ?_ x
 ·simp[lD]
 ·intro x hx ih
  rw[wF hB hx,akq,amx];exact(ala qqO).1 ih
theorem qV {B:Nat} (hB:2≤B) (x:Nat):∀k,(dl B x).length=k+1→B ^ k≤x:=by
 refine Bu hB (P:=fun x=>∀k,(dl B x).length=k+1→B ^ k≤x) ?_ ?_ x
 ·intro k h;simp[lD]at h
 ·intro x hx ih k h
  rw[wF hB hx,akq]at h;cases k with
  |zero=>simp;omega
  |succ k=>
   have:=ih k qqO;rw[amx];exact(ald qqO).1 this
theorem lF {B:Nat} (hB:2≤B) {x k:Nat} (h:x<B ^ k):(dl B x).length≤k:=by
 cases e:(dl B x).length with
 |zero=>omega
 |succ n=>
  have h1:=qV hB x n e;have:B ^ n<B ^ k:=qqO;have:=(amy (by omega:1<B)).1 this
  omega
theorem wG {B:Nat} (hB:2≤B) {x k:Nat} (h:B ^ k≤x):k<(dl B x).length:=by
 have h1:=fP hB x;have:B ^ k<B ^ (dl B x).length:=qqO;exact(amy (by omega:1<B)).1 this
theorem gL {B:Nat} (hB:2≤B) {x:Nat}:dl B x=[]↔x=0:=by
 constructor
 ·intro h
  have:=fP hB x;rw[h]at this;simpa using this
 ·rintro rfl;rfl
theorem agE {B:Nat} (hB:2≤B) {x:Nat} (hx:x≠0):(dl B x).getD ((dl B x).length-1) 0≠0:=by
 have hne:(dl B x).length≠0:=fun h=>hx ((gL hB).1 (alY.1 h));obtain⟨k,hk⟩:∃k,(dl B x).length=k+1:=⟨(dl B x).length-1,qqO⟩;have h1:=qV hB x k hk;have h2:=fP hB x;rw[hk,amx]at h2;rw[hk,amA,dz hB];have hp:0<B ^ k:=amB qqO;have h3:1≤x / B ^ k:=(ald hp).2 qqO;have h4:x / B ^ k<B:=(ala hp).2 (by rw[akT];exact h2)
 rw[akX h4];omega
theorem nR {B:Nat} (hB:2≤B) {x:Nat} (h0:x≠0) (h:x<B):dl B x=[(x:Int)]:=by
 rw[wF hB h0,akX h,akV h,lD]
def dn (B n x:Nat):List Int:=(akE n).map fun i=>((x / B ^ i % B:Nat):Int)
theorem fQ (B n x:Nat):(dn B n x).length=n:=by simp[dn]
theorem Df (B n x i:Nat) (h:i<n):(dn B n x).getD i 0=((x / B ^ i % B:Nat):Int):=by
 simp[dn,akG,h]
theorem adl {B:Nat} (hB:2≤B) {n x:Nat} (h:x<B ^ n):(dn B n x).take (dl B x).length=dl B x:=by
 have hl:=lF hB h;apply amC
 ·simp[fQ];omega
 ·intro i h1 h2
  have e:=dz hB x i;rw[akG,akL h2,Option.getD_some]at e;rw[e];simp[dn]
theorem Gm {B:Nat} (hB:2≤B) {n x i:Nat} (hi:(dl B x).length≤i) (hn:i<n):(dn B n x).getD i 0=0:=by
 rw[Df B n x i hn,←dz hB x i,akG,amD hi];rfl
theorem rQ (B n:Nat):dn B n 0=akP n 0:=by
 apply amC
 ·simp[fQ]
 ·intro i h1 h2;simp[dn]
def dm (B n i x z:Nat):List Int:=(akE n).map fun k=>if k<i then((x / B ^ k % B:Nat):Int)else((z / B ^ k % B:Nat):Int)
theorem jU (B n i x z:Nat):(dm B n i x z).length=n:=by simp[dm]
theorem oN (B n i x z k:Nat) (h:k<n):(dm B n i x z).getD k 0=if k<i then((x / B ^ k % B:Nat):Int)else((z / B ^ k % B:Nat):Int):=by
 simp[dm,akG,h]
theorem xV (B n x z:Nat):dm B n 0 x z=dn B n z:=by
 simp[dm,dn]
theorem Bv {B n i:Nat} (x z:Nat) (h:n≤i):dm B n i x z=dn B n x:=by
 unfold dm dn;refine amE fun k hk=>?_;rw[if_pos (by have:=amn.1 hk;omega)]
theorem pX {B n i x z:Nat} (h:i<n) {d:Int} (hd:d=((x / B ^ i % B:Nat):Int)):(dm B n i x z).set i d=dm B n (i+1) x z:=by
 apply amC
 ·simp[jU]
 ·intro k h1 h2
  rw[amF];simp only[dm,amG,amH];split
  ·subst_vars;simp
  ·split<;>split<;>first|rfl|omega
theorem I7 {B n i x x' z z':Nat} (h1:∀k,k<i→k<n→x / B ^ k % B=x' / B ^ k % B) (h2:∀k,i≤k→k<n→z / B ^ k % B=z' / B ^ k % B):dm B n i x z=dm B n i x' z':=by
 unfold dm;refine amE fun k hk=>?_;have hk:=amn.1 hk;split
 ·rw[h1 k qqO hk]
 ·rw[h2 k qqO hk]
def vl (B:Nat):List Int→Nat
 | []=>0
 |d::l=>d.toNat+B*vl B l
theorem xW {B:Nat} (hB:2≤B) (x:Nat):vl B (dl B x)=x:=by
 refine Bu hB (P:=fun x=>vl B (dl B x)=x) rfl ?_ x;intro x hx ih;rw[wF hB hx,vl,ih,amI];exact Nat.mod_add_div x B
def Dg (B:Nat) (l:List Int):Prop:=l=dl B (vl B l)
theorem aio {B:Nat} (hB:2≤B) (x:Nat):Dg B (dl B x):=by unfold Dg;rw[xW hB]
theorem kC {B:Nat} {l:List Int} (h:Dg B l):∃x,l=dl B x:=⟨_,h⟩
def trm (l:List Int):List Int:=(l.reverse.dropWhile (·==0)).reverse
theorem Xv (l:List Int):trm (l++[0])=trm l:=by simp[trm]
theorem I8 (l:List Int) {d:Int} (h:d≠0):trm (l++[d])=l++[d]:=by simp[trm,h]
theorem FC (l:List Int) {k:Nat} (h:k<l.length):l.take (k+1)=l.take k++[l.getD k 0]:=by
 rw[List.take_add_one,akG,akL h];rfl
theorem I9 {l:List Int} {k:Nat} (h:k<l.length) (h0:l.getD k 0=0):trm (l.take (k+1))=trm (l.take k):=by rw[FC l h,h0,Xv]
theorem Ja {l:List Int} {k:Nat} (h:k<l.length) (h0:l.getD k 0≠0):trm (l.take (k+1))=l.take (k+1):=by rw[FC l h,I8 _ h0]
theorem pY {B:Nat} (hB:2≤B) {n x:Nat} (h:x<B ^ n):trm (dn B n x)=dl B x:=by
 have hl:=lF hB h;have step:∀m,(dl B x).length+m≤n→trm ((dn B n x).take ((dl B x).length+m))=trm ((dn B n x).take (dl B x).length):=by
  intro m;induction m with
  |zero=>intro _;rfl
  |succ m ih=>
   intro hm;rw[←akr,I9 (by rw[fQ];omega) (Gm hB qqO qqO),ih qqO]
 have h1:=step (n-(dl B x).length) qqO;rw[show(dl B x).length+(n-(dl B x).length)=n by omega,List.take_of_length_le (by rw[fQ];exact aku _)]at h1
 rw[h1,adl hB h];by_cases hx:x=0
 ·subst hx;rfl
 ·have hp:(dl B x).length≠0:=fun h=>hx ((gL hB).1 (alY.1 h))
  obtain⟨k,hk⟩:∃k,(dl B x).length=k+1:=⟨(dl B x).length-1,qqO⟩;have ht:=agE hB hx;have:=Ja (l:=dl B x) (k:=k) qqO (by rw[hk,amA]at ht;exact ht)
  rw[←hk,amJ]at this;exact this
theorem pw {B:Nat} (hB:2≤B) (i:Nat):0<B ^ i:=amB qqO
theorem xX (B x i:Nat):x / B ^ (i+1)=x / B ^ i / B:=by rw[amx,amw]
theorem nE (B x i:Nat):x % B ^ (i+1)=x % B ^ i+x / B ^ i % B*B ^ i:=by
 rw[amx,Nat.mod_mul,akT (B ^ i)]
theorem jA (B x i:Nat):x / B ^ i=x / B ^ (i+1)*B+x / B ^ i % B:=by
 rw[xX];have:=alb (x / B ^ i) B;rw[akT];exact this.symm
theorem Tv (B x i k:Nat) (h:k<i):x % B ^ i / B ^ k % B=x / B ^ k % B:=by
 obtain⟨d,rfl⟩:∃d,i=k+(d+1):=⟨i-k-1,qqO⟩;rw[amK,amL,amx,akT (B ^ d),Nat.mod_mul_right_mod]
theorem Tw {B x y:Nat} (hB:2≤B) {i:Nat} (h:x / B ^ (i+1)=y / B ^ (i+1)) (hd:x / B ^ i % B<y / B ^ i % B):x<y:=by
 have h1:=jA B x i;have h2:=jA B y i;rw[h]at h1;have:x / B ^ i<y / B ^ i:=qqO;exact Nat.lt_of_not_le fun hle=>by have:=amM (c:=B ^ i) hle;omega
theorem cmp_eq {B x y:Nat} {i:Nat} (h:x / B ^ (i+1)=y / B ^ (i+1)) (hd:x / B ^ i % B=y / B ^ i % B):x / B ^ i=y / B ^ i:=by
 rw[jA B x i,jA B y i,h,hd]
theorem MC {B x y:Nat} (hB:2≤B) (h:(dl B x).length<(dl B y).length):x<y:=by
 have h1:=fP hB x;obtain⟨k,hk⟩:∃k,(dl B y).length=k+1:=⟨(dl B y).length-1,qqO⟩;have h2:=qV hB y k hk;have:B ^ (dl B x).length≤B ^ k:=amN qqO qqO;omega
def ca (B x y i:Nat):Nat:=(x % B ^ i+y % B ^ i) / B ^ i
theorem ME (B x y:Nat):ca B x y 0=0:=by simp[ca,alg]
theorem GK {B:Nat} (hB:2≤B) (x y i:Nat):ca B x y i≤1:=by
 have h1:=alc x (pw hB i);have h2:=alc y (pw hB i);have:ca B x y i<2:=(ala (pw hB i)).2 qqO;omega
theorem Tx {B:Nat} (hB:2≤B) (x y i:Nat):(x % B ^ (i+1)+y % B ^ (i+1)) / B ^ i=x / B ^ i % B+y / B ^ i % B+ca B x y i:=by
 have hp:=pw hB i;rw[nE,nE,show x % B ^ i+x / B ^ i % B*B ^ i+(y % B ^ i+y / B ^ i % B*B ^ i)=(x % B ^ i+y % B ^ i)+(x / B ^ i % B+y / B ^ i % B)*B ^ i by grind,amO _ _ hp]
 unfold ca;omega
theorem MF {B:Nat} (hB:2≤B) (x y i:Nat):(x / B ^ i % B+y / B ^ i % B+ca B x y i) / B=ca B x y (i+1):=by
 rw[←Tx hB,amw];rfl
theorem Jb {B:Nat} (hB:2≤B) (x y i:Nat):(x / B ^ i % B+y / B ^ i % B+ca B x y i) % B=(x+y) / B ^ i % B:=by
 rw[←Tx hB,←amL,←amL,←amx,amP,amQ,amQ,←amP]
theorem agF {B x y n:Nat} (hx:x<B ^ n) (hy:y<B ^ n):ca B x y n=(x+y) / B ^ n:=by
 unfold ca;rw[akX hx,akX hy]
def bo (B x y i:Nat):Nat:=if x % B ^ i<y % B ^ i then 1 else 0
theorem MG (B x y:Nat):bo B x y 0=0:=by simp[bo,alg]
theorem Qg (B x y i:Nat):bo B x y i≤1:=by unfold bo;split<;>omega
theorem Dh {B:Nat} (hB:2≤B) (x y i:Nat):bo B x y (i+1)=if x / B ^ i % B<y / B ^ i % B+bo B x y i then 1 else 0:=by
 have hp:=pw hB i;have h1:=alc x hp;have h2:=alc y hp;unfold bo;rw[nE,nE];generalize x / B ^ i % B=a at*
 generalize y / B ^ i % B=b at*
 generalize x % B ^ i=u at*
 generalize y % B ^ i=v at*
 generalize B ^ i=p at*
 by_cases hab:a<b
 ·obtain⟨c,rfl⟩:∃c,b=a+1+c:=⟨b-a-1,qqO⟩
  rw[if_pos,if_pos qqO];have:(a+1+c)*p=a*p+p+c*p:=by grind
  omega
 ·by_cases hba:a=b
  ·subst hba
   by_cases huv:u<v
   ·rw[if_pos qqO,if_pos huv,if_pos qqO]
   ·rw[if_neg qqO,if_neg huv,if_neg qqO]
  ·obtain⟨c,rfl⟩:∃c,a=b+1+c:=⟨a-b-1,qqO⟩
   have:(b+1+c)*p=b*p+p+c*p:=by grind
   rw[if_neg qqO,if_neg];split<;>omega
theorem Tz {B:Nat} (hB:2≤B) {x y:Nat} (h:y≤x) (i:Nat):(((x / B ^ i % B:Nat):Int)-((y / B ^ i % B:Nat):Int)-(bo B x y i:Int)) % B=(((x-y) / B ^ i % B:Nat):Int):=by
 have hp:=pw hB i;obtain⟨z,rfl⟩:∃z,x=y+z:=⟨x-y,qqO⟩;rw[Nat.add_sub_cancel_left];have hc:=Jb hB y z i;have hs:bo B (y+z) y i=ca B y z i:=by
  unfold bo ca;have h1:=alc y hp;have h2:=alc z hp;rw[amP];generalize y % B ^ i=u at*
  generalize z % B ^ i=v at*
  generalize B ^ i=p at*
  by_cases hlt:u+v<p
  ·rw[akX hlt,akV hlt,if_neg qqO]
  ·have e:(u+v) % p=u+v-p:=by rw[Nat.mod_eq_sub_mod qqO,akX qqO]
   rw[e,if_pos qqO];have e2:(u+v) / p=1:=by
    rw[Nat.div_eq_of_lt_le]<;>omega
   rw[e2]
 rw[hs,←hc];have hz:=alc (z / B ^ i) (by omega:B>0)
 generalize y / B ^ i % B=a at*
 generalize z / B ^ i % B=b at*
 generalize ca B y z i=c at*
 have e:(((a+b+c) % B:Nat):Int)=((a+b+c:Nat):Int) % B:=amR _ _;rw[e,←amS ((a+b+c:Nat):Int) B];have e3:((a+b+c:Nat):Int) % (B:Int)+((a+b+c:Nat):Int) / (B:Int)*B=a+b+c:=by rw[amS];simp
 rw[e3];have e4:((a+b+c:Nat):Int) % (B:Int)-(a:Int)-(c:Int)=(b:Int)+(-(((a+b+c:Nat):Int) / (B:Int)))*B:=by
  have:=amS ((a+b+c:Nat):Int) B
  grind
 have e5:((a:Int)+b+c) % (B:Int)=((a+b+c:Nat):Int) % (B:Int):=qqS;rw[e5,e4,Int.add_mul_emod_self_right,Int.emod_eq_of_lt qqO qqO]
def tj (B x y i j:Nat):Nat:=x % B ^ i*y+x / B ^ i % B*(y % B ^ j)*B ^ i
theorem MH (B x y i:Nat):tj B x y i 0=x % B ^ i*y:=by simp[tj,alg]
theorem TA {B y m:Nat} (x i:Nat) (hy:y<B ^ m):tj B x y i m=x % B ^ (i+1)*y:=by
 unfold tj;rw[akX hy,nE]
 grind
theorem MI (B x y i j:Nat):tj B x y i (j+1)=tj B x y i j+x / B ^ i % B*(y / B ^ j % B)*B ^ (i+j):=by
 unfold tj;rw[nE,amK]
 grind
def cm (B x y i j:Nat):Nat:=tj B x y i j / B ^ (i+j)-x % B ^ i*y / B ^ (i+j)
theorem TD {B:Nat} (x y i j:Nat):tj B x y i j / B ^ (i+j)=cm B x y i j+x % B ^ i*y / B ^ (i+j):=by
 have:x % B ^ i*y / B ^ (i+j)≤tj B x y i j / B ^ (i+j):=amM (by unfold tj;omega)
 unfold cm;omega
theorem MJ (B x y i:Nat):cm B x y i 0=0:=by unfold cm;rw[MH];omega
theorem TG {B:Nat} (hB:2≤B) (x y i j:Nat):tj B x y i (j+1) / B ^ (i+j)=cm B x y i j+x % B ^ i*y / B ^ (i+j) % B+x / B ^ i % B*(y / B ^ j % B)+x % B ^ i*y / B ^ (i+j+1)*B:=by
 rw[MI,amO _ _ (pw hB _),TD];have:=jA B (x % B ^ i*y) (i+j);generalize x % B ^ i*y / B ^ (i+j) % B=t at*
 generalize x % B ^ i*y / B ^ (i+j+1)*B=v at*
 omega
theorem agG {B:Nat} (hB:2≤B) (x y i j:Nat):(x / B ^ i % B*(y / B ^ j % B)+x % B ^ i*y / B ^ (i+j) % B+cm B x y i j) % B=tj B x y i (j+1) / B ^ (i+j) % B:=by
 rw[TG hB,amT];congr 1;omega
theorem MK {B:Nat} (hB:2≤B) (x y i j:Nat):(x / B ^ i % B*(y / B ^ j % B)+x % B ^ i*y / B ^ (i+j) % B+cm B x y i j) / B=cm B x y i (j+1):=by
 have h1:=TG hB x y i j;have h2:tj B x y i (j+1) / B ^ (i+(j+1))=(cm B x y i j+x % B ^ i*y / B ^ (i+j) % B+x / B ^ i % B*(y / B ^ j % B)) / B+x % B ^ i*y / B ^ (i+j+1):=by
  rw[←akr,xX,h1,amO _ _ qqO]
 have h3:cm B x y i (j+1)=tj B x y i (j+1) / B ^ (i+(j+1))-x % B ^ i*y / B ^ (i+(j+1)):=rfl;rw[h3,h2,←akr i j 1,amA];congr 1;omega
theorem abb {B:Nat} (hB:2≤B) (x y i j:Nat):cm B x y i j<B:=by
 induction j with
 |zero=>rw[MJ];omega
 |succ j ih=>
  rw[←MK hB,ala qqO];have h1:x / B ^ i % B≤B-1:=by have:=alc (x / B ^ i) (by omega:B>0);omega
  have h2:y / B ^ j % B≤B-1:=by have:=alc (y / B ^ j) (by omega:B>0);omega
  have h3:=alc (x % B ^ i*y / B ^ (i+j)) (by omega:B>0)
  have h4:=alE h1 h2;obtain⟨b,rfl⟩:∃b,B=b+1:=⟨B-1,qqO⟩;rw[amA]at*;have e:(b+1)*(b+1)=b*b+b+b+1:=by grind
  omega
theorem agH {B:Nat} (hB:2≤B) (x y i j k:Nat) (h:k<i+j):tj B x y i (j+1) / B ^ k % B=tj B x y i j / B ^ k % B:=by
 rw[MI];obtain⟨d,hd⟩:∃d,i+j=k+(d+1):=⟨i+j-k-1,qqO⟩;rw[hd,show x / B ^ i % B*(y / B ^ j % B)*B ^ (k+(d+1))=(x / B ^ i % B*(y / B ^ j % B)*B ^ d*B)*B ^ k by rw[amK,amx];grind,amO _ _ (pw hB k),amT]
theorem Jc {B y m:Nat} (hB:2≤B) (x i:Nat) (hy:y<B ^ m):x % B ^ i*y / B ^ (i+m)=0:=by
 have hp:=pw hB i;rw[akV];rw[amK];have h1:=alc x hp
 calc x % B ^ i*y≤x % B ^ i*B ^ m:=amU _ qqO
  _<B ^ i*B ^ m:=amV h1 (pw hB m)
theorem adn {B y m:Nat} (hB:2≤B) (x i:Nat) (hy:y<B ^ m):cm B x y i m=x % B ^ (i+1)*y / B ^ (i+m):=by
 have h:=TD (B:=B) x y i m;rw[TA x i hy,Jc hB x i hy]at h;omega
theorem MN {B:Nat} (hB:2≤B) (x i:Nat) {p r:Nat} (hp:p*r=B):
 x % B ^ i*p / B ^ i<p∧x % B ^ (i+1)*p / B ^ i % B=x % B ^ i*p / B ^ i+x / B ^ i % B*p % B∧x % B ^ (i+1)*p / B ^ (i+1)=x / B ^ i % B*p / B∧(∀k,k<i→x % B ^ (i+1)*p / B ^ k % B=x % B ^ i*p / B ^ k % B)∧x % B ^ i*p / B ^ i+x / B ^ i % B*p % B<B:=by
 have hP:=pw hB i;have hp0:0<p:=ak9 fun h=>by subst h;omega
 have h1:x % B ^ i*p / B ^ i<p:=by
  rw[ala hP,akT p];exact amV (alc _ hP) hp0
 have e:x % B ^ (i+1)*p=x % B ^ i*p+(x / B ^ i % B*p)*B ^ i:=by rw[nE];grind
 have e2:x % B ^ (i+1)*p / B ^ i=x % B ^ i*p / B ^ i+x / B ^ i % B*p:=by rw[e,amO _ _ hP]
 have em:x / B ^ i % B*p % B=(x / B ^ i % B % r)*p:=by
  rw[←hp,akT p r,amW]
 have hr:0<r:=ak9 fun h=>by subst h;omega
 have hmr:=alc (x / B ^ i % B) hr;have hs:x % B ^ i*p / B ^ i+x / B ^ i % B*p % B<B:=by
  rw[em];have:=ak6 p (show x / B ^ i % B % r+1≤r by omega)
  rw[ak7,akT r p,hp]at this;omega
 refine⟨h1,?_,?_,fun k hk=>?_,hs⟩
 ·rw[e2,amP,akX (a:=x % B ^ i*p / B ^ i) (by have:=alv p hr;omega),akX hs]
 ·rw[xX,e2]
  have h2:=alb (x / B ^ i % B*p) B;generalize x / B ^ i % B*p=t at*
  generalize x % B ^ i*p / B ^ i=g at*
  rw[show g+t=(g+t % B)+t / B*B by rw[akT (t / B)];omega,amO _ _ qqO,akV hs,akS]
 ·rw[e]
  obtain⟨d,rfl⟩:∃d,i=k+(d+1):=⟨i-k-1,qqO⟩;rw[show x / B ^ (k+(d+1)) % B*p*B ^ (k+(d+1))=(x / B ^ (k+(d+1)) % B*p*B ^ d*B)*B ^ k by rw[amK B k (d+1),amx];grind,amO _ _ (pw hB k),amT]
theorem agI {B b:Nat} (hB:2≤B) (hb:0<b) (x i:Nat):(x / B ^ (i+1) % b*B+x / B ^ i % B) / b=x / b / B ^ i % B∨B<b:=by
 by_cases hbB:B<b
 ·exact .inr hbB
 left
 have e:x / b / B ^ i=x / B ^ i / b:=by rw[amw,amw,akT]
 rw[e];have h0:=jA B x i;have h1:=alb (x / B ^ (i+1)) b;have h2:=alc (x / B ^ (i+1)) hb;have h3:=alc (x / B ^ i) (by omega:B>0)
 generalize x / B ^ i % B=d at*
 generalize x / B ^ (i+1) % b=r at*
 generalize x / B ^ (i+1) / b=q at*
 have e2:x / B ^ i=(r*B+d)+(q*B)*b:=by rw[h0,←h1];grind
 rw[e2,amO _ _ hb,amT,akX];rw[ala hb];have:(r+1)*B≤b*B:=ak6 _ qqO
 grind
theorem MO (B b x i:Nat):(x / B ^ (i+1) % b*B+x / B ^ i % B) % b=x / B ^ i % b:=by
 have h0:=jA B x i;generalize x / B ^ i % B=d at*
 rw[h0,amP,amX,amQ,←amX,←amP]
theorem Xw {B:Nat} {p U V u1 v1 q:Nat} (hU:U<(u1+1)*p) (hV:v1*p≤V) (h:u1+1≤(q+1)*v1):U / V≤q:=by
 by_cases hv:V=0
 ·subst hv;simp
 have h1:(u1+1)*p≤(q+1)*v1*p:=ak6 _ h;have h2:(q+1)*v1*p≤(q+1)*V:=by rw[amY];exact amU _ hV
 have:U / V<q+1:=(ala qqO).2 qqO;omega
theorem Qh {p U V u2 v2 q:Nat} (hU:U<(u2+1)*p) (hV:v2*p≤V) (h:u2<q*v2):U / V<q:=by
 by_cases hv:V=0
 ·subst hv;simp;exact ak9 fun h0=>by subst h0;simp at h
 have h1:(u2+1)*p≤q*v2*p:=ak6 _ qqO;have h2:q*v2*p≤q*V:=by rw[amY];exact amU _ hV
 exact(ala qqO).2 qqO
theorem Qi {B p U V u2 v2 w q:Nat} (hU:u2*p≤U) (hV:V=v2*p+w) (hw:w<p) (hv2:B≤v2) (hq:q≤B) (h:q*v2≤u2):q≤U / V+1:=by
 cases q with
 |zero=>exact alq _
 |succ q=>
  have hp:0<p:=qqO;have hVp:0<V:=by
   by_cases h0:v2=0
   ·omega
   ·have:=amZ (ak9 h0) hp
    omega
  have:q≤U / V:=by
   rw[ald hVp,hV];have h1:(q+1)*v2*p≤u2*p:=ak6 _ h;have h2:q*w≤q*p:=amU _ qqO;have h3:q*p≤v2*p:=ak6 _ qqO;have e1:(q+1)*v2*p=q*(v2*p)+v2*p:=by grind
   have e2:q*(v2*p+w)=q*(v2*p)+q*w:=by grind
   omega
  exact Nat.succ_le_succ this
end Go.Eng.Dig
namespace Go.Eng.ElG
set_option linter.unusedSimpArgs false
set_option linter.unusedVariables false
structure Fld (α:Type)where
 z:α→Bool
 sub:α→α→α
 mul:α→α→α
 inv:α→α
abbrev bJ (α:Type):=Nat→Nat→α
variable {α β:Type}
def findAt (F:Fld α) (M:bJ α) (c n m:Nat):Nat:=match(akE m).find? (fun r=>decide (n≤r)&&!F.z (M r c))with
 |some r=>r
 |none=>m
theorem wH {F:Fld α} {M:bJ α} {c n m:Nat} (h:findAt F M c n m<m):n≤findAt F M c n m∧F.z (M (findAt F M c n m) c)=false:=by
 unfold findAt at h⊢;cases e:(akE m).find? (fun r=>decide (n≤r)&&!F.z (M r c))with
 |none=>rw[e]at h;simp at h
 |some r=>
  have:=List.find?_some e;simpa using this
theorem wI (F:Fld α) (M:bJ α) (c n m:Nat):findAt F M c n m≤m:=by
 unfold findAt;cases e:(akE m).find? (fun r=>decide (n≤r)&&!F.z (M r c))with
 |none=>exact aku _
 |some r=>have:=am0 e;simp at this;exact am1 this
theorem wJ {p:Nat→Bool} {n a:Nat} (ha:a<n) (hp:p a=true) (hm:∀i,i<a→p i=false):(akE n).find? p=some a:=by
 rw[am2];exact⟨hp,a,by simpa using ha,qqS,fun j hj=>by simp[hm j hj]⟩
theorem wK {F:Fld α} {M:bJ α} {c n m a:Nat} (ha:a<m) (hn:n≤a) (h0:F.z (M a c)=false) (hz:∀r,n≤r→r<a→F.z (M r c)=true):findAt F M c n m=a:=by
 unfold findAt;rw[wJ ha (by simp[hn,h0]) (fun i hi=>by
  by_cases h:n≤i
  ·simp[hz i h hi]
  ·simp[h])]
theorem rF {F:Fld α} {M:bJ α} {c n m:Nat} (hz:∀r,n≤r→r<m→F.z (M r c)=true):findAt F M c n m=m:=by
 unfold findAt;have:(akE m).find? (fun r=>decide (n≤r)&&!F.z (M r c))=none:=by
  rw[am3];intro i hi;have hi:=amn.1 hi;by_cases h:n≤i
  ·simp[hz i h hi]
  ·simp[h]
 rw[this]
def fZ (M:bJ α) (n a:Nat):bJ α:=fun r=>if r=n then M a else if r=a then M n else M r
def dK (F:Fld α) (w:Nat) (M:bJ α) (n:Nat) (s:α):bJ α:=fun r=>if r=n then(fun j=>if j<w then F.mul (M n j) s else M n j)else M r
def dB (F:Fld α) (w:Nat) (M:bJ α) (n c:Nat):bJ α:=fun r=>if r=n∨F.z (M r c)=true then M r else(fun j=>if j<w then F.sub (M r j) (F.mul (M r c) (M n j))else M r j)
structure ES (α:Type)where
 M:bJ α
 piv:List Nat
 heads:List α
 odd:Bool
def iW (F:Fld α) (w m:Nat) (s:ES α) (c:Nat):ES α:=
 if findAt F s.M c s.piv.length m=m then s else
  {M:=dB F w (dK F w (fZ s.M s.piv.length (findAt F s.M c s.piv.length m)) s.piv.length (F.inv (fZ s.M s.piv.length (findAt F s.M c s.piv.length m) s.piv.length c))) s.piv.length c
   piv:=s.piv++[c]
   heads:=s.heads++[fZ s.M s.piv.length (findAt F s.M c s.piv.length m) s.piv.length c]
   odd:=s.odd !=decide (s.piv.length≠findAt F s.M c s.piv.length m)}
def aN (F:Fld α) (w m:Nat) (M:bJ α):Nat→ES α
 |0=>⟨M,[],[],false⟩
 |c+1=>iW F w m (aN F w m M c) c
theorem fE (F:Fld α) (w m:Nat) (M:bJ α) (c:Nat):(aN F w m M c).piv.length≤m∧(aN F w m M c).piv.length≤c∧(aN F w m M c).heads.length=(aN F w m M c).piv.length:=by
 induction c with
 |zero=>exact⟨alq _,alq _,rfl⟩
 |succ c ih=>
  obtain⟨i1,i2,i3⟩:=ih;rw[aN,iW];split
  ·exact⟨i1,qqO,i3⟩
  ·rename_i hne
   have hle:=wI F (aN F w m M c).M c (aN F w m M c).piv.length m;have hlt:findAt F (aN F w m M c).M c (aN F w m M c).piv.length m<m:=qqO;have hp:=(wH hlt).1;simp only[List.length_append,akq,List.length_nil];omega
structure Hom (F:Fld α) (E:Fld β) (φ:α→β) (G:Nat→α→Prop):Prop where
 up:∀c x,G c x→G (c+1) x
 z:∀c x,G c x→E.z (φ x)=F.z x
 scale:∀c a s,G c a→G c s→F.z s=false→φ (F.mul a (F.inv s))=E.mul (φ a) (E.inv (φ s))∧G (c+1) (F.mul a (F.inv s))
 clear:∀c a t b s,G c a→G c t→G c b→G c s→F.z s=false→φ (F.sub a (F.mul t (F.mul b (F.inv s))))=E.sub (φ a) (E.mul (φ t) (φ (F.mul b (F.inv s))))∧G (c+1) (F.sub a (F.mul t (F.mul b (F.inv s))))
theorem Qj {F:Fld α} {E:Fld β} {M:bJ α} {M':bJ β} {c n m:Nat} (h:∀r,r<m→E.z (M' r c)=F.z (M r c)):findAt E M' c n m=findAt F M c n m:=by
 by_cases e:findAt F M c n m=m
 ·rw[e]
  refine rF fun r h1 h2=>?_;rw[h r h2];cases hz:F.z (M r c)with
  |true=>rfl
  |false=>
   exfalso
   unfold findAt at e;cases e2:(akE m).find? (fun r=>decide (n≤r)&&!F.z (M r c))with
   |none=>
    have:=am3.1 e2 r (amn.2 h2);simp[h1,hz]at this
   |some q=>
    rw[e2]at e;have:=amn.1 (am0 e2);simp only at e;omega
 ·have hlt:findAt F M c n m<m:=by have:=wI F M c n m;omega
  obtain⟨g1,g2⟩:=wH hlt;refine wK hlt g1 (by rw[h _ hlt];exact g2) (fun r h1 h2=>?_)
  rw[h r qqO];cases hz:F.z (M r c)with
  |true=>rfl
  |false=>
   exfalso
   unfold findAt at h2 hlt;cases e2:(akE m).find? (fun r=>decide (n≤r)&&!F.z (M r c))with
   |none=>rw[e2]at hlt;simp at hlt
   |some q=>
    rw[e2]at h2;have h3:=(am2.1 e2).2;obtain⟨i,hi,he,hall⟩:=h3;simp only[amH]at he;have:=hall r (by simp only at h2;omega)
    simp[h1,hz]at this
theorem MP (F:Fld α) (w:Nat) (M:bJ α) (n c:Nat) (s:α) {j:Nat} (hj:j<w):dB F w (dK F w M n s) n c n j=F.mul (M n j) s:=by
 unfold dB;rw[if_pos (.inl rfl)];unfold dK;rw[if_pos rfl,if_pos hj]
theorem MQ (F:Fld α) (w:Nat) (M:bJ α) {n c r:Nat} (s:α) (h:r≠n) (hz:F.z (M r c)=true):dB F w (dK F w M n s) n c r=M r:=by
 have e:dK F w M n s r=M r:=by unfold dK;rw[if_neg h]
 unfold dB;rw[e,if_pos (.inr hz)]
theorem MR (F:Fld α) (w:Nat) (M:bJ α) {n c r:Nat} (s:α) (h:r≠n) (hz:¬F.z (M r c)=true) {j:Nat} (hj:j<w):dB F w (dK F w M n s) n c r j=F.sub (M r j) (F.mul (M r c) (F.mul (M n j) s)):=by
 have e:dK F w M n s r=M r:=by unfold dK;rw[if_neg h]
 have e2:dK F w M n s n j=F.mul (M n j) s:=by unfold dK;rw[if_pos rfl,if_pos hj]
 unfold dB;rw[e,if_neg (fun g=>g.elim h hz)];show(if j<w then _ else _)=_;rw[if_pos hj,e2]
theorem jg {F:Fld α} {E:Fld β} {φ:α→β} {G:Nat→α→Prop} (h:Hom F E φ G) {m w:Nat} {M:bJ α} {M':bJ β} (h0:∀r,r<m→∀j,j<w→G 0 (M r j)∧φ (M r j)=M' r j):∀c,c≤w→
 (∀r,r<m→∀j,j<w→G (aN F w m M c).piv.length ((aN F w m M c).M r j)∧φ ((aN F w m M c).M r j)=(aN E w m M' c).M r j)∧(aN E w m M' c).piv=(aN F w m M c).piv∧(aN E w m M' c).odd=(aN F w m M c).odd∧(aN E w m M' c).heads=(aN F w m M c).heads.map φ∧∀x∈(aN F w m M c).heads,∃k,k≤(aN F w m M c).piv.length∧G k x∧F.z x=false:=by
 intro c;induction c with
 |zero=>exact fun _=>⟨h0,rfl,rfl,rfl,fun x hx=>by cases hx⟩
 |succ c ih=>
  intro hc;obtain⟨i1,i2,i3,i4,i5⟩:=ih qqO;have hz:∀r,r<m→E.z ((aN E w m M' c).M r c)=F.z ((aN F w m M c).M r c):=fun r hr=>by
   obtain⟨g1,g2⟩:=i1 r hr c qqO;rw[←g2];exact h.z _ _ g1
  have hfa:=Qj (n:=(aN F w m M c).piv.length) hz;obtain⟨l1,l2,l3⟩:=fE F w m M c;rw[aN,aN,iW,iW,i2,hfa];by_cases e:findAt F (aN F w m M c).M c (aN F w m M c).piv.length m=m
  ·rw[if_pos e,if_pos e]
   exact⟨i1,i2,i3,i4,i5⟩
  ·rw[if_neg e,if_neg e]
   have hlt:findAt F (aN F w m M c).M c (aN F w m M c).piv.length m<m:=by have:=wI F (aN F w m M c).M c (aN F w m M c).piv.length m;omega
   obtain⟨g1,g2⟩:=wH hlt;generalize aN F w m M c=S at*
   generalize aN E w m M' c=S' at*
   generalize findAt F S.M c S.piv.length m=a at*
   have hl:(S.piv++[c]).length=S.piv.length+1:=qqS;simp only[hl];generalize hn:S.piv.length=n at*
   have hs:∀r,r<m→∀j,j<w→G n (fZ S.M n a r j)∧φ (fZ S.M n a r j)=fZ S'.M n a r j:=fun r hr j hj=>by
    unfold fZ;by_cases h1:r=n
    ·rw[if_pos h1,if_pos h1];exact i1 a hlt j hj
    ·rw[if_neg h1,if_neg h1]
     by_cases h2:r=a
     ·rw[if_pos h2,if_pos h2];exact i1 n qqO j hj
     ·rw[if_neg h2,if_neg h2];exact i1 r hr j hj
   have hh:F.z (fZ S.M n a n c)=false:=by unfold fZ;rw[if_pos rfl];exact g2
   obtain⟨k1,k2⟩:=hs n qqO c qqO;generalize hA:fZ S.M n a=A at*
   generalize hB:fZ S'.M n a=B at*
   refine⟨fun r hr j hj=>?_,trivial,by rw[i3],by rw[i4,List.map_append,←k2];rfl,fun x hx=>?_⟩
   ·obtain⟨p1,p2⟩:=hs r hr j hj
    obtain⟨q1,q2⟩:=hs n qqO j hj;obtain⟨t1,t2⟩:=hs r hr c qqO;show G (n+1) (dB F w (dK F w A n (F.inv (A n c))) n c r j)∧φ (dB F w (dK F w A n (F.inv (A n c))) n c r j)=dB E w (dK E w B n (E.inv (B n c))) n c r j;by_cases hr1:r=n
    ·subst hr1
     rw[MP F w A _ _ _ hj,MP E w B _ _ _ hj];have:=h.scale _ _ _ p1 k1 hh;rw[p2,k2]at this;exact⟨this.2,this.1⟩
    ·have hzz:E.z (B r c)=F.z (A r c):=by rw[←t2];exact h.z _ _ t1
     by_cases hz2:F.z (A r c)=true
     ·rw[MQ F w A _ hr1 hz2,MQ E w B _ hr1 (hzz.trans hz2)]
      exact⟨h.up _ _ p1,p2⟩
     ·rw[MR F w A _ hr1 hz2 hj,MR E w B _ hr1 (by rw[hzz];exact hz2) hj]
      have h1:=h.clear n _ _ _ _ p1 t1 q1 k1 hh;have h2:=(h.scale n _ _ q1 k1 hh).1;rw[h2,p2,t2,q2,k2]at h1;exact⟨h1.2,h1.1⟩
   ·rcases List.mem_append.1 hx with hx|hx
    ·obtain⟨k,e1,e2⟩:=i5 x hx
     exact⟨k,qqO,e2⟩
    ·rw[List.mem_singleton]at hx
     subst hx;exact⟨n,qqO,k1,hh⟩
def swl (l:List Nat) (n a:Nat):List Nat:=(l.set n (l.getD a 0)).set a (l.getD n 0)
theorem lG {l:List Nat} {n a r:Nat} (hn:n<l.length) (ha:a<l.length):(swl l n a).getD r 0=if r=n then l.getD a 0 else if r=a then l.getD n 0 else l.getD r 0:=by
 unfold swl;rw[akG,ak1,ak1];simp only[ak3];by_cases h1:a=r
 ·subst h1
  rw[if_pos rfl,if_pos ha];by_cases h2:a=n
  ·subst h2;rw[if_pos rfl];rfl
  ·rw[if_neg h2,if_pos rfl];rfl
 ·rw[if_neg h1]
  by_cases h2:n=r
  ·subst h2;rw[if_pos rfl,if_pos hn,if_pos rfl];rfl
  ·rw[if_neg h2,if_neg (fun h=>h2 h.symm),if_neg (fun h=>h1 h.symm),akG]
theorem jV {l:List Nat}:l.Nodup↔∀i j,i<l.length→j<l.length→l.getD i 0=l.getD j 0→i=j:=by
 have hg:∀i,(h:i<l.length)→l.getD i 0=l[i]:=fun i h=>by rw[akG,akL h];rfl
 rw[List.Nodup,List.pairwise_iff_getElem];constructor
 ·intro h i j hi hj e
  rw[hg i hi,hg j hj]at e;rcases Nat.lt_trichotomy i j with h1|h1|h1
  ·exact absurd e (h i j hi hj h1)
  ·exact h1
  ·exact absurd e.symm (h j i hj hi h1)
 ·intro h i j hi hj hij e
  rw[←hg i hi,←hg j hj]at e;have:=h i j hi hj e;omega
def sgw (n a r:Nat):Nat:=if r=n then a else if r=a then n else r
theorem uj {l:List Nat} {n a r:Nat} (hn:n<l.length) (ha:a<l.length):(swl l n a).getD r 0=l.getD (sgw n a r) 0:=by
 rw[lG hn ha];unfold sgw;by_cases h1:r=n
 ·rw[if_pos h1,if_pos h1]
 ·rw[if_neg h1,if_neg h1]
  by_cases h2:r=a
  ·rw[if_pos h2,if_pos h2]
  ·rw[if_neg h2,if_neg h2]
theorem Bw {n a r m:Nat} (hn:n<m) (ha:a<m) (hr:r<m):sgw n a r<m:=by
 unfold sgw;split
 ·exact ha
 ·split
  ·exact hn
  ·exact hr
theorem ado {n a i j:Nat} (h:sgw n a i=sgw n a j):i=j:=by
 unfold sgw at h;by_cases h1:i=n
 ·rw[if_pos h1]at h
  by_cases h2:j=n
  ·omega
  ·rw[if_neg h2]at h
   by_cases h3:j=a
   ·rw[if_pos h3]at h;omega
   ·rw[if_neg h3]at h;omega
 ·rw[if_neg h1]at h
  by_cases h4:i=a
  ·rw[if_pos h4]at h
   by_cases h2:j=n
   ·rw[if_pos h2]at h;omega
   ·rw[if_neg h2]at h
    by_cases h3:j=a
    ·omega
    ·rw[if_neg h3]at h;omega
  ·rw[if_neg h4]at h
   by_cases h2:j=n
   ·rw[if_pos h2]at h;omega
   ·rw[if_neg h2]at h
    by_cases h3:j=a
    ·rw[if_pos h3]at h;omega
    ·rw[if_neg h3]at h;exact h
theorem FD {l:List Nat} {n a:Nat} (hn:n<l.length) (ha:a<l.length) (h:l.Nodup):(swl l n a).Nodup:=by
 rw[jV]at h⊢;have hl:(swl l n a).length=l.length:=by simp[swl]
 rw[hl];intro i j hi hj e;rw[uj hn ha,uj hn ha]at e;exact ado (h _ _ (Bw hn ha hi) (Bw hn ha hj) e)
theorem MS {l:List Nat} {n a b:Nat} (hn:n<l.length) (ha:a<l.length) (h:b∈l):b∈swl l n a:=by
 have hl:(swl l n a).length=l.length:=by simp[swl]
 obtain⟨i,hi,rfl⟩:=List.getElem_of_mem h;have key:∀r,r<l.length→(swl l n a).getD r 0∈swl l n a:=fun r hr=>by
  rw[akG,akL qqO];exact List.getElem_mem _
 have hg:l.getD i 0=l[i]:=by rw[akG,akL hi];rfl
 by_cases h1:i=n
 ·have:=key a ha
  rw[lG hn ha]at this;subst h1;split at this
  ·rename_i e;subst e;rw[←hg];exact this
  ·rw[if_pos rfl]at this;rw[←hg];exact this
 ·by_cases h2:i=a
  ·have:=key n hn
   rw[lG hn ha,if_pos rfl]at this;subst h2;rw[←hg];exact this
  ·have:=key i hi
   rw[lG hn ha,if_neg h1,if_neg h2]at this;rw[←hg];exact this
end Go.Eng.ElG
namespace Go.Eng.YtmkagljofpddpaaGreatDoor
open Go.Proofs
set_option linter.unusedSimpArgs false
set_option linter.unusedVariables false
set_option maxHeartbeats 0
set_option maxRecDepth 100000
theorem ai2:te3.bytes=8:=qqR
theorem ai3:te4.bytes=1:=qqR
theorem zw:te3.size=1:=qqR
theorem ai4:te4.size=1:=qqR
theorem agJ:qM.size=1:=qqR
theorem agK:qM.bytes=8:=qqR
theorem vn:(∀(cs:List PV),CL.cnt (.pv cs)=cs.length)∧(∀(cs:List PV),CL.ncell (.pv cs)=cs.length)∧(∀(k:IntKind) (xs:List Int),CL.cnt (.ints k xs)=xs.length)∧(∀(k:IntKind) (xs:List Int),CL.ncell (.ints k xs)=xs.length)∧(∀(xs:List Bool),CL.cnt (.bools xs)=xs.length)∧(∀(xs:List Bool),CL.ncell (.bools xs)=xs.length)∧(∀(xs:List ByteArray),CL.cnt (.strs xs)=xs.length)∧(∀(xs:List ByteArray),CL.ncell (.strs xs)=xs.length)∧(∀(k:IntKind) (xss:List (List Int)),CL.cnt (.rows k xss)=xss.length)∧(∀(k:IntKind) (xss:List (List Int)),CL.ncell (.rows k xss)=xss.length)∧(∀(m:Nat) (rs:List (List PV)),CL.cnt (.recs m rs)=rs.length)∧(∀(m:Nat) (rs:List (List PV)),CL.ncell (.recs m rs)=rs.length*m)∧(∀(n:Nat) (f:Nat→PV),CL.cnt (.gen n f)=n)∧(∀(n:Nat) (f:Nat→PV),CL.ncell (.gen n f)=n)∧(∀(m n:Nat) (f:Nat→List PV),CL.cnt (.genr m n f)=n)∧(∀(m n:Nat) (f:Nat→List PV),CL.ncell (.genr m n f)=n*m):=
 ⟨fun _=>rfl,fun _=>rfl,fun _ _=>rfl,fun _ _=>rfl,fun _=>rfl,fun _=>rfl,fun _=>rfl,fun _=>rfl,fun _ _=>rfl,fun _ _=>rfl,fun _ _=>rfl,fun _ _=>rfl,fun _ _=>rfl,fun _ _=>rfl,fun _ _ _=>rfl,fun _ _ _=>rfl⟩
theorem vp:((∀(cs:List PV),CL.cnt (.pv cs)=cs.length)∧(∀(cs:List PV),CL.ncell (.pv cs)=cs.length)∧(∀(k:IntKind) (xs:List Int),CL.cnt (.ints k xs)=xs.length)∧(∀(k:IntKind) (xs:List Int),CL.ncell (.ints k xs)=xs.length)∧(∀(xs:List Bool),CL.cnt (.bools xs)=xs.length)∧(∀(xs:List Bool),CL.ncell (.bools xs)=xs.length)∧(∀(xs:List ByteArray),CL.cnt (.strs xs)=xs.length)∧(∀(xs:List ByteArray),CL.ncell (.strs xs)=xs.length)∧(∀(k:IntKind) (xss:List (List Int)),CL.cnt (.rows k xss)=xss.length)∧(∀(k:IntKind) (xss:List (List Int)),CL.ncell (.rows k xss)=xss.length)∧(∀(m:Nat) (rs:List (List PV)),CL.cnt (.recs m rs)=rs.length)∧(∀(m:Nat) (rs:List (List PV)),CL.ncell (.recs m rs)=rs.length*m)∧(∀(n:Nat) (f:Nat→PV),CL.cnt (.gen n f)=n)∧(∀(n:Nat) (f:Nat→PV),CL.ncell (.gen n f)=n)∧(∀(m n:Nat) (f:Nat→List PV),CL.cnt (.genr m n f)=n)∧(∀(m n:Nat) (f:Nat→List PV),CL.ncell (.genr m n f)=n*m))∧qM.size=1∧qM.bytes=8∧(∀n:Nat,((n:Int)).toNat=n)∧te3.bytes=8∧te4.bytes=1∧te3.size=1∧te4.size=1∧(∀n:Nat,n*1=n)∧(∀n:Nat,0+n=n)∧((false=true)=False)∧((true=false)=False):=
 ⟨vn,agJ,agK,amI,ai2,ai3,zw,ai4,akZ,akS,qqS,qqS⟩
theorem vq:(∀(p:Prop) [Decidable p],(decide p=true)=p)∧(∀(p:Prop) [Decidable p],(decide p=false)=¬p)∧(∀b:Bool,(¬b=true)=(b=false))∧((!false)=true)∧((!true)=false)∧(∀p:Prop,(p∧p)=p)∧(∀p:Prop,(p∧True)=p)∧(∀p:Prop,(True∧p)=p)∧(∀(α:Type) (a:α) (l:List α),(a::l).length=l.length+1)∧(∀α:Type,([]:List α).length=0)∧((∀(cs:List PV),CL.cnt (.pv cs)=cs.length)∧(∀(cs:List PV),CL.ncell (.pv cs)=cs.length)∧(∀(k:IntKind) (xs:List Int),CL.cnt (.ints k xs)=xs.length)∧(∀(k:IntKind) (xs:List Int),CL.ncell (.ints k xs)=xs.length)∧(∀(xs:List Bool),CL.cnt (.bools xs)=xs.length)∧(∀(xs:List Bool),CL.ncell (.bools xs)=xs.length)∧(∀(xs:List ByteArray),CL.cnt (.strs xs)=xs.length)∧(∀(xs:List ByteArray),CL.ncell (.strs xs)=xs.length)∧(∀(k:IntKind) (xss:List (List Int)),CL.cnt (.rows k xss)=xss.length)∧(∀(k:IntKind) (xss:List (List Int)),CL.ncell (.rows k xss)=xss.length)∧(∀(m:Nat) (rs:List (List PV)),CL.cnt (.recs m rs)=rs.length)∧(∀(m:Nat) (rs:List (List PV)),CL.ncell (.recs m rs)=rs.length*m)∧(∀(n:Nat) (f:Nat→PV),CL.cnt (.gen n f)=n)∧(∀(n:Nat) (f:Nat→PV),CL.ncell (.gen n f)=n)∧(∀(m n:Nat) (f:Nat→List PV),CL.cnt (.genr m n f)=n)∧(∀(m n:Nat) (f:Nat→List PV),CL.ncell (.genr m n f)=n*m))∧qM.size=1∧qM.bytes=8∧(∀n:Nat,((n:Int)).toNat=n)∧te3.bytes=8∧te4.bytes=1∧te3.size=1∧te4.size=1∧(∀n:Nat,n*1=n)∧(∀n:Nat,0+n=n)∧((false=true)=False)∧((true=false)=False):=
 ⟨fun p _=>decide_eq_true_eq,fun p _=>propext decide_eq_false_iff_not,fun b=>qqS,rfl,rfl,and_self,and_true,true_and,fun _ _ _=>rfl,fun _=>rfl,vp⟩
def l7:PSp:=fun xs K=>match xs with
 | [.bp h,.int .i64 e]=>K (.int .i64 (if h then e else 0))
 | [.bool h,.int .i64 e]=>K (.int .i64 (if h then e else 0))
 |_=>False
def dG:List Int→Int
 | []=>0
 |x::r=>if x=0 then dG r else x
theorem Jd:∀(l:List Int),(∀i,i<l.length→l.getD i 0=0)→dG l=0:=by
 intro l;induction l with
 |nil=>intro _;rfl
 |cons x r ih=>
  intro h;have h0:=h 0 qqS;simp at h0;subst h0;exact ih fun i hi=>by simpa using h (i+1) (by simpa using hi)
theorem Qk:∀(l:List Int) (k:Nat),k<l.length→(∀i,i<k→l.getD i 0=0)→l.getD k 0≠0→dG l=l.getD k 0:=by
 intro l;induction l with
 |nil=>intro k hk;simp at hk
 |cons x r ih=>
  intro k hk h hne;cases k with
  |zero=>simp at hne;simp[dG,hne]
  |succ k=>
   have h0:=h 0 qqO;simp at h0;subst h0;have:=ih k (by simpa using hk) (fun i hi=>by simpa using h (i+1) qqO) (by simpa using hne)
   simp[dG,this]
theorem agL {go:List PV→Bool} {L:List PV} {i:Nat} {x:PV} (h:L[i]? =some x) (hg:GoTo go L i):Nxt go L (L.take i) x:=⟨i,(List.getElem?_eq_some_iff.1 h).1,rfl,h,hg⟩
end Go.Eng.YtmkagljofpddpaaGreatDoor
namespace Go.Eng.YtmkagljofpddpaaGreatDoor
open Go.Proofs Go.Eng.Dig
set_option linter.unusedSimpArgs false
set_option linter.unusedVariables false
set_option maxHeartbeats 0
set_option maxRecDepth 100000
abbrev W:Nat:=18446744073709551616
theorem W2:2≤W:=qqD
abbrev wd (x:Nat):CL:=.ints .u64 (dl W x)
theorem agM {S:Imm} {w:World} {ι:Ix} {p q r:PV} {vs:Array Value} (h:bG S w ι [p,q,r] vs):∃u v t,vs= #[u,v,t]∧Rep S w ι p u∧Rep S w ι q v∧Rep S w ι r t:=by
 have h0:=h.2 0 qqS;have h1:=h.2 1 qqS;have h2:=h.2 2 qqS;have hsz:vs.size=3:=h.1.symm;refine⟨vs.getD 0 undef,vs.getD 1 undef,vs.getD 2 undef,?_,h0,h1,h2⟩;apply Array.ext (by simp[hsz])
 intro i g1 g2;have:i=0∨i=1∨i=2:=qqO;rcases this with rfl|rfl|rfl<;>simp[Array.getD_eq_getD_getElem?,g1]
def wL:PSp:=fun xs K=>match xs with
 | [.int .u64 x,.int .u64 y,.int .u64 c]=>VC (0≤x∧0≤y∧0≤c∧c≤1)∧K (.tup [.int .u64 ((x+y+c) % 18446744073709551616),.int .u64 ((x+y+c) / 18446744073709551616)])
 |_=>False
theorem zx:IZ Tryz.prog 231 wL:=by
 intro xs K hk;unfold wL at hk;split at hk
 ·refine⟨_,hk.2,fun S w vs h=>?_⟩
  rename_i x y c;obtain⟨h1,h2,h3,h4⟩:=hk.1.get;obtain⟨u,v,t,rfl,r1,r2,r3⟩:=agM h;cases r1;cases r2;cases r3
  refine⟨_,?_,.tup _ _ #[.int .u64 ((x+y+c) % 18446744073709551616),.int .u64 ((x+y+c) / 18446744073709551616)] rfl fun i hi=>?_⟩
  ·rw[run_callFunc_extern (e:=add64Entry) Tryz.func231 qqR qqR qqR qqR,run_add64 _ _ _ h1 h2 h3 h4]
   rfl
  ·have:i=0∨i=1:=by simp at hi;omega
   rcases this with rfl|rfl<;>exact .int _ _ _
 ·exact hk.elim
def TH:Array Value→Sem Value:=fun args=>do
 let(x,y,b)←Extern.MathBitsCarry.three "Sub64" args
 pure (Extern.MathBitsCarry.pair ((x+Extern.MathBitsCarry.m64-y-b) % Extern.MathBitsCarry.m64) (if x<y+b then 1 else 0))
theorem Ql {P:Program} (x y b:Nat) (hb:b≤1) (w:World):
 (TH #[.int .u64 x,.int .u64 y,.int .u64 b]).run P w=
  .ok (.tuple #[.int .u64 (((x+18446744073709551616-y-b) % 18446744073709551616:Nat):Int),.int .u64 ((if x<y+b then 1 else 0:Nat):Int)]) w:=by
 have:b=0∨b=1:=qqO;rcases this with rfl|rfl<;>rfl
def Bz:PSp:=fun xs K=>match xs with
 | [.int .u64 x,.int .u64 y,.int .u64 c]=>VC (0≤x∧x<18446744073709551616∧0≤y∧y<18446744073709551616∧0≤c∧c≤1)∧K (.tup [.int .u64 ((x-y-c) % 18446744073709551616),.int .u64 (if x<y+c then 1 else 0)])
 |_=>False
theorem Je:IZ Tryz.prog 233 Bz:=by
 intro xs K hk;unfold Bz at hk;split at hk
 ·refine⟨_,hk.2,fun S w vs h=>?_⟩
  rename_i x y c;obtain⟨h1,h1',h2,h2',h3,h4⟩:=hk.1.get;obtain⟨u,v,t,rfl,r1,r2,r3⟩:=agM h;cases r1;cases r2;cases r3
  obtain⟨X,rfl⟩:=am4 h1;obtain⟨Y,rfl⟩:=am4 h2;obtain⟨C,rfl⟩:=am4 h3;refine⟨_,?_,.tup _ _ #[.int .u64 (((X:Int)-Y-C) % 18446744073709551616),.int .u64 (if(X:Int)<Y+C then 1 else 0)] rfl fun i hi=>?_⟩
  ·rw[run_callFunc_extern (e:=TH) Tryz.func233 qqR qqR qqR qqR,Ql X Y C qqO]
   have e1:(((X+18446744073709551616-Y-C) % 18446744073709551616:Nat):Int)=((X:Int)-Y-C) % 18446744073709551616:=qqO;have e2:((if X<Y+C then 1 else 0:Nat):Int)=if(X:Int)<Y+C then 1 else 0:=by split<;>split<;>omega
   rw[e1,e2];rfl
  ·have:i=0∨i=1:=by simp at hi;omega
   rcases this with rfl|rfl<;>exact .int _ _ _
 ·exact hk.elim
theorem TI (l:List Int) (hl:l.length≤1000000000000):aD Tryz.prog 232 [.isl (.ints .u64 l) .none] (.isl (.ints .u64 (trm l)) .none):=by
 have t0:∀k,k<l.length→l.getD k 0=0→trm (l.take (k+1))=trm (l.take k):=fun k h h0=>I9 h h0;have t1:∀k,k<l.length→l.getD k 0≠0→trm (l.take (k+1))=l.take (k+1):=fun k h h0=>Ja h h0;have t2:trm (l.take 0)=l.take 0:=rfl;have t3:trm l=trm (l.take l.length):=by rw[amJ]
 rw[t3];generalize trm=T at*
 refine ay (md:=1) (rf:=[]) mixed av aG Tryz.func232 qqR qqR qqR ?_
 repeat'((conv=>whnf);first|(intro hq;(try simp only[vw]at hq);try exact ak hq)|apply aI|exact aj|apply nM|apply fM)
 all_goals((try apply vM);(try simp only[vq]at*);try omega)
 conv=>whnf
 refine aV (X:=Nat) (fun k=>k≤l.length∧T (l.take l.length)=T (l.take k)) (fun k=>[(3,.int .i64 k)]) (fun k=>[]) (fun k=>k) l.length ⟨aL,mixed,av,aG,aU⟩ qqR ⟨qqO,rfl⟩ ?_ ?_
 ·all_goals exact aW
 intro k ⟨hk,hT⟩;rw[hT];have hk1:((k:Int)-1).toNat=k-1:=qqO;cases k with
 |zero=>
  repeat'((conv=>whnf);first|(intro hq;(try simp only[vw]at hq);try exact ak hq)|apply aI|exact aj|apply nM|apply fM)
  all_goals((try apply vM);(try simp only[vq]at*);try omega)
  all_goals(refine Sup.of ?_;rw[t2];simp[dX,CL.sub])
 |succ k=>
  rw[show((k+1:Nat):Int)=(k:Int)+1 by omega]at*
  have e:((k:Int)+1-1).toNat=k:=qqO
  repeat'((conv=>whnf);first|(intro hq;(try simp only[vw]at hq);try exact ak hq)|apply aI|exact aj|apply nM|apply fM)
  all_goals((try apply vM);(try simp only[vq]at*);try omega)
  ·rw[e]at hq
   refine⟨k,[],⟨⟨qqO,t0 k qqO hq⟩,qqO⟩,?_⟩;rw[show(k:Int)=(k:Int)+1-1 by omega]
   all_goals exact aW
  ·rw[e]at hq
   refine Sup.of ?_;rw[t1 k qqO hq];simp[dX,CL.sub];try omega
def uo:PSp:=fun xs K=>match xs with
 | [.isl (.ints .u64 l) .none]=>VC (l.length≤1000000000000)∧K (.isl (.ints .u64 (trm l)) .none)
 |_=>False
theorem rR:POK Tryz.prog 232 uo:=by
 intro xs K h;unfold uo at h;split at h
 ·exact⟨_,h.2,TI _ h.1.get⟩
 ·exact h.elim
abbrev vw (l:List Int):Nat:=vl W l
abbrev Dw (l:List Int):Prop:=Dg W l
theorem dM (x:Nat):vw (dl W x)=x:=xW W2 x
theorem bV (x:Nat):Dw (dl W x):=aio W2 x
def iU (x y:Nat):Int:=if x<y then-1 else if y<x then 1 else 0
theorem Xx (x y:Nat) (hx:(dl W x).length≤1000000000000) (hy:(dl W y).length≤1000000000000):aD Tryz.prog 187 [.isl (wd x) .none,.isl (wd y) .none] (.int .i64 (iU x y)):=by
 have g1:=dz W2 x;have g2:=dz W2 y;have c1:(dl W x).length<(dl W y).length→iU x y= -1:=fun h=>by have:=MC W2 h;unfold iU;rw[if_pos this]
 have c2:(dl W y).length<(dl W x).length→iU x y=1:=fun h=>by have:=MC W2 h;unfold iU;rw[if_neg qqO,if_pos this]
 have c3:∀i,x / W ^ (i+1)=y / W ^ (i+1)→(dl W x).getD i 0<(dl W y).getD i 0→iU x y= -1:=fun i h hd=>by
  rw[g1,g2]at hd;have:=Tw W2 h qqO;unfold iU;rw[if_pos this]
 have c4:∀i,x / W ^ (i+1)=y / W ^ (i+1)→(dl W y).getD i 0<(dl W x).getD i 0→iU x y=1:=fun i h hd=>by
  rw[g1,g2]at hd;have:=Tw W2 h.symm qqO;unfold iU;rw[if_neg qqO,if_pos this]
 have c5:∀i,x / W ^ (i+1)=y / W ^ (i+1)→(dl W x).getD i 0=(dl W y).getD i 0→x / W ^ i=y / W ^ i:=fun i h hd=>by
  rw[g1,g2]at hd;exact cmp_eq h qqO
 have c6:x / W ^ 0=y / W ^ 0→iU x y=0:=fun h=>by
  simp at h;unfold iU;rw[if_neg qqO,if_neg qqO]
 have c7:(dl W x).length=(dl W y).length→x / W ^ (dl W x).length=y / W ^ (dl W x).length:=fun h=>by
  rw[akV (fP W2 x),akV (by rw[h];exact fP W2 y)]
 unfold wd;generalize(fun i=>x / W ^ i)=X at*
 generalize dl W x=l at*
 generalize dl W y=m at*
 generalize iU x y=r at*
 refine ay (md:=1) (rf:=[]) mixed av aG Tryz.func187 qqR qqR qqR ?_
 repeat'((conv=>whnf);first|(intro hq;(try simp only[vw]at hq);try exact ak hq)|apply aI|exact aj|apply nM|apply fM)
 all_goals((try apply vM);(try simp only[vq]at*);try omega)
 all_goals(try(first|(rw[c1 qqO];exact Sup.of rfl)|(rw[c2 qqO];exact Sup.of rfl)))
 conv=>whnf
 refine aV (X:=Nat) (fun k=>k≤l.length∧x / W ^ k=y / W ^ k) (fun k=>[(5,.int .i64 ((k:Int)-1))]) (fun k=>[]) (fun k=>k) l.length ⟨aL,mixed,av,aG,aU⟩ qqR ⟨qqO,c7 qqO⟩ ?_ ?_
 ·all_goals exact aW
 intro k ⟨hk,hT⟩;cases k with
 |zero=>
  rw[c6 hT];all_goals exact vZ
 |succ k=>
  rw[show((k+1:Nat):Int)-1=(k:Int) by omega]
  repeat'((conv=>whnf);first|(intro hq;(try simp only[vw]at hq);try exact ak hq)|apply aI|exact aj|apply nM|apply fM)
  all_goals((try apply vM);(try simp only[vq]at*);try omega)
  all_goals first
   |(rw[c3 k hT qqA];exact Sup.of rfl)
   |(rw[c4 k hT qqO];exact Sup.of rfl)
   |(refine⟨k,[],⟨⟨qqO,c5 k hT qqO⟩,qqO⟩,?_⟩
     repeat'((conv=>whnf);first|intro _|apply aI|exact aj|apply nM|apply fM)
     all_goals((try apply vM);(try simp only[vq]at*);try omega))
   |omega
def BA:PSp:=fun xs K=>match xs with
 | [.isl (.ints .u64 l) .none,.isl (.ints .u64 m) .none]=>VC (Dw l∧Dw m∧l.length≤1000000000000∧m.length≤1000000000000)∧K (.int .i64 (iU (vw l) (vw m)))
 |_=>False
theorem Di:POK Tryz.prog 187 BA:=by
 intro xs K hk;unfold BA at hk;split at hk
 ·obtain⟨h1,h2,h3,h4⟩:=hk.1.get
  rename_i l m;obtain⟨x,rfl⟩:=kC h1;obtain⟨y,rfl⟩:=kC h2;refine⟨_,hk.2,?_⟩;rw[dM,dM];exact Xx x y h3 h4
 ·exact hk.elim
noncomputable def cpA:CPT:=aB 231 (aP wL) (aB 232 (tZ uo) noC)
theorem BD:bD Tryz.prog cpA:=au (nQ zx) (au (pQ rR) aG)
theorem TJ (n x:Nat) (k:Nat) (h:k=n):akP k 0=dm W n 0 x 0:=by rw[h,xV,rQ]
theorem iY {α:Type} (l:List α) (k:Nat) (h:k=l.length):(l.drop 0).take (k-0)=l:=by rw[h];simp
theorem agN (x y i:Nat):((dl W x).getD i 0+(dl W y).getD i 0+(ca W x y i:Nat)) % 18446744073709551616=(((x+y) / W ^ i % W:Nat):Int)∧((dl W x).getD i 0+(dl W y).getD i 0+(ca W x y i:Nat)) / 18446744073709551616=(ca W x y (i+1):Nat):=by
 rw[dz W2,dz W2,←Jb W2,←MF W2];generalize x / W ^ i % W=a
 generalize y / W ^ i % W=b
 generalize ca W x y i=c
 unfold W;omega
theorem agO (x y:Nat) (h:(dl W y).length≤(dl W x).length):trm ((dm W ((dl W x).length+1) (dl W x).length (x+y) 0).set (dl W x).length (ca W x y (dl W x).length:Nat))=dl W (x+y):=by
 have h1:=fP W2 x;have h2:y<W ^ (dl W x).length:=akv (fP W2 y) (amN qqD h);have h3:=GK W2 x y (dl W x).length;rw[pX qqO,Bv _ _ (aku _),pY W2]
 ·rw[amx]
  unfold W at*;omega
 ·rw[←agF h1 h2,akX (by unfold W at*;omega)]
theorem TK (x y:Nat) (hx:(dl W x).length≤900000000000) (hy:(dl W y).length≤900000000000):aD Tryz.prog 186 [.isl (wd x) .none,.isl (wd y) .none] (.isl (wd (x+y)) .none):=by
 by_cases hlt:(dl W x).length<(dl W y).length
 ·rw[am5]
  refine ay (md:=1) (rf:=[]) mixed av BD Tryz.func186 qqR qqR qqR ?_
  repeat'((conv=>whnf);first|(intro hq;(try simp only[vw]at hq);try exact ak hq)|apply aI|exact aj|apply nM|apply fM)
  all_goals((try apply vM);(try simp only[vq]at*);try omega)
  ·exact .inl trivial
  conv=>whnf
  refine aV (X:=Nat) (fun i=>i≤(dl W y).length) (fun i=>[(22,.int .i64 i),(6,.int .u64 (ca W y x i:Nat)),(7,.any),(8,.any)]) (fun i=>[(0,.cells (.ints .u64 (dm W ((dl W y).length+1) i (y+x) 0)) false)]) (fun i=>(dl W y).length-i) 0 ⟨aL,mixed,av,BD,aU⟩ qqR qqO ?_ ?_
  ·all_goals exact EH
  intro i hi;have hc:=GK W2 y x i;have hr1:=dz W2 y i;have hr2:=dz W2 x i;obtain⟨hA,hB⟩:=agN y x i;have hz:(dl W x).length≤i→(dl W x).getD i 0=0:=fun h=>by rw[akG,amD h];rfl
  have hA0:(dl W x).length≤i→((dl W y).getD i 0+0+(ca W y x i:Nat)) % 18446744073709551616=(((y+x) / W ^ i % W:Nat):Int):=fun h=>by rw[hz h]at hA;exact hA
  have hB0:(dl W x).length≤i→((dl W y).getD i 0+0+(ca W y x i:Nat)) / 18446744073709551616=(ca W y x (i+1):Nat):=fun h=>by rw[hz h]at hB;exact hB
  have hm:=jU W ((dl W y).length+1) i (y+x) 0;by_cases e:i=(dl W y).length
  ·subst e
   repeat'((conv=>whnf);first|(intro hq;(try simp only[vw]at hq);try exact ak hq)|apply aI|exact aj|apply nM|apply fM)
   all_goals((try apply vM);(try simp only[vq]at*);try omega)
   all_goals first
    |(rw[iY _ _ (by rw[ak3,hm];omega),agO _ _ qqO]
      exact Sup.of rfl)
    |(rw[iY _ _ (by rw[ak3,hm];omega),ak3,hm];omega)
    |(rw[ak3,hm];omega)
    |(rw[hm];omega)
  ·all_goals exact EI
 ·skip
  refine ay (md:=1) (rf:=[]) mixed av BD Tryz.func186 qqR qqR qqR ?_
  repeat'((conv=>whnf);first|(intro hq;(try simp only[vw]at hq);try exact ak hq)|apply aI|exact aj|apply nM|apply fM)
  all_goals((try apply vM);(try simp only[vq]at*);try omega)
  ·exact .inl trivial
  conv=>whnf
  refine aV (X:=Nat) (fun i=>i≤(dl W x).length) (fun i=>[(22,.int .i64 i),(6,.int .u64 (ca W x y i:Nat)),(7,.any),(8,.any)]) (fun i=>[(0,.cells (.ints .u64 (dm W ((dl W x).length+1) i (x+y) 0)) false)]) (fun i=>(dl W x).length-i) 0 ⟨aL,mixed,av,BD,aU⟩ qqR qqO ?_ ?_
  ·all_goals exact EH
  intro i hi;have hc:=GK W2 x y i;have hr1:=dz W2 x i;have hr2:=dz W2 y i;obtain⟨hA,hB⟩:=agN x y i;have hz:(dl W y).length≤i→(dl W y).getD i 0=0:=fun h=>by rw[akG,amD h];rfl
  have hA0:(dl W y).length≤i→((dl W x).getD i 0+0+(ca W x y i:Nat)) % 18446744073709551616=(((x+y) / W ^ i % W:Nat):Int):=fun h=>by rw[hz h]at hA;exact hA
  have hB0:(dl W y).length≤i→((dl W x).getD i 0+0+(ca W x y i:Nat)) / 18446744073709551616=(ca W x y (i+1):Nat):=fun h=>by rw[hz h]at hB;exact hB
  have hm:=jU W ((dl W x).length+1) i (x+y) 0;by_cases e:i=(dl W x).length
  ·subst e
   repeat'((conv=>whnf);first|(intro hq;(try simp only[vw]at hq);try exact ak hq)|apply aI|exact aj|apply nM|apply fM)
   all_goals((try apply vM);(try simp only[vq]at*);try omega)
   all_goals first
    |(rw[iY _ _ (by rw[ak3,hm];omega),agO _ _ qqO]
      exact Sup.of rfl)
    |(rw[iY _ _ (by rw[ak3,hm];omega),ak3,hm];omega)
    |(rw[ak3,hm];omega)
    |(rw[hm];omega)
  ·all_goals exact EI
def Qm:PSp:=fun xs K=>match xs with
 | [.isl (.ints .u64 l) .none,.isl (.ints .u64 m) .none]=>VC (Dw l∧Dw m∧l.length≤900000000000∧m.length≤900000000000)∧K (.isl (wd (vw l+vw m)) .none)
 |_=>False
theorem adp:POK Tryz.prog 186 Qm:=by
 intro xs K hk;unfold Qm at hk;split at hk
 ·obtain⟨h1,h2,h3,h4⟩:=hk.1.get
  rename_i l m;obtain⟨x,rfl⟩:=kC h1;obtain⟨y,rfl⟩:=kC h2;refine⟨_,hk.2,?_⟩;rw[dM,dM];exact TK x y h3 h4
 ·exact hk.elim
noncomputable def cpS:CPT:=aB 233 (aP Bz) (aB 232 (tZ uo) noC)
theorem TL:bD Tryz.prog cpS:=au (nQ Je) (au (pQ rR) aG)
theorem ai5 {x y:Nat} (h:y≤x) (i:Nat):((dl W x).getD i 0-(dl W y).getD i 0-(bo W x y i:Nat)) % 18446744073709551616=(((x-y) / W ^ i % W:Nat):Int)∧(if(dl W x).getD i 0<(dl W y).getD i 0+(bo W x y i:Nat)then(1:Int)else 0)=(bo W x y (i+1):Nat):=by
 rw[dz W2,dz W2,←Tz W2 h,Dh W2];generalize x / W ^ i % W=a
 generalize y / W ^ i % W=b
 generalize bo W x y i=c
 refine⟨rfl,?_⟩;split<;>split<;>omega
theorem rG (x i:Nat):0≤(dl W x).getD i 0∧(dl W x).getD i 0<18446744073709551616:=by
 rw[dz W2];have:=alc (x / W ^ i) (by decide:W>0)
 unfold W at*;omega
theorem TM (x y:Nat) (hx:(dl W x).length≤900000000000) (h:y≤x):aD Tryz.prog 188 [.isl (wd x) .none,.isl (wd y) .none] (.isl (wd (x-y)) .none):=by
 have hyx:(dl W y).length≤(dl W x).length:=lF W2 (am6 h (fP W2 x));have hend:trm (dm W (dl W x).length (dl W x).length (x-y) 0)=dl W (x-y):=by
  rw[Bv _ _ (aku _),pY W2];have:=fP W2 x;omega
 refine ay (md:=1) (rf:=[]) mixed av TL Tryz.func188 qqR qqR qqR ?_
 repeat'((conv=>whnf);first|(intro hq;(try simp only[vw]at hq);try exact ak hq)|apply aI|exact aj|apply nM|apply fM)
 all_goals((try apply vM);(try simp only[vq]at*);try omega)
 ·exact .inl trivial
 conv=>whnf
 refine aV (X:=Nat) (fun i=>i≤(dl W x).length) (fun i=>[(14,.int .i64 i),(6,.int .u64 (bo W x y i:Nat)),(7,.any),(8,.any)]) (fun i=>[(0,.cells (.ints .u64 (dm W (dl W x).length i (x-y) 0)) false)]) (fun i=>(dl W x).length-i) 0 ⟨aL,mixed,av,TL,aU⟩ qqR qqO ?_ ?_
 ·repeat'((conv=>whnf);first|intro _|apply aI|exact aj|apply nM|apply fM)
  all_goals((try apply vM);(try simp only[vq]at*);try omega)
  ·rw[MG];rfl
  ·exact TJ _ _ _ qqO
 intro i hi;have hc:=Qg W x y i;have hr1:=rG x i;have hr2:=rG y i;obtain⟨hA,hB⟩:=ai5 h i;have hz:(dl W y).length≤i→(dl W y).getD i 0=0:=fun h=>by rw[akG,amD h];rfl
 have hA0:(dl W y).length≤i→((dl W x).getD i 0-0-(bo W x y i:Nat)) % 18446744073709551616=(((x-y) / W ^ i % W:Nat):Int):=fun h=>by rw[hz h]at hA;exact hA
 have hB0:(dl W y).length≤i→(if(dl W x).getD i 0<0+(bo W x y i:Nat)then(1:Int)else 0)=(bo W x y (i+1):Nat):=fun h=>by rw[hz h]at hB;exact hB
 have hm:=jU W (dl W x).length i (x-y) 0;by_cases e:i=(dl W x).length
 ·subst e
  repeat'((conv=>whnf);first|(intro hq;(try simp only[vw]at hq);try exact ak hq)|apply aI|exact aj|apply nM|apply fM)
  all_goals((try apply vM);(try simp only[vq]at*);try omega)
  all_goals first
   |(rw[iY _ _ qqO,hend]
     exact Sup.of rfl)
   |(rw[iY _ _ qqO,hm];omega)
   |(rw[hm];omega)
 ·repeat'((conv=>whnf);first|(intro hq;(try simp only[vw]at hq);try exact ak hq)|apply aI|exact aj|apply nM|apply fM)
  all_goals((try apply vM);(try simp only[vq]at*);try omega)
  all_goals first
   |(rw[hm];omega)
   |(refine⟨qqO,qqO,qqO,qqO,qqO,qqO⟩)
   |(first|rw[hA,hB]|rw[hA0 qqO,hB0 qqO]
     rw[pX qqO rfl];refine⟨i+1,[],⟨qqO,qqO⟩,?_⟩;rw[show((i+1:Nat):Int)=(i:Int)+1 by omega]
     all_goals exact aW)
def Qn:PSp:=fun xs K=>match xs with
 | [.isl (.ints .u64 l) .none,.isl (.ints .u64 m) .none]=>VC (Dw l∧Dw m∧l.length≤900000000000∧vw m≤vw l)∧K (.isl (wd (vw l-vw m)) .none)
 |_=>False
theorem adq:POK Tryz.prog 188 Qn:=by
 intro xs K hk;unfold Qn at hk;split at hk
 ·obtain⟨h1,h2,h3,h4⟩:=hk.1.get
  rename_i l m;obtain⟨x,rfl⟩:=kC h1;obtain⟨y,rfl⟩:=kC h2;refine⟨_,hk.2,?_⟩;rw[dM,dM]at*;exact TM x y h3 h4
 ·exact hk.elim
theorem dF (n:Nat) (h:n<18446744073709551616):IntKind.u64.wrap (n:Int)=n:=by
 simp only[IntKind.wrap,IntKind.bits,IntKind.signed];simp;omega
theorem xY (n:Nat):IntKind.u64.wrap (n:Int)=((n % 18446744073709551616:Nat):Int):=by
 simp only[IntKind.wrap,IntKind.bits,IntKind.signed];simp
theorem nG (m i:Nat) (h:m<18446744073709551616):(akO IntKind.u64.bits (m:Int)).getLsbD i=(decide (i<64)&&m.testBit i):=by
 show(akO 64 (m:Int)).getLsbD i=_;rw[BitVec.ofInt_natCast,BitVec.getLsbD_ofNat]
theorem adr {m n k:Nat} (hm:m<18446744073709551616) (hn:n<18446744073709551616) (h:∀i,i<64→k.testBit i=(m.testBit i&&n.testBit i)) (hk:k<18446744073709551616):
 IntKind.u64.wrap ((akO IntKind.u64.bits (m:Int)&&& akO IntKind.u64.bits (n:Int)).toNat:Int)=k:=by
 have e:(akO IntKind.u64.bits (m:Int)&&& akO IntKind.u64.bits (n:Int)).toNat=k:=by
  apply am7;intro i;rw[am8,BitVec.getLsbD_and,nG m i hm,nG n i hn];by_cases hi:i<64
  ·rw[h i hi];simp[hi]
  ·rw[am9 (x:=k) (i:=i) (by have:=amN (n:=2) qqO (show 64≤i by omega);omega)];simp[hi]
 rw[e,dF _ hk]
theorem Jf {m n k:Nat} (hm:m<18446744073709551616) (hn:n<18446744073709551616) (h:∀i,i<64→k.testBit i=(m.testBit i||n.testBit i)) (hk:k<18446744073709551616):
 IntKind.u64.wrap ((akO IntKind.u64.bits (m:Int)|||akO IntKind.u64.bits (n:Int)).toNat:Int)=k:=by
 have e:(akO IntKind.u64.bits (m:Int)|||akO IntKind.u64.bits (n:Int)).toNat=k:=by
  apply am7;intro i;rw[am8,BitVec.getLsbD_or,nG m i hm,nG n i hn];by_cases hi:i<64
  ·rw[h i hi];simp[hi]
  ·rw[am9 (x:=k) (i:=i) (by have:=amN (n:=2) qqO (show 64≤i by omega);omega)];simp[hi]
 rw[e,dF _ hk]
theorem rT (n:Nat) (h:n<18446744073709551616):IntKind.u64.wrap ((akO IntKind.u64.bits (n:Int)&&& akO IntKind.u64.bits 4294967295).toNat:Int)=((n % 4294967296:Nat):Int):=by
 refine adr (n:=4294967295) h qqO (fun i hi=>?_) qqO;rw[show(4294967296:Nat)=2 ^ 32 from rfl,Nat.testBit_mod_two_pow,show(4294967295:Nat)=2 ^ 32-1 from rfl,Nat.testBit_two_pow_sub_one,Bool.and_comm]
theorem Jg (a:Int):0≤IntKind.u64.wrap a:=by
 simp only[IntKind.wrap,IntKind.bits,IntKind.signed];simp;omega
theorem p32:(2:Int) ^ ana 32=((4294967296:Nat):Int):=qqD
theorem Qo (x y:Nat) (hx:x<18446744073709551616) (hy:y<18446744073709551616):aD Tryz.prog 189 [.int .u64 x,.int .u64 y] (.tup [.int .u64 ((x*y / 18446744073709551616:Nat):Int),.int .u64 ((x*y % 18446744073709551616:Nat):Int)]):=by
 have d32:ana 32≤IntKind.u64.bits:=qqD;obtain⟨bd,bt,bw,hhi⟩:=Lib.mul64_hi x y hx hy;have ba:=Lib.half_mul_le (a:=x / 4294967296) (b:=y / 4294967296) qqO qqO;have bb:=Lib.half_mul_le (a:=x / 4294967296) (b:=y % 4294967296) qqO qqO;have bc:=Lib.half_mul_le (a:=x % 4294967296) (b:=y / 4294967296) qqO qqO;have e1:=rT x hx;have e2:=rT y hy;have e3:(x:Int) / 2 ^ ana 32=((x / 4294967296:Nat):Int):=by rw[p32];omega
 have e4:(y:Int) / 2 ^ ana 32=((y / 4294967296:Nat):Int):=by rw[p32];omega
 have dv:∀a:Nat,(a:Int) / 2 ^ ana 32=((a / 4294967296:Nat):Int):=fun a=>by rw[p32];omega
 have ml:∀a b:Nat,(a:Int)*(b:Int)=((a*b:Nat):Int):=fun a b=>(anb a b).symm;have ad:∀a b:Nat,(a:Int)+(b:Int)=((a+b:Nat):Int):=fun a b=>(anc a b).symm;have ba':x / 4294967296*(y / 4294967296)<18446744073709551616:=qqO;have bb':x / 4294967296*(y % 4294967296)<18446744073709551616:=qqO;have bc':x % 4294967296*(y / 4294967296)<18446744073709551616:=qqO;have bh1:x / 4294967296*(y / 4294967296)+(x / 4294967296*(y % 4294967296)+x % 4294967296*(y % 4294967296) / 4294967296) / 4294967296<18446744073709551616:=qqO;have bq:x*y / 18446744073709551616<18446744073709551616:=by rw[←hhi];omega
 have bh:x / 4294967296*(y / 4294967296)+(x / 4294967296*(y % 4294967296)+x % 4294967296*(y % 4294967296) / 4294967296) / 4294967296+((x / 4294967296*(y % 4294967296)+x % 4294967296*(y % 4294967296) / 4294967296) % 4294967296+x % 4294967296*(y / 4294967296)) / 4294967296<18446744073709551616:=qqO;refine ay (md:=2) (rf:=[]) mixed av aG Tryz.func189 qqR qqR qqR ?_
 repeat'((conv=>whnf);first|(intro hq;(try simp only[vw]at hq);try exact ak hq)|apply aI|exact aj|apply nM|apply fM)
 all_goals((try apply vM);(try simp only[vq]at*);try omega)
 all_goals first
  |exact Jg _
  |(simp only[e1,e2,dv,ml,ad,dF _ bd,dF _ bb',dF _ bt,rT _ bt,dF _ bc',dF _ bw,dF _ ba',dF _ bh1,dF _ bh,xY (x*y),hhi,dF _ bq]
    exact Sup.of rfl)
def rU:PSp:=fun xs K=>match xs with
 | [.int .u64 x,.int .u64 y]=>VC (0≤x∧x<18446744073709551616∧0≤y∧y<18446744073709551616)∧K (.tup [.int .u64 (x*y / 18446744073709551616),.int .u64 (x*y % 18446744073709551616)])
 |_=>False
theorem uq:POK Tryz.prog 189 rU:=by
 intro xs K hk;unfold rU at hk;split at hk
 ·obtain⟨h1,h2,h3,h4⟩:=hk.1.get
  rename_i x y;obtain⟨X,rfl⟩:=am4 h1;obtain⟨Y,rfl⟩:=am4 h3;refine⟨_,hk.2,?_⟩;have:=Qo X Y qqO qqO;have e1:((X*Y / 18446744073709551616:Nat):Int)=(X:Int)*Y / 18446744073709551616:=by rw[←anb];omega
  have e2:((X*Y % 18446744073709551616:Nat):Int)=(X:Int)*Y % 18446744073709551616:=by rw[←anb];omega
  rw[e1,e2]at this;exact this
 ·exact hk.elim
noncomputable def cpM:CPT:=aB 189 (aP rU) (aB 231 (aP wL) (aB 232 (tZ uo) noC))
theorem Jh:bD Tryz.prog cpM:=au (aC uq) (au (nQ zx) (au (pQ rR) aG))
theorem ads {n x y i j:Nat} (h:i+j<n) {d:Int} (hd:d=((tj W x y i (j+1) / W ^ (i+j) % W:Nat):Int)):(dm W n (i+j) (tj W x y i j) (x % W ^ i*y)).set (i+j) d=dm W n (i+(j+1)) (tj W x y i (j+1)) (x % W ^ i*y):=by
 rw[I7 (x':=tj W x y i (j+1)) (z':=x % W ^ i*y) (fun k hk _=>(agH W2 x y i j k hk).symm) (fun _ _ _=>rfl),pX h hd];rfl
theorem MU (n i x:Nat):dm W n i x x=dn W n x:=by
 unfold dm dn;refine amE fun k hk=>?_;split<;>rfl
theorem agP {n x y i m:Nat} (hy:y<W ^ m) (h:i+m<n):(dm W n (i+m) (tj W x y i m) (x % W ^ i*y)).set (i+m) (cm W x y i m:Nat)=dn W n (x % W ^ (i+1)*y):=by
 have hl:=abb W2 x y i m;have e:=adn W2 x i hy;have o1:=Jc W2 x i hy;have hT:x % W ^ (i+1)*y<W ^ (i+m+1):=by
  have:=Jc W2 x (i+1) hy;rw[show i+1+m=i+m+1 by omega]at this
  exact(ane (pw W2 _)).1 this
 have hd:((cm W x y i m:Nat):Int)=((x % W ^ (i+1)*y / W ^ (i+m) % W:Nat):Int):=by
  rw[e]at hl⊢;rw[akX hl]
 rw[TA x i hy,pX h hd];rw[←MU n (i+m+1)];refine I7 (fun _ _ _=>rfl) fun k hk _=>?_;have g1:x % W ^ i*y<W ^ (i+m):=(ane (pw W2 _)).1 o1;have g2:W ^ (i+m)≤W ^ k:=amN qqD qqO;have g3:W ^ (i+m+1)≤W ^ k:=amN qqD hk;rw[akV qqO,akV qqO]
theorem ai6 (x y i j n:Nat) (h:i+j<n):∃P O:Int,(dl W x).getD i 0*(dl W y).getD j 0=P∧(dm W n (i+j) (tj W x y i j) (x % W ^ i*y)).getD (i+j) 0=O∧0≤P∧P≤340282366920938463426481119284349108225∧0≤O∧O<18446744073709551616∧
 P / 18446744073709551616+(P % 18446744073709551616+O+0) / 18446744073709551616+((P % 18446744073709551616+O+0) % 18446744073709551616+(cm W x y i j:Nat)+0) / 18446744073709551616=(cm W x y i (j+1):Nat)∧
 ((P % 18446744073709551616+O+0) % 18446744073709551616+(cm W x y i j:Nat)+0) % 18446744073709551616=((tj W x y i (j+1) / W ^ (i+j) % W:Nat):Int):=by
 refine⟨((x / W ^ i % W*(y / W ^ j % W):Nat):Int),((x % W ^ i*y / W ^ (i+j) % W:Nat):Int),?_,?_,?_⟩
 ·rw[dz W2,dz W2,anb]
 ·rw[oN _ _ _ _ _ _ h,if_neg qqO]
 ·rw[←MK W2,←agG W2]
  have h1:=alc (x / W ^ i) (by decide:W>0)
  have h2:=alc (y / W ^ j) (by decide:W>0)
  have h3:=alc (x % W ^ i*y / W ^ (i+j)) (by decide:W>0)
  have h4:=alE (show x / W ^ i % W≤18446744073709551615 by unfold W at*;omega) (show y / W ^ j % W≤18446744073709551615 by unfold W at*;omega)
  generalize x / W ^ i % W*(y / W ^ j % W)=a at*
  generalize x % W ^ i*y / W ^ (i+j) % W=b at*
  generalize cm W x y i j=c at*
  unfold W at*;refine⟨qqO,qqO,qqO,qqO,qqO,qqO⟩
theorem TN (x y:Nat) (hx:(dl W x).length≤400000000000) (hy:(dl W y).length≤400000000000):aD Tryz.prog 191 [.isl (wd x) .none,.isl (wd y) .none] (.isl (wd (x*y)) .none):=by
 have hly:=fP W2 y;have hend:trm (dn W ((dl W x).length+(dl W y).length) (x % W ^ (dl W x).length*y))=dl W (x*y):=by
  rw[akX (fP W2 x),pY W2];rw[amK];exact anf (fP W2 x) hly
 refine ay (md:=1) (rf:=[]) mixed av Jh Tryz.func191 qqR qqR qqR ?_
 repeat'((conv=>whnf);first|(intro hq;(try simp only[vw]at hq);try exact ak hq)|apply aI|exact aj|apply nM|apply fM)
 all_goals((try apply vM);(try simp only[vq]at*);try omega)
 ·exact .inl trivial
 conv=>whnf
 refine aV (X:=Nat) (fun i=>i≤(dl W x).length) (fun i=>[(22,.int .i64 i)]) (fun i=>[(0,.cells (.ints .u64 (dn W ((dl W x).length+(dl W y).length) (x % W ^ i*y))) false)]) (fun i=>(dl W x).length-i) 0 ⟨aL,mixed,av,Jh,aU⟩ qqR qqO ?_ ?_
 ·repeat'((conv=>whnf);first|intro _|apply aI|exact aj|apply nM|apply fM)
  all_goals((try apply vM);(try simp only[vq]at*);try omega)
  rw[show x % W ^ 0*y=0 by rw[ang,alg,alu],rQ,show(((dl W x).length:Int)+((dl W y).length:Int)).toNat=(dl W x).length+(dl W y).length by omega]
 intro i hi;have hm0:=fQ W ((dl W x).length+(dl W y).length) (x % W ^ i*y);by_cases e:i=(dl W x).length
 ·subst e
  repeat'((conv=>whnf);first|(intro hq;(try simp only[vw]at hq);try exact ak hq)|apply aI|exact aj|apply nM|apply fM)
  all_goals((try apply vM);(try simp only[vq]at*);try omega)
  ·rw[iY _ _ qqO];omega
  ·rw[iY _ _ qqO,hend]
   exact Sup.of rfl
 ·have hr1:=rG x i
  repeat'((conv=>whnf);first|(intro hq;(try simp only[vw]at hq);try exact ak hq)|apply aI|exact aj|apply nM|apply fM)
  all_goals((try apply vM);(try simp only[vq]at*);try omega)
  conv=>whnf
  refine aV (X:=Nat) (fun j=>j≤(dl W y).length) (fun j=>[(29,.int .i64 j),(8,.int .u64 (cm W x y i j:Nat))]) (fun j=>[(0,.cells (.ints .u64 (dm W ((dl W x).length+(dl W y).length) (i+j) (tj W x y i j) (x % W ^ i*y))) false)]) (fun j=>(dl W y).length-j) 0 ⟨aL,mixed,av,Jh,aU⟩ qqR qqO ?_ ?_
  ·repeat'((conv=>whnf);first|intro _|apply aI|exact aj|apply nM|apply fM)
   all_goals((try apply vM);(try simp only[vq]at*);try omega)
   ·rw[MJ];rfl
   ·rw[MH,MU]
  intro j hj;have hm:=jU W ((dl W x).length+(dl W y).length) (i+j) (tj W x y i j) (x % W ^ i*y);have hc:cm W x y i j<18446744073709551616:=abb W2 x y i j;have hij:((i:Int)+(j:Int)).toNat=i+j:=qqO;by_cases e:j=(dl W y).length
  ·subst e
   repeat'((conv=>whnf);first|(intro hq;(try simp only[vw]at hq);try exact ak hq)|apply aI|exact aj|apply nM|apply fM)
   all_goals((try apply vM);(try simp only[vq]at*);try omega)
   rw[hij,agP hly qqO];refine⟨i+1,[],⟨qqO,qqO⟩,?_⟩;rw[show((i+1:Nat):Int)=(i:Int)+1 by omega]
   all_goals exact aW
  ·have hr2:=rG y j
   obtain⟨P,O,eP,eO,p0,p1,o0,o1,E1,E2⟩:=ai6 x y i j ((dl W x).length+(dl W y).length) qqO
   repeat'((conv=>whnf);first|(intro hq;(try simp only[vw]at hq);try exact ak hq)|apply aI|exact aj|apply nM|apply fM)
   all_goals((try apply vM);(try simp only[vq]at*);try omega)
   all_goals(try rw[hij])
   all_goals(try rw[eP,eO])
   all_goals(try omega)
   all_goals first
    |(rw[E2,ads qqO rfl,E1]
      refine⟨j+1,[],⟨qqO,qqO⟩,?_⟩;rw[show((j+1:Nat):Int)=(j:Int)+1 by omega]
      all_goals exact aW)
    |skip
def Qp:PSp:=fun xs K=>match xs with
 | [.isl (.ints .u64 l) .none,.isl (.ints .u64 m) .none]=>VC (Dw l∧Dw m∧l.length≤400000000000∧m.length≤400000000000)∧K (.isl (wd (vw l*vw m)) .none)
 |_=>False
theorem adt:POK Tryz.prog 191 Qp:=by
 intro xs K hk;unfold Qp at hk;split at hk
 ·obtain⟨h1,h2,h3,h4⟩:=hk.1.get
  rename_i l m;obtain⟨x,rfl⟩:=kC h1;obtain⟨y,rfl⟩:=kC h2;refine⟨_,hk.2,?_⟩;rw[dM,dM];exact TN x y h3 h4
 ·exact hk.elim
theorem TP (n:Int) (h: -9223372036854775808≤n∧n≤9223372036854775807):aD Tryz.prog 190 [.int .i64 n] (.int .u64 (n.natAbs:Nat)):=by
 refine ay (md:=2) (rf:=[]) mixed av aG Tryz.func190 qqR qqR qqR ?_
 repeat'((conv=>whnf);first|(intro hq;(try simp only[vw]at hq);try exact ak hq)|apply aI|exact aj|apply nM|apply fM)
 all_goals((try apply vM);(try simp only[vq]at*);try omega)
 all_goals(refine Sup.of (congrArg (PV.int .u64) ?_);simp only[IntKind.wrap,IntKind.bits,IntKind.signed];simp;omega)
def GN:PSp:=fun xs K=>match xs with
 | [.int .i64 n]=>VC (-9223372036854775808≤n∧n≤9223372036854775807)∧K (.int .u64 (n.natAbs:Nat))
 |_=>False
theorem MV:POK Tryz.prog 190 GN:=by
 intro xs K h;unfold GN at h;split at h
 ·exact⟨_,h.2,TP _ h.1.get⟩
 ·exact h.elim
def smI (n:Int):Prop:= -9223372036854775808≤n∧n≤9223372036854775807
instance (n:Int):Decidable (smI n):=by unfold smI;infer_instance
def ivl (s:Int) (w:List Int):Int:=match w with| []=>s|_=>if s<0 then-(vw w:Int)else(vw w:Int)
theorem cK {P:Program} {g:FuncId} {xs ys:List PV} {u:PV} (h:∀(S:Imm) (w:World) (vs:Array Value),bG S w noI xs vs→bG S w noI ys vs) (hp:aD P g ys u):aD P g xs u:=
 ⟨hp.1,fun S w vs hg hi hA=>hp.2 S w vs hg hi (h S w vs hA)⟩
theorem adu {S:Imm} {w:World} {ι:Ix} {c:CL} {v:Value} (h:Rep S w ι (.nnl c) v):(c.cnt=0→Rep S w ι .nils v)∧(c.cnt≠0→Rep S w ι (.isl c .none) v):=by
 cases h with
 |nnl0 _ _ h=>exact⟨fun _=>.nils _,fun h'=>absurd h h'⟩
 |nnl1 _ _ b off cap h0 hc hs h=>exact⟨fun h'=>absurd h' qqO,fun _=>.isl _ _ _ b off cap hc hs h (fun h=>by cases h) (fun k h=>by cases h)⟩
noncomputable def ai7:CPT:=aB 190 (aP GN) noC
theorem Dj:bD Tryz.prog ai7:=au (aC MV) aG
theorem Dk {S:Imm} {w:World} {p q:PV} (h:∀v,Rep S w noI p v→Rep S w noI q v) {vs:Array Value} (hA:bG S w noI [p] vs):bG S w noI [q] vs:=
 ⟨hA.1,fun i hi=>by
  have:i=0:=by simp at hi;omega
  subst this;exact h _ (hA.2 0 qqS)⟩
theorem Xy (n:Int) (h:smI n):aD Tryz.prog 184 [.agg [.int .i64 n,.nils]] (.tup [.bp (decide (n<0)),.isl (wd n.natAbs) .none]):=by
 unfold smI at h;by_cases h0:n=0
 ·subst h0
  refine ay (md:=1) (rf:=[]) mixed av Dj Tryz.func184 qqR qqR qqR ?_
  repeat'((conv=>whnf);first|(intro hq;(try simp only[vw]at hq);try exact ak hq)|apply aI|exact aj|apply nM|apply fM)
  all_goals((try apply vM);(try simp only[vq]at*);try omega)
  refine Sup.via ?_;all_goals exact mR
 ·
  refine ay (md:=1) (rf:=[]) mixed av Dj Tryz.func184 qqR qqR qqR ?_
  repeat'((conv=>whnf);first|(intro hq;(try simp only[vw]at hq);try exact ak hq)|apply aI|exact aj|apply nM|apply fM)
  all_goals((try apply vM);(try simp only[vq]at*);try omega)
  have e:wd n.natAbs=.ints .u64 [(n.natAbs:Int)]:=by
   unfold wd;rw[nR W2 (x:=n.natAbs) qqO (show n.natAbs<W by unfold W;omega)]
  rw[e];refine Sup.via ?_;all_goals exact mR
theorem TQ (s:Int) (x:Nat) (h:x≠0):aD Tryz.prog 184 [.agg [.int .i64 s,.isl (wd x) .none]] (.tup [.bp (decide (s<0)),.isl (wd x) .none]):=by
 have:0<(dl W x).length:=ak9 fun h'=>h ((gL W2).1 (alY.1 h'));refine ay (md:=1) (rf:=[]) mixed av Dj Tryz.func184 qqR qqR qqR ?_;all_goals exact wm
structure NI where
 s:Int
 w:List Int
abbrev niV (a:NI):PV:=.agg [.int .i64 a.s,.nnl (.ints .u64 a.w)]
def NI.val (a:NI):Int:=ivl a.s a.w
def NI.OK (a:NI):Prop:=(a.w=[]∧smI a.s)∨∃x,a.w=dl W x∧9223372036854775808≤x∧(a.s=1∨a.s= -1)
theorem NI.val_sm {s:Int}:NI.val ⟨s,[]⟩=s:=rfl
theorem NI.val_big {s:Int} {x:Nat} (hx:x≠0):NI.val ⟨s,dl W x⟩=if s<0 then-(x:Int)else x:=by
 have hv:=dM x;cases e:dl W x with
 |nil=>exact absurd ((gL W2).1 e) hx
 |cons d l=>
  rw[e]at hv;unfold NI.val ivl;simp only[hv]
theorem NI.neg_iff {a:NI} (h:a.OK):a.s<0↔a.val<0:=by
 obtain⟨s,w⟩:=a;rcases h with⟨h1,h2⟩|⟨x,h1,h2,h3⟩
 ·simp only at h1;subst h1;exact Iff.rfl
 ·simp only at h1 h3;subst h1
  rw[NI.val_big qqO];simp only;split<;>omega
def mdN (neg:Bool) (x:Nat):NI:=if x<9223372036854775808 then⟨if neg then-x else x,[]⟩else⟨if neg then-1 else 1,dl W x⟩
theorem adv (neg:Bool) (x:Nat):(mdN neg x).val=if neg then-(x:Int)else x:=by
 unfold mdN;split
 ·rw[NI.val_sm]
 ·rw[NI.val_big qqO]
  cases neg<;>simp
theorem BF (neg:Bool) (x:Nat):(mdN neg x).OK:=by
 unfold mdN NI.OK smI;split
 ·left;cases neg<;>simp<;>omega
 ·right;exact⟨x,rfl,qqO,by cases neg<;>simp⟩
theorem p9 {S:Imm} {w:World} {ι:Ix} {a:NI} {v:Value} (h:Rep S w ι (niV a) v):(a.w=[]→Rep S w ι (.agg [.int .i64 a.s,.nils]) v)∧(a.w≠[]→Rep S w ι (.agg [.int .i64 a.s,.isl (.ints .u64 a.w) .none]) v):=by
 cases h with
 |agg _ _ vs hl h=>
  have h0:=h 0 qqS;have h1:=adu (h 1 qqS);constructor
  ·intro hs
   refine .agg _ _ vs hl fun i hi=>?_;have:i=0∨i=1:=by simp at hi;omega
   rcases this with rfl|rfl
   ·exact h0
   ·exact h1.1 (by rw[hs];rfl)
  ·intro hs
   refine .agg _ _ vs hl fun i hi=>?_;have:i=0∨i=1:=by simp at hi;omega
   rcases this with rfl|rfl
   ·exact h0
   ·exact h1.2 (by simp only[CL.cnt];exact fun h=>hs (alY.1 h))
theorem Xz (a:NI) (h:a.OK):aD Tryz.prog 184 [niV a] (.tup [.bp (decide (a.s<0)),.isl (wd a.val.natAbs) .none]):=by
 obtain⟨s,w⟩:=a;rcases h with⟨h1,h2⟩|⟨x,h1,h2,h3⟩
 ·simp only at h1;subst h1
  exact cK (fun S w vs hA=>Dk (fun v hv=>(p9 hv).1 rfl) hA) (Xy s h2)
 ·simp only at h1;subst h1
  have e:(NI.val ⟨s,dl W x⟩).natAbs=x:=by
   rw[NI.val_big qqO];split<;>omega
  rw[e];exact cK (fun S w vs hA=>Dk (fun v hv=>(p9 hv).2 (fun h0=>by have:=(gL W2).1 h0;omega)) hA) (TQ s x qqO)
theorem FE (neg:Bool) (x:Nat) (hl:(dl W x).length≤1000000000000):aD Tryz.prog 185 [.bp neg,.isl (wd x) .none] (niV (mdN neg x)):=by
 by_cases h0:x=0
 ·subst h0
  refine ay (md:=1) (rf:=[]) mixed av aG Tryz.func185 qqR qqR qqR ?_
  repeat'((conv=>whnf);first|(intro hq;(try simp only[vw]at hq);try exact ak hq)|apply aI|exact aj|apply nM|apply fM)
  all_goals((try apply vM);(try simp only[vq]at*);try omega)
  all_goals
   have em:mdN neg 0=⟨0,[]⟩:=by unfold mdN;rw[if_pos qqO];cases neg<;>rfl
   rw[em];refine Sup.via ?_;all_goals exact aW
 by_cases h1:x<18446744073709551616
 ·have e:wd x=.ints .u64 [(x:Int)]:=by
   unfold wd;rw[nR W2 h0 h1]
  have ew:dl W x=[(x:Int)]:=nR W2 h0 h1;rw[e];refine ay (md:=1) (rf:=[]) mixed av aG Tryz.func185 qqR qqR qqR ?_
  repeat'((conv=>whnf);first|(intro hq;(try simp only[vw]at hq);try exact ak hq)|apply aI|exact aj|apply nM|apply fM)
  all_goals((try apply vM);(try simp only[vq]at*);try omega)
  all_goals(rw[show([(x:Int)].getD (ana 0) 0)=(x:Int)from rfl]at*)
  all_goals(try omega)
  all_goals(cases neg)
  all_goals(try(exfalso;simp_all;done))
  all_goals
   by_cases hs:x<9223372036854775808
  all_goals(try(exfalso;omega))
  all_goals(unfold mdN;first|rw[if_pos hs]|rw[if_neg hs,ew])
  all_goals(refine Sup.via ?_;repeat'((conv=>whnf);first|intro _|apply aI|exact aj|apply nM|apply fM);all_goals((try apply vM);(try simp only[vq]at*);try omega))
  all_goals(try simp)
 ·have hlen:=wG W2 (x:=x) (k:=1) (by unfold W;omega)
  refine ay (md:=1) (rf:=[]) mixed av aG Tryz.func185 qqR qqR qqR ?_
  repeat'((conv=>whnf);first|(intro hq;(try simp only[vw]at hq);try exact ak hq)|apply aI|exact aj|apply nM|apply fM)
  all_goals((try apply vM);(try simp only[vq]at*);try omega)
  all_goals(cases neg)
  all_goals(try(exfalso;simp_all;done))
  all_goals(unfold mdN;rw[if_neg qqO])
  all_goals(refine Sup.via ?_;repeat'((conv=>whnf);first|intro _|apply aI|exact aj|apply nM|apply fM);all_goals((try apply vM);(try simp only[vq]at*);try omega))
  all_goals(try simp)
def xZ:PSp:=fun xs K=>match xs with
 | [.bp neg,.isl (.ints .u64 l) .none]=>VC (Dw l∧l.length≤1000000000000)∧K (niV (mdN neg (vw l)))
 | [.bool neg,.isl (.ints .u64 l) .none]=>VC (Dw l∧l.length≤1000000000000)∧K (niV (mdN neg (vw l)))
 |_=>False
theorem x9:POK Tryz.prog 185 xZ:=by
 intro xs K hk;unfold xZ at hk;split at hk
 ·obtain⟨h1,h2⟩:=hk.1.get
  rename_i neg l;obtain⟨x,rfl⟩:=kC h1;refine⟨_,hk.2,?_⟩;rw[dM];exact FE neg x h2
 ·obtain⟨h1,h2⟩:=hk.1.get
  rename_i neg l;obtain⟨x,rfl⟩:=kC h1;refine⟨_,hk.2,?_⟩;rw[dM];exact cK (ys:=[.bp neg,.isl (wd x) .none]) (fun S w vs hA=>⟨hA.1,fun i hi=>by
   have:i=0∨i=1:=by simp at hi;omega
   rcases this with rfl|rfl
   ·have:=hA.2 0 qqS
    generalize vs.getD 0 undef=v at this⊢
    simp only[aH]at this⊢;cases this
    exact .bp _ _
   ·exact hA.2 1 qqS⟩) (FE neg x h2)
 ·exact hk.elim
def nrm (v:Int):NI:=mdN (decide (v<0)) v.natAbs
theorem bg (v:Int):(nrm v).val=v:=by
 unfold nrm;rw[adv];by_cases h:v<0
 ·rw[decide_eq_true h,if_pos rfl];omega
 ·rw[decide_eq_false h,if_neg qqS];omega
theorem bO (v:Int):(nrm v).OK:=BF _ _
theorem Ji (b:Bool):mdN b 0=⟨0,[]⟩:=by unfold mdN;rw[if_pos qqO];cases b<;>rfl
theorem mV {b:Bool} {x:Nat} {v:Int} (h:v=if b then-(x:Int)else x):mdN b x=nrm v:=by
 unfold nrm;by_cases h0:x=0
 ·subst h0
  have:v=0:=by cases b<;>simpa using h
  subst this;rw[Ji,Int.natAbs_zero,Ji]
 ·cases b
  ·rw[if_neg qqS]at h
   rw[decide_eq_false qqO,show v.natAbs=x by omega]
  ·rw[if_pos rfl]at h
   rw[decide_eq_true qqO,show v.natAbs=x by omega]
theorem iK {v:Int} (h: -9223372036854775808<v∧v≤9223372036854775807):nrm v=⟨v,[]⟩:=by
 unfold nrm mdN;rw[if_pos qqO];by_cases h0:v<0
 ·rw[decide_eq_true h0,if_pos rfl];congr 1;omega
 ·rw[decide_eq_false h0,if_neg qqS];congr 1;omega
theorem Jj {a:NI} (h:a.OK) (hv:a.val≠ -9223372036854775808):a=nrm a.val:=by
 obtain⟨s,w⟩:=a;rcases h with⟨h1,h2⟩|⟨x,h1,h2,h3⟩
 ·simp only at h1;subst h1
  rw[NI.val_sm]at hv⊢;unfold smI at h2;simp only at h2;rw[iK qqO]
 ·simp only at h1 h3;subst h1
  rw[NI.val_big qqO]at hv⊢;unfold nrm mdN;rcases h3 with rfl|rfl
  ·have e:(if(1:Int)<0 then-(x:Int)else(x:Int))=x:=if_neg qqO
   rw[e]at hv⊢;rw[if_neg qqO,decide_eq_false qqO,if_neg qqS,show(anh (x:Int))=x by omega]
  ·have e:(if(-1:Int)<0 then-(x:Int)else(x:Int))= -x:=if_pos qqO
   rw[e]at hv⊢;rw[if_neg qqO,decide_eq_true qqO,if_pos rfl,show(anh (-(x:Int)))=x by omega]
def Lw (x:Nat):Nat:=(dl W x).length
def NI.L (a:NI):Nat:=Lw a.val.natAbs
theorem qW {x k:Nat} (h:x<W ^ k):Lw x≤k:=lF W2 h
theorem qX (x:Nat):x<W ^ Lw x:=fP W2 x
theorem fq {x y:Nat} (h:x≤y):Lw x≤Lw y:=qW (am6 h (qX y))
theorem nS (x y:Nat):Lw (x*y)≤Lw x+Lw y:=qW (by rw[amK];exact anf (qX x) (qX y))
theorem TR (x y:Nat):Lw (x+y)≤max (Lw x) (Lw y)+1:=by
 refine qW ?_;have h1:x<W ^ max (Lw x) (Lw y):=akv (qX x) (amN qqD qqO);have h2:y<W ^ max (Lw x) (Lw y):=akv (qX y) (amN qqD qqO);rw[amx];unfold W at*;omega
theorem nT {x:Nat} (h:x<18446744073709551616):Lw x≤1:=qW (by rw[ani];exact h)
def ni1 (p:PV) (K:NI→Prop):Prop:=match p with
 |.agg [.int .i64 s,.nnl (.ints .u64 l)]=>K ⟨s,l⟩
 |.agg [.int .i64 s,.nils]=>K ⟨s,[]⟩
 |.agg [.int .i64 s,.isl (.ints .u64 l) .none]=>VC (l≠[])∧K ⟨s,l⟩
 |_=>False
theorem agQ {S:Imm} {w:World} {ι:Ix} {p q r t:PV} {v:Value} (h1:∀v,Rep S w ι p v→Rep S w ι r v) (h2:∀v,Rep S w ι q v→Rep S w ι t v) (h:Rep S w ι (.agg [p,q]) v):Rep S w ι (.agg [r,t]) v:=by
 cases h with
 |agg _ _ vs hl h=>
  refine .agg _ _ vs hl fun i hi=>?_;have:i=0∨i=1:=by simp at hi;omega
  rcases this with rfl|rfl
  ·exact h1 _ (h 0 qqS)
  ·exact h2 _ (h 1 qqS)
theorem Dl {p:PV} {K:NI→Prop} (h:ni1 p K):∃a,K a∧∀(S:Imm) (w:World) (v:Value),Rep S w noI p v→Rep S w noI (niV a) v:=by
 unfold ni1 at h;split at h
 ·exact⟨_,h,fun _ _ _ h=>h⟩
 ·exact⟨_,h,fun _ _ _ h=>agQ (fun _ h=>h) (fun _ h=>by cases h;exact .nnl0 _ _ rfl) h⟩
 ·rename_i s l
  refine⟨_,h.2,fun S w v hr=>agQ (fun _ h=>h) (fun v hv=>?_) hr⟩;have hne:=h.1.get;have h0:0<l.length:=ak9 fun h'=>hne (alY.1 h');cases hv with
  |islnil _ _ _ h=>exact absurd h (Nat.ne_of_gt h0)
  |isl _ _ _ b off cap hc hs hh hf ho=>exact .nnl1 _ _ b off cap h0 hc hs hh
 ·exact h.elim
theorem Jk {g:FuncId} {a:NI} {u:PV} (h:a.OK) (h1:a.w=[]→smI a.s→aD Tryz.prog g [.agg [.int .i64 a.s,.nils]] u)
 (h2:∀x,a.w=dl W x→9223372036854775808≤x→(a.s=1∨a.s= -1)→a.val=(if a.s<0 then-(x:Int)else x)→aD Tryz.prog g [.agg [.int .i64 a.s,.isl (wd x) .none]] u):aD Tryz.prog g [niV a] u:=by
 rcases h with⟨g1,g2⟩|⟨x,g1,g2,g3⟩
 ·exact cK (fun S w vs hA=>Dk (fun v hv=>(p9 hv).1 g1) hA) (h1 g1 g2)
 ·have hv:a.val=(if a.s<0 then-(x:Int)else x):=by
   obtain⟨s,w⟩:=a;simp only at g1;subst g1;exact NI.val_big qqO
  refine cK (fun S w vs hA=>Dk (fun v hv=>?_) hA) (h2 x g1 g2 g3 hv);have:=(p9 hv).2 (fun h0=>by rw[g1]at h0;have:=(gL W2).1 h0;omega)
  rw[g1]at this;exact this
theorem MW {g:FuncId} {p q u:PV} (h:∀(S:Imm) (w:World) (v:Value),Rep S w noI p v→Rep S w noI q v) (hp:aD Tryz.prog g [q] u):aD Tryz.prog g [p] u:=
 cK (fun S w vs hA=>Dk (fun v hv=>h S w v hv) hA) hp
theorem Dm {g:FuncId} {p q p' q' u:PV} (h:∀(S:Imm) (w:World) (v:Value),Rep S w noI p v→Rep S w noI q v) (h':∀(S:Imm) (w:World) (v:Value),Rep S w noI p' v→Rep S w noI q' v) (hp:aD Tryz.prog g [q,q'] u):aD Tryz.prog g [p,p'] u:=
 cK (ys:=[q,q']) (fun S w vs hA=>⟨hA.1,fun i hi=>by
  have:i=0∨i=1:=by simp at hi;omega
  rcases this with rfl|rfl
  ·exact h _ _ _ (hA.2 0 qqS)
  ·exact h' _ _ _ (hA.2 1 qqS)⟩) hp
theorem uw {g:FuncId} {C:NI→Prop} {r:NI→PV} (h:∀a,C a→aD Tryz.prog g [niV a] (r a)):POK Tryz.prog g (fun xs K=>match xs with| [p]=>ni1 p fun a=>VC (C a)∧K (r a)|_=>False):=by
 intro xs K hk;split at hk
 ·obtain⟨a,⟨h1,h2⟩,h3⟩:=Dl hk
  exact⟨_,h2,MW h3 (h a h1.get)⟩
 ·exact hk.elim
theorem wM {g:FuncId} {C:NI→NI→Prop} {r:NI→NI→PV} (h:∀a b,C a b→aD Tryz.prog g [niV a,niV b] (r a b)):POK Tryz.prog g (fun xs K=>match xs with| [p,q]=>ni1 p fun a=>ni1 q fun b=>VC (C a b)∧K (r a b)|_=>False):=by
 intro xs K hk;split at hk
 ·obtain⟨a,hk,h3⟩:=Dl hk
  obtain⟨b,⟨h1,h2⟩,h4⟩:=Dl hk;exact⟨_,h2,Dm h3 h4 (h a b h1.get)⟩
 ·exact hk.elim
def mW:PSp:=fun xs K=>match xs with| [p]=>ni1 p fun a=>VC a.OK∧K (.tup [.bp (decide (a.s<0)),.isl (wd a.val.natAbs) .none])|_=>False
theorem lH:POK Tryz.prog 184 mW:=uw (C:=NI.OK) (r:=fun a=>.tup [.bp (decide (a.s<0)),.isl (wd a.val.natAbs) .none]) fun a h=>Xz a h
def eH (v:Int):Int:=max (-1) (min 1 v)
theorem agR {a:NI} (h:a.OK):eH a.s=eH a.val:=by
 obtain⟨s,w⟩:=a;rcases h with⟨h1,h2⟩|⟨x,h1,h2,h3⟩
 ·simp only at h1;subst h1;rfl
 ·simp only at h1 h3;subst h1
  rw[NI.val_big qqO];unfold eH;rcases h3 with rfl|rfl<;>simp<;>omega
theorem TS (a:NI) (h:a.OK):aD Tryz.prog 194 [niV a] (.int .i64 (eH a.val)):=by
 rw[←agR h];unfold eH;have hs:=h;refine Jk h (fun h1 h2=>?_) (fun x h1 h2 h3 h4=>?_)
 ·unfold smI at h2
  generalize a.s=s at*
  refine ay (md:=1) (rf:=[]) mixed av aG Tryz.func194 qqR qqR qqR ?_;all_goals exact EJ
 ·generalize a.s=s at*
  refine ay (md:=1) (rf:=[]) mixed av aG Tryz.func194 qqR qqR qqR ?_;all_goals exact EJ
def uy:PSp:=fun xs K=>match xs with| [p]=>ni1 p fun a=>VC a.OK∧K (.int .i64 (eH a.val))|_=>False
theorem oO:POK Tryz.prog 194 uy:=uw TS
noncomputable def ai8:CPT:=aB 184 (aR mW) (aB 185 (aP xZ) noC)
theorem Dn:bD Tryz.prog ai8:=au (aF lH) (au (aC x9) aG)
theorem XA (a:NI) (h:a.OK) (hL:a.L≤1000000000000):aD Tryz.prog 201 [niV a] (niV (nrm (-a.val))):=by
 have hs:=h;refine Jk h (fun h1 h2=>?_) (fun x h1 h2 h3 h4=>?_)
 ·obtain⟨s,w⟩:=a
  simp only at h1 h2⊢;subst h1;have hv:NI.val ⟨s,[]⟩=s:=rfl;rw[hv];unfold NI.L at hL;rw[hv]at hL;by_cases hm:s= -9223372036854775808
  ·have e:mdN (!decide (s<0)) s.natAbs=nrm (-s):=mV (by subst hm;simp)
   rw[←e];refine ay (md:=1) (rf:=[]) mixed av Dn Tryz.func201 qqR qqR qqR ?_
   repeat'((conv=>whnf);first|(intro hq;(try simp only[vw]at hq);try exact ak hq)|apply aI|exact aj|apply nM|apply fM)
   all_goals((try apply vM);(try simp only[vq]at*);try omega)
   all_goals(try simp only[dM])
   all_goals first
    |exact hs
    |exact⟨bV _,hL⟩
    |exact Sup.of rfl
  ·unfold smI at h2
   rw[iK qqO];refine ay (md:=1) (rf:=[]) mixed av Dn Tryz.func201 qqR qqR qqR ?_
   repeat'((conv=>whnf);first|(intro hq;(try simp only[vw]at hq);try exact ak hq)|apply aI|exact aj|apply nM|apply fM)
   all_goals((try apply vM);(try simp only[vq]at*);try omega)
   all_goals first
    |(rw[Int.zero_sub];exact Sup.via (by repeat'((conv=>whnf);first|intro _|apply aI|exact aj|apply nM|apply fM);all_goals((try apply vM);(try simp only[vq]at*);try omega)))
 ·have e:nrm (-a.val)=mdN (!decide (a.s<0)) x:=by
   rw[mV (v:= -a.val)];rw[h4];by_cases hn:a.s<0
   ·rw[if_pos hn];simp[hn]
   ·rw[if_neg hn];simp[hn]
  rw[e];have hne:dl W x≠[]:=fun h0=>by have:=(gL W2).1 h0;omega
  have hl0:0<(dl W x).length:=anj.2 hne;have ea:(⟨a.s,dl W x⟩:NI)=a:=by rw[←h1]
  have en:(NI.val a).natAbs=x:=by rw[h4];split<;>omega
  have hL':(dl W x).length≤1000000000000:=by unfold NI.L Lw at hL;rw[en]at hL;exact hL
  refine ay (md:=1) (rf:=[]) mixed av Dn Tryz.func201 qqR qqR qqR ?_
  repeat'((conv=>whnf);first|(intro hq;(try simp only[vw]at hq);try exact ak hq)|apply aI|exact aj|apply nM|apply fM)
  all_goals((try apply vM);(try simp only[vq]at*);try omega)
  all_goals(try simp only[ea,en,dM])
  all_goals first
   |omega
   |exact hne
   |exact hs
   |exact⟨bV _,hL'⟩
   |exact Sup.of rfl
def zy:PSp:=fun xs K=>match xs with| [p]=>ni1 p fun a=>VC (a.OK∧a.L≤1000000000000)∧K (niV (nrm (-a.val)))|_=>False
theorem rV:POK Tryz.prog 201 zy:=uw (C:=fun a=>a.OK∧a.L≤1000000000000) fun a h=>XA a h.1 h.2
theorem yc {g:FuncId} {a b:NI} {u:PV} (ha:a.OK) (hb:b.OK)
 (h1:∀p q:PV,(p=.agg [.int .i64 a.s,.nils]∧a.w=[]∧smI a.s∨∃x,p=.agg [.int .i64 a.s,.isl (wd x) .none]∧a.w=dl W x∧9223372036854775808≤x)→(q=.agg [.int .i64 b.s,.nils]∧b.w=[]∧smI b.s∨∃x,q=.agg [.int .i64 b.s,.isl (wd x) .none]∧b.w=dl W x∧9223372036854775808≤x)→aD Tryz.prog g [p,q] u):aD Tryz.prog g [niV a,niV b] u:=by
 have two:∀a:NI,a.OK→∃p,(p=.agg [.int .i64 a.s,.nils]∧a.w=[]∧smI a.s∨∃x,p=.agg [.int .i64 a.s,.isl (wd x) .none]∧a.w=dl W x∧9223372036854775808≤x)∧∀(S:Imm) (w:World) (v:Value),Rep S w noI (niV a) v→Rep S w noI p v:=by
  intro a h;rcases h with⟨g1,g2⟩|⟨x,g1,g2,g3⟩
  ·exact⟨_,.inl ⟨rfl,g1,g2⟩,fun S w v hr=>(p9 hr).1 g1⟩
  ·refine⟨_,.inr ⟨x,rfl,g1,g2⟩,fun S w v hr=>?_⟩
   have:=(p9 hr).2 (fun h0=>by rw[g1]at h0;have:=(gL W2).1 h0;omega)
   rw[g1]at this;exact this
 obtain⟨p,hp,hp'⟩:=two a ha;obtain⟨q,hq,hq'⟩:=two b hb;exact Dm hp' hq' (h1 p q hp hq)
theorem gD {a:NI} {x:Nat} (h:a.w=dl W x):(⟨a.s,dl W x⟩:NI)=a:=by rw[←h]
theorem fF {a:NI} (h:a.w=[]):(⟨a.s,[]⟩:NI)=a:=by rw[←h]
theorem eX {x:Nat} (h:9223372036854775808≤x):dl W x≠[]∧0<(dl W x).length:=by
 have:dl W x≠[]:=fun h0=>by have:=(gL W2).1 h0;omega
 exact⟨this,anj.2 this⟩
theorem gF {a:NI} (h:a.w=[]):a.val=a.s:=by rw[←fF h];rfl
def addN (a b:NI):NI:=if a.w=[]∧b.w=[]∧a.s+b.s= -9223372036854775808 then⟨-9223372036854775808,[]⟩else nrm (a.val+b.val)
theorem uz (a b:NI):(addN a b).val=a.val+b.val:=by
 unfold addN;split
 ·rename_i h;rw[gF h.1,gF h.2.1,h.2.2];rfl
 ·exact bg _
theorem Dp (a b:NI):(addN a b).OK:=by
 unfold addN;split
 ·exact .inl ⟨rfl,by unfold smI;simp⟩
 ·exact bO _
theorem add_same {a b:NI} (ha:a.OK) (hb:b.OK) (h:(a.s<0)=(b.s<0)):a.val+b.val=if decide (a.s<0)then-((a.val.natAbs+b.val.natAbs:Nat):Int)else((a.val.natAbs+b.val.natAbs:Nat):Int):=by
 have h1:=NI.neg_iff ha;have h2:=NI.neg_iff hb;rw[←h]at h2;by_cases hn:a.s<0
 ·rw[decide_eq_true hn,if_pos rfl];have:=h1.1 hn;have:=h2.1 hn;omega
 ·rw[decide_eq_false hn,if_neg qqS]
  have e1:¬a.val<0:=fun h=>hn (h1.2 h);have e2:¬b.val<0:=fun h=>hn (h2.2 h);omega
theorem Jl {a b:NI} (ha:a.OK) (hb:b.OK) (h:¬(a.s<0)=(b.s<0)) (hle:b.val.natAbs≤a.val.natAbs):a.val+b.val=if decide (a.s<0)then-((a.val.natAbs-b.val.natAbs:Nat):Int)else((a.val.natAbs-b.val.natAbs:Nat):Int):=by
 have h1:=NI.neg_iff ha;have h2:=NI.neg_iff hb;by_cases hn:a.s<0
 ·have hb:¬b.s<0:=fun h'=>h (by simp[hn,h'])
  rw[decide_eq_true hn,if_pos rfl];have:=h1.1 hn;have e2:¬b.val<0:=fun h=>hb (h2.2 h);omega
 ·have hb:b.s<0:=Decidable.byContradiction fun h'=>h (by simp[hn,h'])
  rw[decide_eq_false hn,if_neg qqS];have e1:¬a.val<0:=fun h=>hn (h1.2 h);have:=h2.1 hb;omega
noncomputable def ai9:CPT:=aB 184 (aR mW) (aB 185 (aP xZ) (aB 186 (aP Qm) (aB 187 (aP BA) (aB 188 (aP Qn) noC))))
theorem rX:bD Tryz.prog ai9:=au (aF lH) (au (aC x9) (au (aC adp) (au (aC Di) (au (aC adq) aG))))
theorem wrap_i64 (n:Int):IntKind.i64.wrap n=(n+9223372036854775808) % 18446744073709551616-9223372036854775808:=by
 simp only[IntKind.wrap,IntKind.bits,IntKind.signed];simp;omega
theorem yg {x y:Nat}:0≤iU x y↔y≤x:=by
 unfold iU;split
 ·constructor<;>intro h<;>omega
 ·split<;>constructor<;>intro h<;>omega
theorem Dq {a b:NI} (h:¬(a.w=[]∧b.w=[]∧a.s+b.s= -9223372036854775808)):addN a b=nrm (a.val+b.val):=by unfold addN;rw[if_neg h]
theorem agS {a b:NI} (ha:a.OK) (hb:b.OK) (hx:¬(a.w=[]∧b.w=[]∧a.s+b.s= -9223372036854775808)) (h:(a.s<0)=(b.s<0)):mdN (decide (a.s<0)) (a.val.natAbs+b.val.natAbs)=addN a b:=by
 rw[Dq hx];exact mV (add_same ha hb h)
theorem agT {a b:NI} (ha:a.OK) (hb:b.OK) (hx:¬(a.w=[]∧b.w=[]∧a.s+b.s= -9223372036854775808)) (h:¬(a.s<0)=(b.s<0)) (hle:b.val.natAbs≤a.val.natAbs):mdN (decide (a.s<0)) (a.val.natAbs-b.val.natAbs)=addN a b:=by
 rw[Dq hx];exact mV (Jl ha hb h hle)
theorem agU {a b:NI} (ha:a.OK) (hb:b.OK) (hx:¬(a.w=[]∧b.w=[]∧a.s+b.s= -9223372036854775808)) (h:¬(a.s<0)=(b.s<0)) (hle:¬b.val.natAbs≤a.val.natAbs):mdN (decide (b.s<0)) (b.val.natAbs-a.val.natAbs)=addN a b:=by
 rw[Dq hx,Int.add_comm];exact mV (Jl hb ha (fun h'=>h h'.symm) qqO)
theorem bq1:(∀(p q:Prop) [Decidable p] [Decidable q],((decide p==decide q)=true)=(p=q))∧(∀(p q:Prop) [Decidable p] [Decidable q],((decide p==decide q)=false)=¬(p=q)):=
 ⟨fun p q _ _=>qqS,fun p q _ _=>qqS⟩
theorem zA {s t:Int} (h1:smI s) (h2:smI t):((decide (s<IntKind.i64.wrap (s+t))==decide (0<t))=true)=smI (s+t):=by
 rw[bq1.1,wrap_i64];unfold smI at*;apply propext;constructor
 ·intro h
  have h:=iff_of_eq h;by_cases h0:0<t
  ·have:=h.2 h0;omega
  ·have:¬s<(s+t+9223372036854775808) % 18446744073709551616-9223372036854775808:=fun h'=>h0 (h.1 h')
   omega
 ·intro h
  apply propext;constructor<;>intro h'<;>omega
theorem TU {s t:Int} (h1:smI s) (h2:smI t):((decide (s<IntKind.i64.wrap (s+t))==decide (0<t))=false)=¬smI (s+t):=by
 rw[←zA h1 h2];simp
theorem i64_in {n:Int} (h:smI n):IntKind.i64.wrap n=n:=by rw[wrap_i64];unfold smI at h;omega
theorem XB (a b:NI) (ha:a.OK) (hb:b.OK) (hLa:a.L≤100000000000) (hLb:b.L≤100000000000):aD Tryz.prog 109 [niV a,niV b] (niV (addN a b)):=by
 have L1:(dl W a.val.natAbs).length≤100000000000:=hLa;have L2:(dl W b.val.natAbs).length≤100000000000:=hLb;have L3:(dl W (a.val.natAbs+b.val.natAbs)).length≤1000000000000:=by have:=TR a.val.natAbs b.val.natAbs;unfold NI.L at*;unfold Lw at*;omega
 have L4:(dl W (a.val.natAbs-b.val.natAbs)).length≤1000000000000:=by have:=fq (x:=a.val.natAbs-b.val.natAbs) (y:=a.val.natAbs) qqO;unfold NI.L at*;unfold Lw at*;omega
 have L5:(dl W (b.val.natAbs-a.val.natAbs)).length≤1000000000000:=by have:=fq (x:=b.val.natAbs-a.val.natAbs) (y:=b.val.natAbs) qqO;unfold NI.L at*;unfold Lw at*;omega
 have F1:=fun hx=>agS ha hb hx;have F2:=fun hx=>agT ha hb hx;have F3:=fun hx=>agU ha hb hx;refine yc ha hb fun p q hp hq=>?_;rcases hp with⟨rfl,hp,hps⟩|⟨x,rfl,hp,hpx⟩<;>rcases hq with⟨rfl,hq,hqs⟩|⟨y,rfl,hq,hqy⟩
 ·have ea:=fF hp
  have eb:=fF hq;have na:True:=trivial;have nb:True:=trivial;by_cases hsm:smI (a.s+b.s)
  ·have hx:addN a b=⟨a.s+b.s,[]⟩:=by
    unfold addN;split
    ·rename_i h1;rw[h1.2.2]
    ·rename_i h1
     rw[gF hp,gF hq,iK];have:a.s+b.s≠ -9223372036854775808:=fun h2=>h1 ⟨hp,hq,h2⟩;unfold smI at hsm;omega
   rw[hx];have h1:=zA hps hqs;have h2:=TU hps hqs;have h3:=i64_in hsm;clear F1 F2 F3 L1 L2 L3 L4 L5;generalize a.s=s at*
   generalize b.s=t at*
   refine ay (md:=2) (rf:=[]) mixed av rX Tryz.func109 qqR qqR qqR ?_
   repeat'((conv=>whnf);first|(intro hq;(try simp only[vw]at hq);try exact ak hq)|apply aI|exact aj|apply nM|apply fM)
   all_goals((try apply vM);(try simp only[vq]at*);try omega)
   all_goals first
    |(exfalso;rename_i hq;rw[h2]at hq;exact hq hsm)
    |(rw[h3];refine Sup.via ?_;repeat'((conv=>whnf);first|intro _|apply aI|exact aj|apply nM|apply fM);all_goals((try apply vM);(try simp only[vq]at*);try omega))
    |(exfalso;rw[h2]at*;contradiction)
  ·have hbig:¬(a.w=[]∧b.w=[]∧a.s+b.s= -9223372036854775808):=fun h2=>hsm (by unfold smI;omega)
   have h1:=zA hps hqs;have E1:=F1 hbig;have E2:=F2 hbig;have E3:=F3 hbig;clear hbig F1 F2 F3;generalize addN a b=r at*
   generalize a.s=s at*
   generalize b.s=t at*
   refine ay (md:=2) (rf:=[]) mixed av rX Tryz.func109 qqR qqR qqR ?_
   repeat'((conv=>whnf);first|(intro hq;(try simp only[vw]at hq);try exact ak hq)|apply aI|exact aj|apply nM|apply fM)
   all_goals((try apply vM);(try simp only[vq]at*);try omega)
   all_goals(try simp only[ea,eb,dM])
   all_goals(try simp only[bq1,yg,dM,ank]at*)
   all_goals(try simp only[ea,eb]at hq)
   all_goals first
    |exact absurd (Eq.mp h1 hq) hsm
    |exact ha
    |exact hb
    |exact na
    |exact nb
    |exact⟨bV _,bV _,qqO,qqO⟩
    |exact⟨bV _,bV _,qqO,qqA⟩
    |exact⟨bV _,qqO⟩
    |(rw[E1 qqA];exact Sup.of rfl)
    |(rw[E2 qqA qqA];exact Sup.of rfl)
    |(rw[E3 qqA qqA];exact Sup.of rfl)
    |omega
 ·have hbig:¬(a.w=[]∧b.w=[]∧a.s+b.s= -9223372036854775808):=fun h=>by rw[hq]at h;exact(eX hqy).1 h.2.1
  have ea:=fF hp;have eb:=gD hq;have na:True:=trivial;obtain⟨nb,nb'⟩:=eX hqy;have E1:=F1 hbig;have E2:=F2 hbig;have E3:=F3 hbig;clear hbig F1 F2 F3;generalize addN a b=r at*
  generalize a.s=s at*
  generalize b.s=t at*
  refine ay (md:=2) (rf:=[]) mixed av rX Tryz.func109 qqR qqR qqR ?_
  repeat'((conv=>whnf);first|(intro hq;(try simp only[vw]at hq);try exact ak hq)|apply aI|exact aj|apply nM|apply fM)
  all_goals((try apply vM);(try simp only[vq]at*);try omega)
  all_goals(try simp only[ea,eb,dM])
  all_goals(try simp only[bq1,yg,dM,ank]at*)
  all_goals(try simp only[ea,eb]at hq)
  all_goals first
   |exact absurd (Eq.mp h1 hq) hsm
   |exact ha
   |exact hb
   |exact na
   |exact nb
   |exact⟨bV _,bV _,qqO,qqO⟩
   |exact⟨bV _,bV _,qqO,qqA⟩
   |exact⟨bV _,qqO⟩
   |(rw[E1 qqA];exact Sup.of rfl)
   |(rw[E2 qqA qqA];exact Sup.of rfl)
   |(rw[E3 qqA qqA];exact Sup.of rfl)
   |omega
 ·have hbig:¬(a.w=[]∧b.w=[]∧a.s+b.s= -9223372036854775808):=fun h=>by rw[hp]at h;exact(eX hpx).1 h.1
  have ea:=gD hp;have eb:=fF hq;have nb:True:=trivial;obtain⟨na,na'⟩:=eX hpx;have E1:=F1 hbig;have E2:=F2 hbig;have E3:=F3 hbig;clear hbig F1 F2 F3;generalize addN a b=r at*
  generalize a.s=s at*
  generalize b.s=t at*
  refine ay (md:=2) (rf:=[]) mixed av rX Tryz.func109 qqR qqR qqR ?_
  repeat'((conv=>whnf);first|(intro hq;(try simp only[vw]at hq);try exact ak hq)|apply aI|exact aj|apply nM|apply fM)
  all_goals((try apply vM);(try simp only[vq]at*);try omega)
  all_goals(try simp only[ea,eb,dM])
  all_goals(try simp only[bq1,yg,dM,ank]at*)
  all_goals(try simp only[ea,eb]at hq)
  all_goals first
   |exact absurd (Eq.mp h1 hq) hsm
   |exact ha
   |exact hb
   |exact na
   |exact nb
   |exact⟨bV _,bV _,qqO,qqO⟩
   |exact⟨bV _,bV _,qqO,qqA⟩
   |exact⟨bV _,qqO⟩
   |(rw[E1 qqA];exact Sup.of rfl)
   |(rw[E2 qqA qqA];exact Sup.of rfl)
   |(rw[E3 qqA qqA];exact Sup.of rfl)
   |omega
 ·have hbig:¬(a.w=[]∧b.w=[]∧a.s+b.s= -9223372036854775808):=fun h=>by rw[hp]at h;exact(eX hpx).1 h.1
  have ea:=gD hp;have eb:=gD hq;obtain⟨nb,nb'⟩:=eX hqy;obtain⟨na,na'⟩:=eX hpx;have E1:=F1 hbig;have E2:=F2 hbig;have E3:=F3 hbig;clear hbig F1 F2 F3;generalize addN a b=r at*
  generalize a.s=s at*
  generalize b.s=t at*
  refine ay (md:=2) (rf:=[]) mixed av rX Tryz.func109 qqR qqR qqR ?_
  repeat'((conv=>whnf);first|(intro hq;(try simp only[vw]at hq);try exact ak hq)|apply aI|exact aj|apply nM|apply fM)
  all_goals((try apply vM);(try simp only[vq]at*);try omega)
  all_goals(try simp only[ea,eb,dM])
  all_goals(try simp only[bq1,yg,dM,ank]at*)
  all_goals(try simp only[ea,eb]at hq)
  all_goals first
   |exact absurd (Eq.mp h1 hq) hsm
   |exact ha
   |exact hb
   |exact na
   |exact nb
   |exact⟨bV _,bV _,qqO,qqO⟩
   |exact⟨bV _,bV _,qqO,qqA⟩
   |exact⟨bV _,qqO⟩
   |(rw[E1 qqA];exact Sup.of rfl)
   |(rw[E2 qqA qqA];exact Sup.of rfl)
   |(rw[E3 qqA qqA];exact Sup.of rfl)
   |omega
theorem dI (a:NI):(⟨a.s,a.w⟩:NI)=a:=rfl
theorem NI.L_nrm (v:Int):(nrm v).L=Lw v.natAbs:=by unfold NI.L;rw[bg]
def Dr:PSp:=fun xs K=>match xs with| [p,q]=>ni1 p fun a=>ni1 q fun b=>VC (a.OK∧b.OK∧a.L≤100000000000∧b.L≤100000000000)∧K (niV (addN a b))|_=>False
theorem wN:POK Tryz.prog 109 Dr:=wM (C:=fun a b=>a.OK∧b.OK∧a.L≤100000000000∧b.L≤100000000000) fun a b h=>XB a b h.1 h.2.1 h.2.2.1 h.2.2.2
def zB (a b:NI):NI:=addN a (nrm (-b.val))
theorem XC (a b:NI):(zB a b).val=a.val-b.val:=by unfold zB;rw[uz,bg];omega
theorem adw (a b:NI):(zB a b).OK:=Dp _ _
noncomputable def aja:CPT:=aB 201 (aR zy) (aB 109 (aR Dr) noC)
theorem adx:bD Tryz.prog aja:=au (aF rV) (au (aF wN) aG)
theorem XD (a b:NI) (ha:a.OK) (hb:b.OK) (hLa:a.L≤100000000000) (hLb:b.L≤100000000000):aD Tryz.prog 195 [niV a,niV b] (niV (zB a b)):=by
 have h1:(nrm (-b.val)).L≤100000000000:=by rw[NI.L_nrm,anl];exact hLb
 refine ay (md:=1) (rf:=[]) mixed av adx Tryz.func195 qqR qqR qqR ?_
 repeat'((conv=>whnf);first|(intro hq;(try simp only[vw]at hq);try exact ak hq)|apply aI|exact aj|apply nM|apply fM)
 all_goals((try apply vM);(try simp only[vq]at*);try omega)
 all_goals first
  |exact⟨hb,aky hLb qqD⟩
  |exact⟨ha,bO _,hLa,h1⟩
  |exact Sup.of rfl
def XE:PSp:=fun xs K=>match xs with| [p,q]=>ni1 p fun a=>ni1 q fun b=>VC (a.OK∧b.OK∧a.L≤100000000000∧b.L≤100000000000)∧K (niV (zB a b))|_=>False
theorem TV:POK Tryz.prog 195 XE:=wM (C:=fun a b=>a.OK∧b.OK∧a.L≤100000000000∧b.L≤100000000000) fun a b h=>XD a b h.1 h.2.1 h.2.2.1 h.2.2.2
def mX (x y:Int):Int:=if x<y then-1 else if y<x then 1 else 0
theorem XF (x y:Int):eH (x-y)=mX x y:=by
 unfold eH mX;split
 ·omega
 ·split<;>omega
noncomputable def ajb:CPT:=aB 195 (aR XE) (aB 194 (aR uy) noC)
theorem yh:bD Tryz.prog ajb:=au (aF TV) (au (aF oO) aG)
theorem TW (a b:NI) (ha:a.OK) (hb:b.OK) (hLa:a.L≤100000000000) (hLb:b.L≤100000000000):aD Tryz.prog 118 [niV a,niV b] (.int .i64 (mX a.val b.val)):=by
 refine yc ha hb fun p q hp hq=>?_;rcases hp with⟨rfl,hp,hps⟩|⟨x,rfl,hp,hpx⟩<;>rcases hq with⟨rfl,hq,hqs⟩|⟨y,rfl,hq,hqy⟩
 ·have ea:=fF hp
  have eb:=fF hq;have na:True:=trivial;have nb:True:=trivial;have es:=gF hp;have et:=gF hq;generalize a.s=s at*
  generalize b.s=t at*
  refine ay (md:=1) (rf:=[]) mixed av yh Tryz.func118 qqR qqR qqR ?_;all_goals exact qN
 ·have ea:=fF hp
  have eb:=gD hq;have na:True:=trivial;obtain⟨nb,nb'⟩:=eX hqy;have es:=gF hp;have et:True:=trivial;generalize a.s=s at*
  generalize b.s=t at*
  refine ay (md:=1) (rf:=[]) mixed av yh Tryz.func118 qqR qqR qqR ?_;all_goals exact qN
 ·have ea:=gD hp
  have eb:=fF hq;have nb:True:=trivial;obtain⟨na,na'⟩:=eX hpx;have es:True:=trivial;have et:True:=trivial;generalize a.s=s at*
  generalize b.s=t at*
  refine ay (md:=1) (rf:=[]) mixed av yh Tryz.func118 qqR qqR qqR ?_;all_goals exact qN
 ·have ea:=gD hp
  have eb:=gD hq;obtain⟨nb,nb'⟩:=eX hqy;obtain⟨na,na'⟩:=eX hpx;have es:True:=trivial;have et:True:=trivial;generalize a.s=s at*
  generalize b.s=t at*
  refine ay (md:=1) (rf:=[]) mixed av yh Tryz.func118 qqR qqR qqR ?_;all_goals exact qN
def GQ:PSp:=fun xs K=>match xs with| [p,q]=>ni1 p fun a=>ni1 q fun b=>VC (a.OK∧b.OK∧a.L≤100000000000∧b.L≤100000000000)∧K (.int .i64 (mX a.val b.val))|_=>False
theorem Dt:POK Tryz.prog 118 GQ:=wM (C:=fun a b=>a.OK∧b.OK∧a.L≤100000000000∧b.L≤100000000000) fun a b h=>TW a b h.1 h.2.1 h.2.2.1 h.2.2.2
theorem agV {a b:NI} (ha:a.OK) (hb:b.OK):mdN (!(decide (a.s<0)==decide (b.s<0))) (a.val.natAbs*b.val.natAbs)=nrm (a.val*b.val):=by
 have h1:=NI.neg_iff ha;have h2:=NI.neg_iff hb;refine mV ?_;rw[anb];rw[show decide (a.s<0)=decide (a.val<0) by simp[h1],show decide (b.s<0)=decide (b.val<0) by simp[h2]]
 generalize a.val=x
 generalize b.val=y
 by_cases hx:x<0<;>by_cases hy:y<0<;>simp only[hx,hy,decide_true,decide_false]<;>simp
 ·rw[show((x.natAbs:Nat):Int)= -x by omega,show((y.natAbs:Nat):Int)= -y by omega,Int.neg_mul_neg]
 ·rw[show((x.natAbs:Nat):Int)= -x by omega,show((y.natAbs:Nat):Int)=y by omega,Int.neg_mul,anm]
 ·rw[show((x.natAbs:Nat):Int)=x by omega,show((y.natAbs:Nat):Int)= -y by omega,ano,anm]
 ·rw[show((x.natAbs:Nat):Int)=x by omega,show((y.natAbs:Nat):Int)=y by omega]
noncomputable def ajc:CPT:=aB 184 (aR mW) (aB 185 (aP xZ) (aB 191 (aP Qp) (aB 190 (aP GN) (aB 189 (aP rU) noC))))
theorem yj:bD Tryz.prog ajc:=au (aF lH) (au (aC x9) (au (aC adt) (au (aC MV) (au (aC uq) aG))))
theorem XG (a b:NI) (ha:a.OK) (hb:b.OK) (hLa:a.L≤100000000000) (hLb:b.L≤100000000000):aD Tryz.prog 110 [niV a,niV b] (niV (nrm (a.val*b.val))):=by
 have L1:(dl W a.val.natAbs).length≤100000000000:=hLa;have L2:(dl W b.val.natAbs).length≤100000000000:=hLb;have L3:(dl W (a.val.natAbs*b.val.natAbs)).length≤1000000000000:=by have:=nS a.val.natAbs b.val.natAbs;unfold NI.L at*;unfold Lw at*;omega
 have E:=agV ha hb;refine yc ha hb fun p q hp hq=>?_;rcases hp with⟨rfl,hp,hps⟩|⟨x,rfl,hp,hpx⟩<;>rcases hq with⟨rfl,hq,hqs⟩|⟨y,rfl,hq,hqy⟩
 ·have ea:=fF hp
  have eb:=fF hq;have na:True:=trivial;have nb:True:=trivial;have es:=gF hp;have et:=gF hq;unfold smI at hps hqs;generalize a.s=s at*
  generalize b.s=t at*
  refine ay (md:=1) (rf:=[]) mixed av yj Tryz.func110 qqR qqR qqR ?_
  repeat'((conv=>whnf);first|(intro hq;(try simp only[vw]at hq);try exact ak hq)|apply aI|exact aj|apply nM|apply fM)
  all_goals((try apply vM);(try simp only[vq]at*);try omega)
  all_goals(try simp only[ea,eb,dM])
  all_goals first
   |exact ha
   |exact hb
   |omega
   |exact⟨bV _,bV _,qqO,qqO⟩
   |exact⟨bV _,L3⟩
   |(rw[←E];exact Sup.of rfl)
   |(rename_i h1 h2
     obtain⟨P,hP⟩:∃P,P=s.natAbs*t.natAbs:=⟨_,rfl⟩;have hP':(s.natAbs:Int)*(t.natAbs:Int)=P:=by rw[hP,anb]
     rw[hP']at h2 hq⊢;rw[←E,es,et,←hP,h1];unfold mdN;rw[if_pos qqO];refine Sup.via ?_
     repeat'((conv=>whnf);first|intro _|apply aI|exact aj|apply nM|apply fM)
     all_goals((try apply vM);(try simp only[vq]at*);try omega)
     all_goals first|omega|(simp;omega))
 ·have ea:=fF hp
  have eb:=gD hq;have na:True:=trivial;obtain⟨nb,nb'⟩:=eX hqy;generalize a.s=s at*
  generalize b.s=t at*
  refine ay (md:=1) (rf:=[]) mixed av yj Tryz.func110 qqR qqR qqR ?_;all_goals exact wo
 ·have ea:=gD hp
  have eb:=fF hq;have nb:True:=trivial;obtain⟨na,na'⟩:=eX hpx;generalize a.s=s at*
  generalize b.s=t at*
  refine ay (md:=1) (rf:=[]) mixed av yj Tryz.func110 qqR qqR qqR ?_;all_goals exact wo
 ·have ea:=gD hp
  have eb:=gD hq;obtain⟨nb,nb'⟩:=eX hqy;obtain⟨na,na'⟩:=eX hpx;generalize a.s=s at*
  generalize b.s=t at*
  refine ay (md:=1) (rf:=[]) mixed av yj Tryz.func110 qqR qqR qqR ?_;all_goals exact wo
def uD:PSp:=fun xs K=>match xs with| [p,q]=>ni1 p fun a=>ni1 q fun b=>VC (a.OK∧b.OK∧a.L≤100000000000∧b.L≤100000000000)∧K (niV (nrm (a.val*b.val)))|_=>False
theorem oP:POK Tryz.prog 110 uD:=wM (C:=fun a b=>a.OK∧b.OK∧a.L≤100000000000∧b.L≤100000000000) fun a b h=>XG a b h.1 h.2.1 h.2.2.1 h.2.2.2
def iw (m:Int):Int:=(Go.Lib.bitLen m.toNat:Nat)
theorem lI (T:Array UInt8) (hT:∀j,j<256→(T.getD j 0).toNat=Go.Lib.bitLen j) (x:Int) (h:0≤x∧x<256):((T.getD x.toNat 0).toNat:Int)=iw x:=by
 rw[hT _ qqO];rfl
theorem lJ (x:Int) (h:0≤x∧x<256):0≤iw x∧iw x≤8:=by
 have:=Go.Lib.bitLen_le8 ⟨x.toNat,qqO⟩;unfold iw;simp only at this;omega
theorem Du (k K:Nat) (hK:2 ^ k=K) (x:Int) (h0:(K:Int)≤x) (h:x<18446744073709551616):iw x=k+iw (x / K):=by
 obtain⟨n,rfl⟩:∃n:Nat,x=n:=⟨x.toNat,qqO⟩;unfold iw;rw[amI,Go.Lib.bitLen_shift k n (by rw[hK];omega) qqO,hK]
 rw[←anp,amI];omega
theorem XH (m:Int) (h:0≤m∧m<18446744073709551616):aD Tryz.prog 266 [.int .u64 m] (.int .i64 (iw m)):=by
 have q32:(2:Int) ^ ana 32=4294967296:=qqD;have q16:(2:Int) ^ ana 16=65536:=qqD;have q8:(2:Int) ^ ana 8=256:=qqD;have d32:ana 32≤IntKind.u64.bits:=qqD;have d16:ana 16≤IntKind.u64.bits:=qqD;have d8:ana 8≤IntKind.u64.bits:=qqD;have a3:4294967296≤m→iw m=32+iw (m / 4294967296):=fun h1=>Du 32 4294967296 rfl m h1 h.2;have a1:∀x:Int,65536≤x→x<18446744073709551616→iw x=16+iw (x / 65536):=fun x h1 h2=>Du 16 65536 rfl x h1 h2;have a2:∀x:Int,256≤x→x<18446744073709551616→iw x=8+iw (x / 256):=fun x h1 h2=>Du 8 256 rfl x h1 h2;refine ay (md:=1) (rf:=[]) mixed av aG Tryz.func266 qqR qqR qqR ?_
 repeat'((conv=>whnf);first|intro _|apply aI|exact aj|apply nM|apply fM)
 all_goals((try apply vM);(try simp only[vq]at*);try omega)
 all_goals(try simp only[q32,q16,q8]at*)
 all_goals(try first|exact d32|exact d16|exact d8|omega|(refine Int.lt_of_lt_of_le (b:=256) qqO qqV))
 all_goals(try(rw[lI _ ?_ (m / 4294967296 / 65536 / 256) qqO];rotate_left;(decide+kernel);(have:=lJ (m / 4294967296 / 65536 / 256) qqO);first|omega|((refine Sup.of (congrArg (PV.int .i64) ?_));rw[a3 qqO,a1 (m / 4294967296) qqO qqO,a2 (m / 4294967296 / 65536) qqO qqO];omega)))
 all_goals(try(rw[lI _ ?_ (m / 4294967296 / 65536) qqO];rotate_left;(decide+kernel);(have:=lJ (m / 4294967296 / 65536) qqO);first|omega|((refine Sup.of (congrArg (PV.int .i64) ?_));rw[a3 qqO,a1 (m / 4294967296) qqO qqO];omega)))
 all_goals(try(rw[lI _ ?_ (m / 4294967296 / 256) qqO];rotate_left;(decide+kernel);(have:=lJ (m / 4294967296 / 256) qqO);first|omega|((refine Sup.of (congrArg (PV.int .i64) ?_));rw[a3 qqO,a2 (m / 4294967296) qqO qqO];omega)))
 all_goals(try(rw[lI _ ?_ (m / 4294967296) qqO];rotate_left;(decide+kernel);(have:=lJ (m / 4294967296) qqO);first|omega|((refine Sup.of (congrArg (PV.int .i64) ?_));have:=a3 qqO;omega)))
 all_goals(try(rw[lI _ ?_ (m / 65536 / 256) qqO];rotate_left;(decide+kernel);(have:=lJ (m / 65536 / 256) qqO);first|omega|((refine Sup.of (congrArg (PV.int .i64) ?_));rw[a1 m qqO qqO,a2 (m / 65536) qqO qqO];omega)))
 all_goals(try(rw[lI _ ?_ (m / 65536) qqO];rotate_left;(decide+kernel);(have:=lJ (m / 65536) qqO);first|omega|((refine Sup.of (congrArg (PV.int .i64) ?_));rw[a1 m qqO qqO];omega)))
 all_goals(try(rw[lI _ ?_ (m / 256) qqO];rotate_left;(decide+kernel);(have:=lJ (m / 256) qqO);first|omega|((refine Sup.of (congrArg (PV.int .i64) ?_));rw[a2 m qqO qqO];omega)))
 all_goals(try(rw[lI _ ?_ (m) qqO];rotate_left;(decide+kernel);(have:=lJ (m) qqO);first|omega|((refine Sup.of (congrArg (PV.int .i64) ?_));omega)))
def Qq:PSp:=fun xs K=>match xs with
 | [.int .u64 m]=>VC (0≤m∧m<18446744073709551616)∧K (.int .i64 (iw m))
 |_=>False
theorem TY:POK Tryz.prog 266 Qq:=by
 intro xs K h;unfold Qq at h;split at h
 ·exact⟨_,h.2,XH _ h.1.get⟩
 ·exact h.elim
noncomputable def ajd:CPT:=aB 266 (aP Qq) noC
theorem ady:bD Tryz.prog ajd:=au (aC TY) aG
theorem Dv (m:Int):0≤iw m∧iw m≤64:=by
 have:∀f x,Go.Lib.bitLenAux f x≤f:=by
  intro f;induction f with
  |zero=>intro x;simp[Go.Lib.bitLenAux]
  |succ f ih=>intro x;rw[Go.Lib.bitLenAux];(split;omega;(have:=ih (x / 2);omega))
 have h2:=this 64 m.toNat;have h3:iw m=((Go.Lib.bitLenAux 64 m.toNat:Nat):Int):=rfl;omega
def lzI (m:Int):Nat:=(64-iw m).toNat
theorem adz (m:Int) (h:0≤m∧m<18446744073709551616):aD Tryz.prog 237 [.int .u64 m] (.int .i64 (lzI m:Nat)):=by
 have:=Dv m;have e:((lzI m:Nat):Int)=64-iw m:=by unfold lzI;omega
 rw[e];refine ay (md:=1) (rf:=[]) mixed av ady Tryz.func237 qqR qqR qqR ?_;all_goals exact EK
def lzP:PSp:=fun xs K=>match xs with
 | [.int .u64 m]=>VC (0≤m∧m<18446744073709551616)∧K (.int .i64 (lzI m:Nat))
 |_=>False
theorem abd:POK Tryz.prog 237 lzP:=by
 intro xs K h;unfold lzP at h;split at h
 ·exact⟨_,h.2,adz _ h.1.get⟩
 ·exact h.elim
end Go.Eng.YtmkagljofpddpaaGreatDoor
namespace Go.Eng.Dig
set_option linter.unusedSimpArgs false
set_option linter.unusedVariables false
theorem agW {K u d a b q r:Nat} (hu:u<a*K+b) (hd:d<K) (hr:q*a+r=u) (h:K≤q∨K*r+d<q*b):(u*K+d) / (a*K+b)<q:=by
 rw[ala qqO];rcases h with h|h
 ·have h1:(u+1)*K≤(a*K+b)*K:=ak6 _ hu
  have h2:K*(a*K+b)≤q*(a*K+b):=ak6 _ h;have e1:(u+1)*K=u*K+K:=by grind
  have e2:K*(a*K+b)=(a*K+b)*K:=akT _ _;omega
 ·have e1:q*(a*K+b)=(q*a)*K+q*b:=by grind
  have e2:u*K=(q*a)*K+r*K:=by rw[←hr];grind
  have e3:r*K=K*r:=akT _ _;omega
theorem abe {K u d a b q r:Nat} (hb:0<a*K+b) (hr:q*a+r=u) (h:q*b≤K*r+d):q≤(u*K+d) / (a*K+b):=by
 rw[ald hb];have e1:q*(a*K+b)=(q*a)*K+q*b:=by grind
 have e2:u*K=(q*a)*K+r*K:=by rw[←hr];grind
 have e3:r*K=K*r:=akT _ _;omega
theorem adA {K u d a b q r:Nat} (hu:u<a*K+b) (hb:b<K) (hr:q*a+r=u) (h:K≤r):q≤(u*K+d) / (a*K+b)∧q≤K:=by
 have hq:q≤K:=by
  refine anq fun hlt=>?_;have h1:(K+1)*a≤q*a:=ak6 _ hlt;have e1:(K+1)*a=a*K+a:=by grind
  omega
 refine⟨abe qqO hr ?_,hq⟩;have h1:q*b≤K*K:=alE hq qqO;have h2:K*K≤K*r:=amU _ h;omega
theorem abf {K u d a b:Nat} (hK:0<K) (hu:u<a*K+b) (hd:d<K):(u*K+d) / (a*K+b)<K:=by
 rw[ala qqO];have h1:(u+1)*K≤(a*K+b)*K:=ak6 _ hu;have e1:(u+1)*K=u*K+K:=by grind
 have e2:K*(a*K+b)=(a*K+b)*K:=akT _ _;omega
theorem uE {K u d a b:Nat} (hK:0<K) (ha:0<a) (hd:d<K):(u*K+d) / (a*K+b)≤u / a:=by
 have h1:(u*K+d) / (a*K+b)≤(u*K+d) / (a*K):=Nat.div_le_div_left qqO (amZ ha hK);have h2:(u*K+d) / (a*K)=u / a:=by
  rw[akT a K,←amw,akT u K,Nat.mul_add_div hK,akV hd,akn]
 omega
theorem T9 {K U Y:Nat} (hK:0<K) (hY:0<Y):U / Y=(U / K / Y)*K+((U / K % Y)*K+U % K) / Y∧U % Y=((U / K % Y)*K+U % K) % Y:=by
 have h0:=alb U K;have h1:=alb (U / K) Y;have e:U=((U / K % Y)*K+U % K)+(U / K / Y*K)*Y:=by
  generalize U / K % Y=r at*
  generalize U / K / Y=q at*
  generalize U % K=d at*
  generalize U / K=t at*
  subst h1;rw[←h0]
  grind
 constructor
 ·conv=>lhs;rw[e,amO _ _ hY]
  rw[am5]
 ·conv=>lhs;rw[e,amT]
theorem BG {x y p:Nat} (hp:0<p):(x*p) / (y*p)=x / y∧(x*p) % (y*p) / p=x % y:=by
 refine⟨Nat.mul_div_mul_right _ _ hp,?_⟩;rw[amW,alR _ hp]
end Go.Eng.Dig
namespace Go.Eng.YtmkagljofpddpaaGreatDoor
open Go.Proofs Go.Eng.Dig
set_option linter.unusedSimpArgs false
set_option linter.unusedVariables false
set_option maxHeartbeats 0
set_option maxRecDepth 100000
noncomputable def aje:CPT:=aB 237 (aP lzP) noC
theorem rY:bD Tryz.prog aje:=au (aC abd) aG
theorem Ua (lo y:Nat) (hl:lo<W) (hy:0<y) (hy2:y<W):aD Tryz.prog 236 [.int .u64 0,.int .u64 lo,.int .u64 y] (.tup [.int .u64 ((lo / y:Nat):Int),.int .u64 ((lo % y:Nat):Int)]):=by
 have h1:lo / y<18446744073709551616:=am6 (anr _ _) hl;refine ay (md:=2) (rf:=[]) mixed av aG Tryz.func236 qqR qqR qqR ?_
 repeat'((conv=>whnf);first|(intro hq;(try simp only[vw]at hq);try exact ak hq)|apply aI|exact aj|apply nM|apply fM)
 all_goals((try apply vM);(try simp only[vq]at*);try omega)
 refine Sup.of ?_;rw[show((lo:Int).tdiv (y:Int))=((lo / y:Nat):Int)from rfl,show((lo:Int).tmod (y:Int))=((lo % y:Nat):Int)from rfl,dF _ h1];rfl
theorem Ub:∀(f x:Nat),x<2 ^ f→x<2 ^ Go.Lib.bitLenAux f x∧(x≠0→2 ^ Go.Lib.bitLenAux f x≤2*x):=by
 intro f;induction f with
 |zero=>intro x h;simp at h;subst h;simp[Go.Lib.bitLenAux]
 |succ f ih=>
  intro x h;rw[Go.Lib.bitLenAux];split
  ·rename_i h0;subst h0;simp
  ·obtain⟨h1,h2⟩:=ih (x / 2) (by rw[amx]at h;omega)
   rw[am5,amx];refine⟨qqO,fun _=>?_⟩;by_cases h3:x / 2=0
   ·rw[h3]
    have:∀g,Go.Lib.bitLenAux g 0=0:=fun g=>by cases g<;>simp[Go.Lib.bitLenAux]
    rw[this];omega
   ·have:=h2 h3;omega
theorem XI (y:Nat) (h0:0<y) (h:y<W):∃s:Nat,lzI (y:Int)=s∧s≤63∧y*2 ^ s<18446744073709551616∧18446744073709551616≤2*(y*2 ^ s):=by
 obtain⟨h1,h2⟩:=Ub 64 y h;have h2:=h2 qqO;have h3:=Dv (y:Int);have e:iw (y:Int)=((Go.Lib.bitLenAux 64 y:Nat):Int):=rfl;have hp:Go.Lib.bitLenAux 64 y≠0:=fun h=>by rw[h]at h1;omega
 have hz:lzI (y:Int)+Go.Lib.bitLenAux 64 y=64:=by unfold lzI;omega
 refine⟨_,rfl,qqO,?_,?_⟩;all_goals
  have hpw:2 ^ lzI (y:Int)*2 ^ Go.Lib.bitLenAux 64 y=18446744073709551616:=by rw[←amK,hz]
  generalize 2 ^ lzI (y:Int)=p at*
  generalize 2 ^ Go.Lib.bitLenAux 64 y=q at*
  have hp0:0<p:=ak9 fun h=>by subst h;omega
 ·have:=ant h1 hp0
  rw[akT y p];omega
 ·have:=amU p h2
  have e2:p*(2*y)=2*(y*p):=by grind
  omega
theorem wu (x:Int):IntKind.u64.wrap x=x % 18446744073709551616:=by
 simp only[IntKind.wrap,IntKind.bits,IntKind.signed];simp
theorem st3 {a b u d q:Nat} (hb:b<4294967296) (ha:a<4294967296) (hd:d<4294967296) (hr:u-q*a<4294967296) (hq:q<18446744073709551616):
 IntKind.u64.wrap (IntKind.u64.wrap (4294967296*((u-q*a:Nat):Int))+(d:Int))=((4294967296*(u-q*a)+d:Nat):Int)∧(q<4294967296→IntKind.u64.wrap ((q:Int)*(b:Int))=((q*b:Nat):Int))∧
 IntKind.u64.wrap (((u-q*a:Nat):Int)+(a:Int))=((u-q*a+a:Nat):Int)∧(1≤q→IntKind.u64.wrap ((q:Int)-1)=((q-1:Nat):Int)):=by
 simp only[wu];refine⟨qqO,fun h=>?_,qqO,fun h=>qqO⟩;rw[←anb];have:q*b≤4294967295*4294967295:=alE qqO qqO;omega
theorem cs3 {a b u d q:Nat} (ha:0<a) (hu:u<a*4294967296+b) (hb:b<4294967296) (hd:d<4294967296) (hqu:q*a≤u) (hQ:(u*4294967296+d) / (a*4294967296+b)≤q):
 (q=(u*4294967296+d) / (a*4294967296+b)∧q<4294967296∧q*b≤4294967296*(u-q*a)+d)∨
 (1≤q∧(u*4294967296+d) / (a*4294967296+b)≤q-1∧(q<4294967296→4294967296*(u-q*a)+d<q*b)∧(q-1)*a≤u∧u-(q-1)*a=u-q*a+a∧(4294967296≤u-q*a+a→q-1=(u*4294967296+d) / (a*4294967296+b))):=by
 have hr:q*a+(u-q*a)=u:=qqO;have big:=fun h=>agW (q:=q) hu hd hr h;have ok:=fun h=>abe (K:=4294967296) (d:=d) (b:=b) (q:=q) qqO hr h;have stop:=fun r h1 h2=>(adA (d:=d) (q:=q-1) (r:=r) hu hb h1 h2).1;generalize(u*4294967296+d) / (a*4294967296+b)=Q at*
 by_cases h:4294967296≤q∨4294967296*(u-q*a)+d<q*b
 ·right
  have hlt:=big h;have e:q*a=(q-1)*a+a:=by
   obtain⟨k,rfl⟩:∃k,q=k+1:=⟨q-1,qqO⟩;rw[amA];grind
  have hr':(q-1)*a+(u-q*a+a)=u:=qqO;refine⟨qqO,qqO,fun h'=>?_,qqO,qqO,fun h'=>?_⟩
  ·rcases h with h|h
   ·omega
   ·exact h
  ·have:=stop _ hr' h'
   omega
 ·left
  have:=ok (anq fun h'=>h (.inr h'));exact⟨qqO,qqO,anq fun h'=>h (.inr h')⟩
theorem un3 {u d Y:Nat} (hY:Y<18446744073709551616) (h0:0<Y):IntKind.u64.wrap (IntKind.u64.wrap (IntKind.u64.wrap ((u:Int)*4294967296)+(d:Int))-IntKind.u64.wrap ((((u*4294967296+d) / Y:Nat):Int)*(Y:Int)))=(((u*4294967296+d) % Y:Nat):Int):=by
 have h1:=alb (u*4294967296+d) Y;have h2:=alc (u*4294967296+d) h0;have e:((((u*4294967296+d) / Y:Nat):Int)*(Y:Int))=((Y*((u*4294967296+d) / Y):Nat):Int):=by rw[anb,Int.mul_comm]
 rw[e];simp only[wu];omega
theorem Uc (hi lo y:Nat) (h0:0<hi) (hl:lo<W) (hy:hi<y) (hy2:y<W):aD Tryz.prog 236 [.int .u64 hi,.int .u64 lo,.int .u64 y] (.tup [.int .u64 (((hi*W+lo) / y:Nat):Int),.int .u64 (((hi*W+lo) % y:Nat):Int)]):=by
 unfold W at*;obtain⟨s,hs,hs63,hY1,hY2⟩:=XI y qqO hy2;have E8:IntKind.u64.wrap ((lzI (y:Int):Nat):Int)=((s:Nat):Int):=by rw[hs,dF _ qqO]
 have E9:IntKind.u64.wrap (64-((s:Nat):Int))=((64-s:Nat):Int):=by rw[show(64:Int)-(s:Int)=((64-s:Nat):Int) by omega,dF _ qqO]
 have hpp:2 ^ s*2 ^ (64-s)=18446744073709551616:=by rw[←amK,show s+(64-s)=64 by omega]
 have hP:((2:Int) ^ s)=((2 ^ s:Nat):Int):=by norm_cast
 have hP2:((2:Int) ^ (64-s))=((2 ^ (64-s):Nat):Int):=by norm_cast
 have hp0:0<2 ^ s:=amB qqO;have hlo:lo / 2 ^ (64-s)<2 ^ s:=by
  rw[ala (amB qqO),hpp];exact hl
 have hhi:hi*2 ^ s<18446744073709551616:=am6 (ak6 _ qqO) hY1;have hor:hi*2 ^ s|||lo / 2 ^ (64-s)=hi*2 ^ s+lo / 2 ^ (64-s):=by
  have:=anu hlo hi;rw[anv]at this;exact this.symm
 have hsum:hi*2 ^ s+lo / 2 ^ (64-s)<18446744073709551616:=by
  have h1:(hi+1)*2 ^ s≤y*2 ^ s:=ak6 _ hy;rw[ak7]at h1;omega
 have hlw:lo / 2 ^ (64-s)<18446744073709551616:=am6 (anr _ _) hl;have E11:IntKind.u64.wrap ((akO IntKind.u64.bits ((hi*2 ^ s:Nat):Int)|||akO IntKind.u64.bits ((lo / 2 ^ (64-s):Nat):Int)).toNat:Int)=((hi*2 ^ s+lo / 2 ^ (64-s):Nat):Int):=
  Jf hhi hlw (fun i _=>by rw[←hor,anw]) hsum
 have dv:∀a:Nat,(a:Int) / 2 ^ ana 32=((a / 4294967296:Nat):Int):=fun a=>by rw[p32];omega
 have dv2:∀a b:Nat,(a:Int) / (b:Int)=((a / b:Nat):Int):=fun a b=>(anp a b).symm;have ml:∀a b:Nat,(a:Int)*(b:Int)=((a*b:Nat):Int):=fun a b=>(anb a b).symm;have d32:ana 32≤IntKind.u64.bits:=qqD;have b64:∀a:Nat,a≤64→a≤IntKind.u64.bits:=fun a h=>h;obtain⟨Y,hY⟩:∃Y,Y=y*2 ^ s:=⟨_,rfl⟩;obtain⟨u,hu⟩:∃u,u=hi*2 ^ s+lo / 2 ^ (64-s):=⟨_,rfl⟩;obtain⟨v,hv⟩:∃v,v=lo*2 ^ s % 18446744073709551616:=⟨_,rfl⟩;have hU:(hi*18446744073709551616+lo)*2 ^ s=u*18446744073709551616+v:=by
  have h1:=alb (lo*2 ^ s) 18446744073709551616;have h2:lo*2 ^ s / 18446744073709551616=lo / 2 ^ (64-s):=by
   rw[←hpp,←amw,alR _ hp0]
  rw[hu,hv,←h2]
  grind
 have hw:v<18446744073709551616:=by rw[hv];exact alc _ qqO
 have huY:u<Y:=by
  have h1:(hi+1)*2 ^ s≤y*2 ^ s:=ak6 _ hy;rw[ak7]at h1;omega
 rw[←hY]at hY1 hY2;have hsplit:=alb Y 4294967296;have ha:2147483648≤Y / 4294967296:=qqO;have td:∀a b:Nat,(a:Int).tdiv (b:Int)=((a / b:Nat):Int):=fun _ _=>rfl;obtain⟨a,hea⟩:∃a,a=Y / 4294967296:=⟨_,rfl⟩;obtain⟨b,heb⟩:∃b,b=Y % 4294967296:=⟨_,rfl⟩;obtain⟨d1,hd1⟩:∃d1,d1=v / 4294967296:=⟨_,rfl⟩;obtain⟨d0,hd0⟩:∃d0,d0=v % 4294967296:=⟨_,rfl⟩;have hYab:a*4294967296+b=Y:=qqO;have hb:b<4294967296:=qqO;have hd1':d1<4294967296:=qqO;have hd0':d0<4294967296:=qqO;have haK:a<4294967296:=qqO;have ha0:2147483648≤a:=qqO;have hqb:u / a<18446744073709551616:=am6 (anr _ _) qqO;obtain⟨q1,hq1⟩:∃q1,q1=(u*4294967296+d1) / Y:=⟨_,rfl⟩;obtain⟨r1,hr1⟩:∃r1,r1=(u*4294967296+d1) % Y:=⟨_,rfl⟩;have sb:∀m n:Nat,n≤m→(m:Int)-(n:Int)=((m-n:Nat):Int):=fun m n h=>qqO;have w1:∀n:Nat,n<18446744073709551616→IntKind.u64.wrap (n:Int)=n:=dF;have hdz:¬IntKind.u64.wrap ((y:Int)*2 ^ (IntKind.u64.wrap ((lzI (y:Int):Nat):Int)).toNat) / 2 ^ ana 32=0:=by
  simp only[E8,amI,hP,ml,←hY,dF _ hY1,dv];omega
 refine ay (md:=2) (rf:=[]) mixed av rY Tryz.func236 qqR qqR qqR ?_
 repeat'((conv=>whnf);first|(intro hq;(try simp only[vw]at hq);try exact ak hq)|apply aI|exact aj|apply nM|apply fM)
 all_goals((try apply vM);(try simp only[vq]at*);try omega)
 all_goals(try exact hdz qqA)
 all_goals(try
  simp only[E8,E9,amI,hP,hP2,ml,dv,dv2,td,dF _ hhi,E11,←hY,←hu,dF _ hY1,rT _ hY1,xY,←hv,rT _ hw,←hea,←heb,←hd1,←hd0]
  )
 all_goals(try first|exact d32|exact b64 _ qqO|exact Int.natCast_nonneg _|omega)
 rw[←hYab]at hq1 hr1;have hr1Y:r1<Y:=by rw[hr1,hYab];exact alc _ qqO
 obtain⟨q0,hq0⟩:∃q0,q0=(r1*4294967296+d0) / (a*4294967296+b):=⟨_,rfl⟩;have hq1K:q1<4294967296:=by rw[hq1];exact abf qqO qqO hd1'
 have hq0K:q0<4294967296:=by rw[hq0];exact abf qqO qqO hd0'
 have U1:=un3 (u:=u) (d:=d1) hY1 qqO;have U0:=un3 (u:=r1) (d:=d0) hY1 qqO;rw[←hYab,←hq1,←hr1,hYab]at U1;rw[←hYab,←hq0,hYab]at U0;have hdiv:=T9 (K:=4294967296) (U:=u*18446744073709551616+v) (Y:=Y) qqO qqO;rw[show(u*18446744073709551616+v) / 4294967296=u*4294967296+d1 by omega,show(u*18446744073709551616+v) % 4294967296=d0 by omega,←hU]at hdiv
 have hback:=BG (x:=hi*18446744073709551616+lo) (y:=y) hp0;rw[←hY,hdiv.1,hdiv.2]at hback;obtain⟨R1,R2⟩:=hback;rw[←hYab,←hq1,←hr1,←hq0]at R1;rw[←hYab,←hr1,hYab]at R2;have hs2:∀n:Nat,(n:Int) / 2 ^ ((s:Nat):Int).toNat=((n / 2 ^ s:Nat):Int):=fun n=>by rw[amI,hP,dv2]
 have R3:IntKind.u64.wrap (IntKind.u64.wrap ((q1:Int)*4294967296)+(q0:Int))=(((hi*18446744073709551616+lo) / y:Nat):Int):=by
  rw[←R1];simp only[wu];omega
 conv=>whnf
 refine jv (X:=Nat) (fun k=>btw 19 134 k) (fun q=>q1≤q∧q*a≤u∧u-q*a<4294967296∧q<18446744073709551616) (fun q=>[(15,.int .u64 q),(16,.int .u64 (u-q*a:Nat))]) (fun q=>[]) (fun q=>q) (u / a) ⟨aL,mixed,av,rY,aU⟩ qqR ?_ ?_ ?_
 ·have h1:=alb u a
  have h2:=alc u (show 0<a by omega)
  have e1:u / a*a=a*(u / a):=akT _ _;refine⟨?_,qqO,qqO,hqb⟩;rw[hq1];exact uE qqO qqO hd1'
 ·have h1:=anx u a
  repeat'((conv=>whnf);first|intro _|apply aI|exact aj|apply nM|apply fM)
  all_goals((try apply vM);(try simp only[vq]at*);try omega)
  ·rw[akX hqb]
  ·rw[akX hqb,wu,wu,←anb]
   omega
 intro q ⟨hqQ,hqu,hqr,hqW⟩;obtain⟨F1,F2,F3,F4⟩:=st3 (b:=b) hb haK hd1' hqr hqW;rcases cs3 (d:=d1) qqO qqO hb hd1' hqu (hq1▸hqQ)with⟨c1,c2,c3⟩|⟨c1,c2,c3,c4,c5,c6⟩
 ·rw[←hq1]at c1
  have F2:=F2 c2;subst c1
  repeat'((conv=>whnf);first|(intro hq;(try simp only[vw]at hq);try exact ak hq)|apply aI|exact aj|apply nM|apply fM)
  all_goals((try apply vM);(try simp only[vq]at*);try omega)
  rw[U1];conv=>whnf
  refine jv (X:=Nat) (fun k=>btw 19 134 k) (fun t=>q0≤t∧t*a≤r1∧r1-t*a<4294967296∧t<18446744073709551616) (fun t=>[(18,.int .u64 t),(16,.int .u64 (r1-t*a:Nat))]) (fun t=>[]) (fun t=>t) (r1 / a) ⟨aL,mixed,av,rY,aU⟩ qqR ?_ ?_ ?_
  ·have h1:=alb r1 a
   have h2:=alc r1 (show 0<a by omega)
   have e1:r1 / a*a=a*(r1 / a):=akT _ _;have h3:=anr r1 a;refine⟨?_,qqO,qqO,qqO⟩;rw[hq0];exact uE qqO qqO hd0'
  ·have h1:=anx r1 a
   have h3:=anr r1 a
   repeat'((conv=>whnf);first|intro _|apply aI|exact aj|apply nM|apply fM)
   all_goals((try apply vM);(try simp only[vq]at*);try omega)
   all_goals(try rw[td])
   all_goals(rw[dF (r1 / a) qqO])
   all_goals(try(rw[wu,wu,←anb];omega))
  intro t ⟨hqQ,hqu,hqr,hqW⟩;obtain⟨F1,F2,F3,F4⟩:=st3 (b:=b) hb haK hd0' hqr hqW;rcases cs3 (d:=d0) qqO qqO hb hd0' hqu (hq0▸hqQ)with⟨c1,c2,c3⟩|⟨c1,c2,c3,c4,c5,c6⟩
  ·rw[←hq0]at c1
   have F2:=F2 c2;subst c1;all_goals exact wz
  ·rw[←hq0]at c2 c6
   have F4:=F4 c1;have hnext:r1-t*a+a<4294967296→q0≤t-1∧(t-1)*a≤r1∧r1-(t-1)*a<4294967296∧t-1<18446744073709551616:=fun h=>⟨c2,c4,qqO,qqO⟩;by_cases hK:t<4294967296
   ·have F2:=F2 hK
    have c3:=c3 hK;all_goals exact mU
   ·all_goals exact mU
 ·rw[←hq1]at c2 c6
  have F4:=F4 c1;have hnext:u-q*a+a<4294967296→q1≤q-1∧(q-1)*a≤u∧u-(q-1)*a<4294967296∧q-1<18446744073709551616:=fun h=>⟨c2,c4,qqO,qqO⟩;by_cases hK:q<4294967296
  ·have F2:=F2 hK
   have c3:=c3 hK
   repeat'((conv=>whnf);first|(intro hq;(try simp only[vw]at hq);try exact ak hq)|apply aI|exact aj|apply nM|apply fM)
   all_goals((try apply vM);(try simp only[vq]at*);try omega)
   rotate_left
   all_goals first
    |(refine⟨q-1,[],⟨hnext qqO,qqO⟩,?_⟩;rw[F3,F4,c5];repeat'((conv=>whnf);first|intro _|apply aI|exact aj|apply nM|apply fM);all_goals((try apply vM);(try simp only[vq]at*);try omega))
    |skip
   rw[F4,c6 qqO,U1];conv=>whnf
   refine jv (X:=Nat) (fun k=>btw 19 134 k) (fun t=>q0≤t∧t*a≤r1∧r1-t*a<4294967296∧t<18446744073709551616) (fun t=>[(18,.int .u64 t),(16,.int .u64 (r1-t*a:Nat))]) (fun t=>[]) (fun t=>t) (r1 / a) ⟨aL,mixed,av,rY,aU⟩ qqR ?_ ?_ ?_
   ·have h1:=alb r1 a
    have h2:=alc r1 (show 0<a by omega)
    have e1:r1 / a*a=a*(r1 / a):=akT _ _;have h3:=anr r1 a;refine⟨?_,qqO,qqO,qqO⟩;rw[hq0];exact uE qqO qqO hd0'
   ·have h1:=anx r1 a
    have h3:=anr r1 a
    repeat'((conv=>whnf);first|intro _|apply aI|exact aj|apply nM|apply fM)
    all_goals((try apply vM);(try simp only[vq]at*);try omega)
    all_goals(try rw[td])
    all_goals(rw[dF (r1 / a) qqO])
    all_goals(try(rw[wu,wu,←anb];omega))
   intro t ⟨hqQ,hqu,hqr,hqW⟩;obtain⟨F1,F2,F3,F4⟩:=st3 (b:=b) hb haK hd0' hqr hqW;rcases cs3 (d:=d0) qqO qqO hb hd0' hqu (hq0▸hqQ)with⟨c1,c2,c3⟩|⟨c1,c2,c3,c4,c5,c6⟩
   ·rw[←hq0]at c1
    have F2:=F2 c2;subst c1;all_goals exact wz
   ·rw[←hq0]at c2 c6
    have F4:=F4 c1;have hnext:r1-t*a+a<4294967296→q0≤t-1∧(t-1)*a≤r1∧r1-(t-1)*a<4294967296∧t-1<18446744073709551616:=fun h=>⟨c2,c4,qqO,qqO⟩;by_cases hK:t<4294967296
    ·have F2:=F2 hK
     have c3:=c3 hK;all_goals exact mU
    ·all_goals exact mU
  ·repeat'((conv=>whnf);first|(intro hq;(try simp only[vw]at hq);try exact ak hq)|apply aI|exact aj|apply nM|apply fM)
   all_goals((try apply vM);(try simp only[vq]at*);try omega)
   rotate_left
   all_goals first
    |(refine⟨q-1,[],⟨hnext qqO,qqO⟩,?_⟩;rw[F3,F4,c5];repeat'((conv=>whnf);first|intro _|apply aI|exact aj|apply nM|apply fM);all_goals((try apply vM);(try simp only[vq]at*);try omega))
    |skip
   rw[F4,c6 qqO,U1];conv=>whnf
   refine jv (X:=Nat) (fun k=>btw 19 134 k) (fun t=>q0≤t∧t*a≤r1∧r1-t*a<4294967296∧t<18446744073709551616) (fun t=>[(18,.int .u64 t),(16,.int .u64 (r1-t*a:Nat))]) (fun t=>[]) (fun t=>t) (r1 / a) ⟨aL,mixed,av,rY,aU⟩ qqR ?_ ?_ ?_
   ·have h1:=alb r1 a
    have h2:=alc r1 (show 0<a by omega)
    have e1:r1 / a*a=a*(r1 / a):=akT _ _;have h3:=anr r1 a;refine⟨?_,qqO,qqO,qqO⟩;rw[hq0];exact uE qqO qqO hd0'
   ·have h1:=anx r1 a
    have h3:=anr r1 a
    repeat'((conv=>whnf);first|intro _|apply aI|exact aj|apply nM|apply fM)
    all_goals((try apply vM);(try simp only[vq]at*);try omega)
    all_goals(try rw[td])
    all_goals(rw[dF (r1 / a) qqO])
    all_goals(try(rw[wu,wu,←anb];omega))
   intro t ⟨hqQ,hqu,hqr,hqW⟩;obtain⟨F1,F2,F3,F4⟩:=st3 (b:=b) hb haK hd0' hqr hqW;rcases cs3 (d:=d0) qqO qqO hb hd0' hqu (hq0▸hqQ)with⟨c1,c2,c3⟩|⟨c1,c2,c3,c4,c5,c6⟩
   ·rw[←hq0]at c1
    have F2:=F2 c2;subst c1;all_goals exact wz
   ·rw[←hq0]at c2 c6
    have F4:=F4 c1;have hnext:r1-t*a+a<4294967296→q0≤t-1∧(t-1)*a≤r1∧r1-(t-1)*a<4294967296∧t-1<18446744073709551616:=fun h=>⟨c2,c4,qqO,qqO⟩;by_cases hK:t<4294967296
    ·have F2:=F2 hK
     have c3:=c3 hK;all_goals exact mU
    ·all_goals exact mU
def BH:PSp:=fun xs K=>match xs with
 | [.int .u64 hi,.int .u64 lo,.int .u64 y]=>VC (0≤hi∧hi<y∧0≤lo∧lo<18446744073709551616∧y<18446744073709551616)∧K (.tup [.int .u64 ((hi*18446744073709551616+lo) / y),.int .u64 ((hi*18446744073709551616+lo) % y)])
 |_=>False
theorem Jm:POK Tryz.prog 236 BH:=by
 intro xs K hk;unfold BH at hk;split at hk
 ·obtain⟨h1,h2,h3,h4,h5⟩:=hk.1.get
  rename_i hi lo y;obtain⟨X,rfl⟩:=am4 h1;obtain⟨L,rfl⟩:=am4 h3;obtain⟨Y,rfl⟩:=am4 (show 0≤y by omega)
  refine⟨_,hk.2,?_⟩;have e1:(((X:Int)*18446744073709551616+(L:Int)) / (Y:Int))=(((X*W+L) / Y:Nat):Int):=by rw[anp];rfl
  have e2:(((X:Int)*18446744073709551616+(L:Int)) % (Y:Int))=(((X*W+L) % Y:Nat):Int):=by rw[amR];rfl
  rw[e1,e2];by_cases h0:X=0
  ·subst h0
   have:=Ua L Y (by unfold W;omega) qqO (by unfold W;omega)
   simpa using this
  ·exact Uc X L Y qqO (by unfold W;omega) qqO (by unfold W;omega)
 ·exact hk.elim
theorem adB {n i x z:Nat} {d e:Int} (hi:i<n) (h1:∀k,k<i→z / W ^ k % W=x / W ^ k % W) (h2:d=((z / W ^ i % W:Nat):Int)) (h3:e=((z / W ^ (i+1) % W:Nat):Int)) (hx:x<W ^ (i+1)) (hz:z<W ^ (i+2)):((dn W n x).set i d).set (i+1) e=dn W n z:=by
 apply amC
 ·simp[fQ]
 ·intro k g1 g2
  rw[amF,amF];simp only[dn,amG,amH];split
  ·rename_i h;rw[h3,h]
  ·split
   ·rename_i h;rw[h2,h]
   ·by_cases hk:k<i
    ·rw[h1 k hk]
    ·have hp1:W ^ (i+1)≤W ^ k:=amN qqD qqO
     have hp2:W ^ (i+2)≤W ^ k:=amN qqD qqO;rw[akV qqO,akV qqO]
theorem adC {n i x z:Nat} {d:Int} (hi:i<n) (h1:∀k,k<i→z / W ^ k % W=x / W ^ k % W) (h2:d=((z / W ^ i % W:Nat):Int)) (hx:x<W ^ (i+1)) (hz:z<W ^ (i+1)):(dn W n x).set i d=dn W n z:=by
 apply amC
 ·simp[fQ]
 ·intro k g1 g2
  rw[amF];simp only[dn,amG,amH];split
  ·rename_i h;rw[h2,h]
  ·by_cases hk:k<i
   ·rw[h1 k hk]
   ·have hp1:W ^ (i+1)≤W ^ k:=amN qqD qqO
    rw[akV qqO,akV qqO]
theorem shV {x i s:Nat} (hs:s≤63) {n:Nat} (hi:i<n):
 IntKind.u64.wrap ((akO IntKind.u64.bits ((dn W n (x % W ^ i*2 ^ s)).getD i 0)|||akO IntKind.u64.bits (IntKind.u64.wrap ((dl W x).getD i 0*2 ^ s))).toNat:Int)=((x % W ^ (i+1)*2 ^ s / W ^ i % W:Nat):Int)∧
 (dl W x).getD i 0 / 2 ^ (64-(s:Int)).toNat=((x % W ^ (i+1)*2 ^ s / W ^ (i+1) % W:Nat):Int):=by
 have hpr:2 ^ s*2 ^ (64-s)=W:=by rw[←amK,show s+(64-s)=64 by omega]
 obtain⟨g1,g2,g3,g4,g5⟩:=MN W2 x i hpr;have hp0:0<2 ^ s:=amB qqO;have hxi:=alc (x / W ^ i) (by decide:W>0)
 have hpW:2 ^ s≤W:=by rw[←hpr];exact alv _ (amB qqO)
 rw[Df _ _ _ _ hi,dz W2,akX (a:=x % W ^ i*2 ^ s / W ^ i) qqO,g2,g3];generalize x % W ^ i*2 ^ s / W ^ i=o at*
 generalize x / W ^ i % W=t at*
 have eP:((t:Int)*2 ^ s)=((t*2 ^ s:Nat):Int):=by norm_cast
 have em:t*2 ^ s % W=(t % 2 ^ (64-s))*2 ^ s:=by rw[←hpr,akT (2 ^ s) (2 ^ (64-s)),amW]
 constructor
 ·rw[eP,show IntKind.u64.wrap ((t*2 ^ s:Nat):Int)=((t*2 ^ s % W:Nat):Int)from xY _]
  have:=anu g1 (t % 2 ^ (64-s));rw[anv,←em]at this;have hm:=alc (t*2 ^ s) (by decide:W>0)
  generalize t*2 ^ s % W=m at*
  change m<18446744073709551616 at hm;change IntKind.u64.wrap ((akO IntKind.u64.bits (o:Int)|||akO IntKind.u64.bits (m:Int)).toNat:Int)=_;have ho:o<18446744073709551616:=by unfold W at*;omega
  refine Jf ho hm (fun k _=>?_) g5;rw[am5,this,anw,anz]
 ·rw[show((64:Int)-(s:Int)).toNat=64-s by omega]
  have e3:t*2 ^ s / W=t / 2 ^ (64-s):=by rw[←hpr,←amw,alR _ hp0]
  rw[e3,akX (am6 (anr _ _) hxi),anp]
  norm_cast
theorem shL {x i s:Nat} (hs:s≤63):x % W ^ i*2 ^ s<W ^ (i+1):=by
 rw[amx];have h1:=alc x (pw W2 i);have h2:2 ^ s<W:=Nat.pow_lt_pow_right qqO (show s<64 by omega)
 exact anf h1 h2
theorem XJ (x s:Nat) (hx:(dl W x).length≤400000000000) (hs:s≤63):dH Tryz.prog 238 [.isl (wd x) .none,.int .i64 s] [] [.rsl 0 0 ((dl W x).length+1)] [.cells (.ints .u64 (dn W ((dl W x).length+1) (x*2 ^ s))) false]:=by
 refine dV (md:=3) (rf:=[]) mixed av aG 0 [(0,0)] Tryz.func238 qqR qqR qqR ?_
 repeat'((conv=>whnf);first|(intro hq;(try simp only[vw]at hq);try exact ak hq)|apply aI|exact aj|apply nM|apply fM)
 all_goals((try apply vM);(try simp only[vq]at*);try omega)
 ·exact .inl trivial
 conv=>whnf
 refine aV (X:=Nat) (fun i=>i≤(dl W x).length) (fun i=>[(14,.int .i64 i)]) (fun i=>[(0,.cells (.ints .u64 (dn W ((dl W x).length+1) (x % W ^ i*2 ^ s))) false)]) (fun i=>(dl W x).length-i) 0 ⟨aL,mixed,av,aG,aU⟩ qqR qqO ?_ ?_
 ·repeat'((conv=>whnf);first|intro _|apply aI|exact aj|apply nM|apply fM)
  all_goals((try apply vM);(try simp only[vq]at*);try omega)
  rw[show x % W ^ 0*2 ^ s=0 by rw[ang,alg,alu],rQ,show(((dl W x).length:Int)+1).toNat=(dl W x).length+1 by omega]
 intro i hi;have hm0:=fQ W ((dl W x).length+1) (x % W ^ i*2 ^ s);by_cases e:i=(dl W x).length
 ·subst e
  repeat'((conv=>whnf);first|(intro hq;(try simp only[vw]at hq);try exact ak hq)|apply aI|exact aj|apply nM|apply fM)
  all_goals((try apply vM);(try simp only[vq]at*);try omega)
  rw[akX (fP W2 x)]
 ·have hr1:=rG x i
  obtain⟨V1,V2⟩:=shV (x:=x) (i:=i) (n:=(dl W x).length+1) hs qqO;have low:∀k,k<i→x % W ^ (i+1)*2 ^ s / W ^ k % W=x % W ^ i*2 ^ s / W ^ k % W:=(MN W2 x i (p:=2 ^ s) (r:=2 ^ (64-s)) (by rw[←amK,show s+(64-s)=64 by omega])).2.2.2.1
  have b64:∀a:Nat,a≤64→a≤IntKind.u64.bits:=fun a h=>h;by_cases hs0:s=0
  ·subst hs0
   repeat'((conv=>whnf);first|(intro hq;(try simp only[vw]at hq);try exact ak hq)|apply aI|exact aj|apply nM|apply fM)
   all_goals((try apply vM);(try simp only[vq]at*);try omega)
   rw[V1,adC qqO low rfl (shL (s:=0) qqO) (by rw[ang,akZ];exact alc _ (pw W2 _))]
   refine⟨i+1,[],⟨qqO,qqO⟩,?_⟩;rw[show((i+1:Nat):Int)=(i:Int)+1 by omega]
   all_goals exact aW
  ·repeat'((conv=>whnf);first|(intro hq;(try simp only[vw]at hq);try exact ak hq)|apply aI|exact aj|apply nM|apply fM)
   all_goals((try apply vM);(try simp only[vq]at*);try omega)
   all_goals first
    |exact b64 _ qqO
    |(rw[ak3,hm0];omega)
    |(rw[V1,V2,show((i:Int)+1).toNat=i+1 by omega,adB qqO low rfl rfl (shL hs) (shL hs)]
      refine⟨i+1,[],⟨qqO,qqO⟩,?_⟩;rw[show((i+1:Nat):Int)=(i:Int)+1 by omega]
      all_goals exact aW)
def XK:LSp:=fun xs objs K=>match xs,objs with
 | [.isl (.ints .u64 l) .none,.int .i64 s],[]=>VC (Dw l∧l.length≤400000000000∧0≤s∧s≤63)∧K [.rsl 0 0 (l.length+1)] [.cells (.ints .u64 (dn W (l.length+1) (vw l*2 ^ s.toNat))) false]
 |_,_=>False
end Go.Eng.YtmkagljofpddpaaGreatDoor
namespace Go.Eng.Dig
set_option linter.unusedSimpArgs false
set_option linter.unusedVariables false
def sg (B n j i d z:Nat):List Int:=(akE n).map fun k=>if j≤k∧k<j+i then((d / B ^ (k-j) % B:Nat):Int)else((z / B ^ k % B:Nat):Int)
theorem Jo (B n j i d z:Nat):(sg B n j i d z).length=n:=by simp[sg]
theorem Dx (B n j i d z k:Nat) (h:k<n):(sg B n j i d z).getD k 0=if j≤k∧k<j+i then((d / B ^ (k-j) % B:Nat):Int)else((z / B ^ k % B:Nat):Int):=by
 simp[sg,akG,h]
theorem MX (B n j d z:Nat):sg B n j 0 d z=dn B n z:=by
 unfold sg dn;refine amE fun k hk=>?_;rw[if_neg qqO]
theorem wO {B n j i d z:Nat} (h:j+i<n) {x:Int} (hx:x=((d / B ^ i % B:Nat):Int)):(sg B n j i d z).set (j+i) x=sg B n j (i+1) d z:=by
 apply amC
 ·simp[Jo]
 ·intro k h1 h2
  rw[amF];simp only[sg,amG,amH];split
  ·subst_vars;rw[if_pos qqO,show j+i-j=i by omega]
  ·split<;>split<;>first|rfl|omega
theorem Jp {B n j i z r:Nat} (hB:2≤B) (hr:r<B ^ i) (hz:z / B ^ (j+i)=0) {d:Nat} (hd:∀k,k<i→d / B ^ k % B=r / B ^ k % B):sg B n j i d z=dn B n (z % B ^ j+r*B ^ j):=by
 have hp:=pw hB j;have hm:=alc z hp;unfold sg dn;refine amE fun k hk=>?_;congr 1;by_cases h1:k<j
 ·rw[if_neg qqO]
  congr 1
  obtain⟨t,rfl⟩:∃t,j=k+(t+1):=⟨j-k-1,qqO⟩;have e:z % B ^ (k+(t+1))+r*B ^ (k+(t+1))=z % B ^ (k+(t+1))+(r*B ^ t*B)*B ^ k:=by rw[amK B k (t+1),amx];grind
  rw[e,amO _ _ (pw hB k),amT,Tv B z (k+(t+1)) k qqO]
 ·obtain⟨t,rfl⟩:∃t,k=j+t:=⟨k-j,qqO⟩
  have e:(z % B ^ j+r*B ^ j) / B ^ (j+t)=r / B ^ t:=by
   rw[amK,←amw,amO _ _ hp,akV hm,akS]
  rw[e];by_cases h2:t<i
  ·rw[if_pos qqO,show j+t-j=t by omega,hd t h2]
  ·rw[if_neg qqO]
   congr 1
   have h3:z / B ^ (j+t)=0:=by
    obtain⟨s,rfl⟩:∃s,t=i+s:=⟨t-i,qqO⟩;rw[←akr,amK,←amw,hz,Nat.zero_div]
   have h4:r / B ^ t=0:=akV (akv hr (amN qqO qqO));rw[h3,h4]
def qc (B q v i:Nat):Nat:=q*(v % B ^ i) / B ^ i
theorem adD (B q v:Nat):qc B q v 0=0:=by simp[qc,alg]
theorem Ud {B:Nat} (hB:2≤B) (q v i:Nat):q*(v % B ^ (i+1)) / B ^ i=q*(v / B ^ i % B)+qc B q v i:=by
 rw[nE,Nat.mul_add,←amY,amO _ _ (pw hB i)];unfold qc;omega
theorem adE {B:Nat} (hB:2≤B) (q v i:Nat):(q*(v / B ^ i % B)+qc B q v i) / B=qc B q v (i+1):=by
 rw[←Ud hB,amw];rfl
theorem agX {B:Nat} (hB:2≤B) (q v i:Nat):(q*(v / B ^ i % B)+qc B q v i) % B=q*v / B ^ i % B:=by
 rw[←Ud hB,←amL,←amL,←amx,amX,amQ,←amX]
theorem Qr {B:Nat} (hB:2≤B) {q:Nat} (hq:q<B) (v i:Nat):qc B q v i<B:=by
 unfold qc;rw[ala (pw hB i)];have h1:=alc v (pw hB i);by_cases h0:q=0
 ·subst h0;rw[alu];exact amZ qqO (pw hB i)
 ·exact akv (ant h1 qqO) (ak6 _ qqO)
theorem agY {B q v n:Nat} (hv:v<B ^ n):qc B q v n=q*v / B ^ n:=by unfold qc;rw[akX hv]
theorem Jq {B:Nat} (hB:2≤B) (t m i:Nat) (h:i<m):(t+B ^ m) / B ^ i % B=t / B ^ i % B:=by
 obtain⟨s,rfl⟩:∃s,m=i+(s+1):=⟨m-i-1,qqO⟩;rw[show t+B ^ (i+(s+1))=t+(B ^ s*B)*B ^ i by rw[amK,amx];grind,amO _ _ (pw hB i),amT]
theorem aip {B:Nat} (hB:2≤B) (t m y i:Nat) (h:i≤m):bo B (t+B ^ m) y i=bo B t y i:=by
 obtain⟨s,rfl⟩:∃s,m=i+s:=⟨m-i,qqO⟩;unfold bo;rw[show t+B ^ (i+s)=t+B ^ s*B ^ i by rw[amK];grind,amT]
theorem MZ {B:Nat} (hB:2≤B) {t m y:Nat} (hy:y≤t+B ^ m) {i:Nat} (hi:i<m):(((t / B ^ i % B:Nat):Int)-((y / B ^ i % B:Nat):Int)-(bo B t y i:Int)) % B=(((t+B ^ m-y) / B ^ i % B:Nat):Int):=by
 rw[←Tz hB hy,Jq hB t m i hi,aip hB t m y i qqO]
end Go.Eng.Dig
namespace Go.Eng.YtmkagljofpddpaaGreatDoor
open Go.Proofs Go.Eng.Dig
set_option linter.unusedSimpArgs false
set_option linter.unusedVariables false
set_option maxHeartbeats 0
set_option maxRecDepth 100000
theorem agZ:LOK Tryz.prog 238 XK:=by
 intro xs objs K hk;unfold XK at hk;split at hk
 ·rename_i l s
  obtain⟨h1,h2,h3,h4⟩:=hk.1.get;obtain⟨x,rfl⟩:=kC h1;obtain⟨t,rfl⟩:=am4 h3;refine⟨_,_,hk.2,?_⟩;rw[dM];exact XJ x t h2 qqO
 ·exact hk.elim
noncomputable def ajf:CPT:=aB 189 (aP rU) (aB 231 (aP wL) (aB 233 (aP Bz) (aB 236 (aP BH) noC)))
theorem yt:bD Tryz.prog ajf:=au (aC uq) (au (nQ zx) (au (nQ Je) (au (aC Jm) aG)))
theorem Qs {V T n:Nat} (hn:(dl W V).length=n) (hn2:2≤n) (hT:T<W*V):∃u0 u1 u2 v1 v2:Nat,T / W ^ n % W=u0∧T / W ^ (n-1) % W=u1∧T / W ^ (n-2) % W=u2∧V / W ^ (n-1) % W=v1∧V / W ^ (n-2) % W=v2∧
 u0<W∧u1<W∧u2<W∧v1<W∧v2<W∧1≤v1∧u0≤v1∧(∀q,u0*W+u1+1≤(q+1)*v1→T / V≤q)∧(∀q,(u0*W+u1)*W+u2<q*(v1*W+v2)→T / V<q)∧(∀q,q≤W→q*(v1*W+v2)≤(u0*W+u1)*W+u2→q≤T / V+1):=by
 obtain⟨m,rfl⟩:∃m,n=m+2:=⟨n-2,qqO⟩;rw[show m+2-1=m+1 by omega,show m+2-2=m by omega]
 have hVl:=fP W2 V;rw[hn]at hVl;have hVg:=qV W2 V (m+1) hn;have hW:0<W:=qqD;have p0:=pw W2 m;have p1:=pw W2 (m+1);have hTl:T<W ^ (m+3):=by
  have:W*V≤W*W ^ (m+2):=amU _ qqO;rw[amx W (m+2),akT];omega
 have tU:=jA W T m;have tU1:=jA W T (m+1);have tU2:=jA W T (m+2);have tU3:T / W ^ (m+3)=0:=akV hTl;have tV:=jA W V m;have tV1:=jA W V (m+1);have tV2:V / W ^ (m+2)=0:=akV hVl;have l0:=alc (T / W ^ (m+2)) hW;have l1:=alc (T / W ^ (m+1)) hW;have l2:=alc (T / W ^ m) hW;have l3:=alc (V / W ^ (m+1)) hW;have l4:=alc (V / W ^ m) hW;have q1:1≤V / W ^ (m+1):=(ald p1).2 qqO;have d0:=alb T (W ^ m);have m0:=alc T p0;have d1:=alb T (W ^ (m+1));have m1:=alc T p1;have e0:=alb V (W ^ m);have n0:=alc V p0;have e1:=alb V (W ^ (m+1));have n1:=alc V p1;rw[show m+2+1=m+3 from rfl,tU3,alu,akS]at tU2;rw[show m+1+1=m+2 from rfl,tV2,alu,akS]at tV1;rw[show m+1+1=m+2 from rfl]at tU1;rw[←tU2]at l0;rw[←tV1]at l3;have hu0:T / W ^ (m+2)≤V / W ^ (m+1):=by
  have:T / W ^ (m+2)=T / W / W ^ (m+1):=by rw[amw,amx W (m+1),akT]
  rw[this];exact amM (am1 ((ala hW).2 (by rw[akT];exact hT)))
 refine⟨_,_,_,_,_,rfl,rfl,rfl,rfl,rfl,?_⟩;rw[←tU2,←tV1];refine⟨l0,l1,l2,l3,l4,q1,hu0,fun q hq=>?_,fun q hq=>?_,fun q hq h=>?_⟩
 ·rw[←tU1]at hq
  exact Xw (B:=W) (p:=W ^ (m+1)) (u1:=T / W ^ (m+1)) (v1:=V / W ^ (m+1)) (by rw[akT];exact anA T p1) (anx _ _) hq
 ·rw[←tU1,←tU,←tV]at hq
  exact Qh (p:=W ^ m) (u2:=T / W ^ m) (v2:=V / W ^ m) (by rw[akT];exact anA T p0) (anx _ _) hq
 ·rw[←tU1,←tU,←tV]at h
  refine Qi (B:=W) (p:=W ^ m) (u2:=T / W ^ m) (v2:=V / W ^ m) (w:=V % W ^ m) (anx _ _) (anB V (W ^ m)).symm n0 ?_ hq h;have h1:1*W≤V / W ^ (m+1)*W:=ak6 _ q1;rw[ak8]at h1;rw[tV];exact aky h1 (Nat.le_add_right _ _)
theorem aiq {V Z L j T q D:Nat} (hTT:Z / W ^ j=T) {n:Nat} (hD:D=T+W ^ (n+1)-q*V) (hqV:q*V≤T+W ^ (n+1)) (hq:q<W) {i:Nat} (hi:i≤n) (hj:j+n+1≤L):
 ∃P O:Int,(q:Int)*(dl W V).getD i 0=P∧(sg W L j i D Z).getD (j+i) 0=O∧0≤P∧P≤340282366920938463426481119284349108225∧0≤O∧O<18446744073709551616∧
 IntKind.u64.wrap (P / 18446744073709551616+(P % 18446744073709551616+(qc W q V i:Nat)+0) / 18446744073709551616)=(qc W q V (i+1):Nat)∧
 (O-(P % 18446744073709551616+(qc W q V i:Nat)+0) % 18446744073709551616-(bo W T (q*V) i:Nat)) % 18446744073709551616=((D / W ^ i % W:Nat):Int)∧
 (if O<(P % 18446744073709551616+(qc W q V i:Nat)+0) % 18446744073709551616+(bo W T (q*V) i:Nat)then(1:Int)else 0)=(bo W T (q*V) (i+1):Nat):=by
 refine⟨((q*(V / W ^ i % W):Nat):Int),((T / W ^ i % W:Nat):Int),?_,?_,?_⟩
 ·rw[dz W2,anb]
 ·rw[Dx _ _ _ _ _ _ _ qqO,if_neg qqO,amK,←amw,hTT]
 ·have e1:=adE W2 q V i
  have e2:=agX W2 q V i;have e3:=Dh W2 T (q*V) i;have e4:=MZ W2 hqV (i:=i) qqO;rw[←hD]at e4;have h1:=alc (T / W ^ i) (by decide:W>0)
  have h2:=alc (V / W ^ i) (by decide:W>0)
  have h4:=alE (show q≤18446744073709551615 by unfold W at*;omega) (show V / W ^ i % W≤18446744073709551615 by unfold W at*;omega)
  have h5:=Qr W2 hq V i;have h6:=Qg W T (q*V) i;rw[←e4,e3,←e2,←e1];clear e1 e2 e3 e4;generalize q*(V / W ^ i % W)=a at*
  generalize T / W ^ i % W=b at*
  generalize qc W q V i=c at*
  generalize bo W T (q*V) i=g at*
  unfold W at*;refine⟨qqO,qqO,qqO,qqO,by rw[wu];omega,qqO,?_⟩
  split<;>split<;>omega
theorem air {V Z L j T q D:Nat} (hTT:Z / W ^ j=T) {n:Nat} (hV:V<W ^ n) (hD:D=T+W ^ (n+1)-q*V) (hqV:q*V≤T+W ^ (n+1)) (hq:q<W) (hj:j+n+1≤L):
 ∃O:Int,(sg W L j n D Z).getD (j+n) 0=O∧0≤O∧O<18446744073709551616∧(O-(qc W q V n:Nat)-(bo W T (q*V) n:Nat)) % 18446744073709551616=((D / W ^ n % W:Nat):Int)∧
 (if O<(qc W q V n:Nat)+(bo W T (q*V) n:Nat)then(1:Int)else 0)=(bo W T (q*V) (n+1):Nat):=by
 refine⟨((T / W ^ n % W:Nat):Int),?_,?_⟩
 ·rw[Dx _ _ _ _ _ _ _ qqO,if_neg qqO,amK,←amw,hTT]
 ·have e2:qc W q V n=q*V / W ^ n % W:=by
   have:=Qr W2 hq V n;rw[agY hV]at this⊢;exact(akX this).symm
  have e3:=Dh W2 T (q*V) n;have e4:=MZ W2 hqV (i:=n) qqO;rw[←hD,←e2]at e4;rw[←e2]at e3;have h1:=alc (T / W ^ n) (by decide:W>0)
  rw[←e4,e3];generalize T / W ^ n % W=b at*
  generalize qc W q V n=c at*
  generalize bo W T (q*V) n=g at*
  unfold W at*;refine⟨qqO,qqO,rfl,?_⟩;split<;>split<;>omega
theorem ais {V D r n k:Nat} (hDV:D+V=r+W ^ (n+1)) (hk:k≤n):(((D / W ^ k % W:Nat):Int)+(dl W V).getD k 0+(ca W D V k:Nat)) % 18446744073709551616=((r / W ^ k % W:Nat):Int)∧(((D / W ^ k % W:Nat):Int)+(dl W V).getD k 0+(ca W D V k:Nat)) / 18446744073709551616=(ca W D V (k+1):Nat):=by
 have e1:=Jb W2 D V k;have e2:=MF W2 D V k;rw[hDV,Jq W2 r (n+1) k qqO]at e1;rw[dz W2,←e1,←e2];generalize D / W ^ k % W=a
 generalize V / W ^ k % W=b
 generalize ca W D V k=c
 unfold W;omega
theorem Ue (V Z L j:Nat) (hn2:2≤(dl W V).length) (hj:j+(dl W V).length+1≤L) (hL:L≤900000000000) (hT:Z / W ^ j<W*V):
 dH Tryz.prog 239 [.rsl 0 j ((dl W V).length+1),.isl (wd V) .none] [.cells (.ints .u64 (dn W L Z)) false] [.int .u64 ((Z / W ^ j / V:Nat):Int)] [.cells (.ints .u64 (dn W L (Z % W ^ j+Z / W ^ j % V*W ^ j))) false]:=by
 have hU:∀k,k≤(dl W V).length→(dn W L Z).getD (j+k) 0=((Z / W ^ j / W ^ k % W:Nat):Int):=fun k hk=>by
  rw[Df _ _ _ _ qqO,amK,amw]
 have hlen:=fQ W L Z;generalize hTT:Z / W ^ j=T at*
 obtain⟨u0,u1,u2,v1,v2,a0,a1,a2,b1,b2,l0,l1,l2,m1,m2,hv1,huv,gA,gB,gC⟩:=Qs rfl hn2 hT;have H0:(dn W L Z).getD (j+(dl W V).length) 0=(u0:Int):=by rw[hU _ (aku _),a0]
 have H1:(dn W L Z).getD (j+(((dl W V).length:Int)-1).toNat) 0=(u1:Int):=by rw[show(((dl W V).length:Int)-1).toNat=(dl W V).length-1 by omega,hU _ qqO,a1]
 have H2:(dn W L Z).getD (j+(((dl W V).length:Int)-2).toNat) 0=(u2:Int):=by rw[show(((dl W V).length:Int)-2).toNat=(dl W V).length-2 by omega,hU _ qqO,a2]
 have G1:(dl W V).getD (((dl W V).length:Int)-1).toNat 0=(v1:Int):=by rw[show(((dl W V).length:Int)-1).toNat=(dl W V).length-1 by omega,dz W2,b1]
 have G2:(dl W V).getD (((dl W V).length:Int)-2).toNat 0=(v2:Int):=by rw[show(((dl W V).length:Int)-2).toNat=(dl W V).length-2 by omega,dz W2,b2]
 clear a0 a1 a2 b1 b2;have l0':u0<18446744073709551616:=l0;have l1':u1<18446744073709551616:=l1;have l2':u2<18446744073709551616:=l2;have m1':v1<18446744073709551616:=m1;have m2':v2<18446744073709551616:=m2;have gA':∀q,u0*18446744073709551616+u1+1≤(q+1)*v1→T / V≤q:=gA;have gB':∀q,(u0*18446744073709551616+u1)*18446744073709551616+u2<q*(v1*18446744073709551616+v2)→T / V<q:=gB;have gC':∀q,q≤18446744073709551616→q*(v1*18446744073709551616+v2)≤(u0*18446744073709551616+u1)*18446744073709551616+u2→q≤T / V+1:=gC;clear gA gB gC l0 l1 l2 m1 m2;obtain⟨t2,ht2⟩:∃t2,t2=u0*18446744073709551616+u1:=⟨_,rfl⟩;rw[←ht2]at gA' gB' gC';have hstart:∃Q0,(T / V≤Q0∧Q0<18446744073709551616∧Q0*v1≤t2∧t2-Q0*v1<36893488147419103232)∧(v1≤u0→Q0=18446744073709551615∧t2-Q0*v1=v1+u1)∧(u0<v1→Q0=t2 / v1∧t2-Q0*v1=t2 % v1):=by
  by_cases hb:v1≤u0
  ·have:u0=v1:=qqO
   refine⟨18446744073709551615,⟨by have:=Nat.div_lt_of_lt_mul (show T<V*18446744073709551616 by rw[akT];exact hT);omega,qqO,qqO,qqO⟩,fun _=>⟨rfl,qqO⟩,fun h=>absurd h qqO⟩
  ·have hd:=alb t2 v1
   have hm:=alc t2 hv1;have hc:t2 / v1*v1=v1*(t2 / v1):=akT _ _;have hq1:t2 / v1<18446744073709551616:=by
    rw[ala hv1];omega
   refine⟨t2 / v1,⟨gA' _ (by rw[ak7];omega),qqO,qqO,qqO⟩,fun h=>absurd h hb,fun _=>⟨rfl,qqO⟩⟩
 obtain⟨Q0,hI0,hs1,hs2⟩:=hstart;refine dV (md:=3) (rf:=[]) mixed av yt 1 [] Tryz.func239 qqR qqR qqR ?_
 repeat'((conv=>whnf);first|(intro hq;(try simp only[vw]at hq);try exact ak hq)|apply aI|exact aj|apply nM|apply fM)
 all_goals((try apply vM);(try simp only[vq]at*);try omega)
 all_goals(try(refine⟨qqO,qqO,qqO,qqO,qqO⟩))
 all_goals(try(refine⟨qqO,qqO,qqO,qqO⟩))
 all_goals(conv=>whnf)
 all_goals(refine jv (X:=Nat) (fun k=>btw 19 185 k) (fun q=>T / V≤q∧q<18446744073709551616∧q*v1≤t2∧t2-q*v1<36893488147419103232) (fun q=>[(6,.int .u64 q),(7,.int .u64 ((t2-q*v1) % 18446744073709551616:Nat)),(8,.int .u64 ((t2-q*v1) / 18446744073709551616:Nat)),(9,.any),(10,.any)]) (fun q=>[]) (fun q=>q) Q0 ⟨aL,mixed,av,yt,aU⟩ qqR hI0 ?_ ?_)
 ·obtain⟨e1,e2⟩:=hs1 qqO
  repeat'((conv=>whnf);first|intro _|apply aI|exact aj|apply nM|apply fM)
  all_goals((try apply vM);(try simp only[vq]at*);try omega)
  all_goals first
   |(rw[e1];rfl)
   |(rw[e2];try omega)
 rotate_left
 ·obtain⟨e1,e2⟩:=hs2 qqO
  have hm:=alc t2 hv1;have t2I:(u0:Int)*18446744073709551616+(u1:Int)=((t2:Nat):Int):=qqO
  repeat'((conv=>whnf);first|intro _|apply aI|exact aj|apply nM|apply fM)
  all_goals((try apply vM);(try simp only[vq]at*);try omega)
  ·rw[H0,H1,G1,t2I,e1];try rfl
  ·rw[H0,H1,G1,t2I,e2,akX qqO];try rfl
  all_goals(rw[e2,akV qqO];try rfl)
 all_goals
  intro q ⟨hqQ,hqW,hqt,hqr⟩;have hF:(q:Int)*(dl W V).getD (((dl W V).length:Int)-2).toNat 0=((q*v2:Nat):Int):=by rw[G2,anb]
  have hqv:q*v2≤18446744073709551615*18446744073709551615:=alE qqO qqO;have eV:q*(v1*18446744073709551616+v2)=q*v1*18446744073709551616+q*v2:=by grind
  have gB:=gB' q;have gC:=gC' q qqO;rw[eV]at gB gC;have eq1:1≤q→(q-1)*v1=q*v1-v1:=fun h=>by rw[Nat.sub_mul,ak8]
  have hq1v:1≤q→v1≤q*v1:=fun h=>anC _ h;have hq0:(t2-q*v1)*18446744073709551616+u2<q*v2→1≤q:=fun h=>ak9 fun h0=>by subst h0;omega
  have hw1:1≤q→IntKind.u64.wrap ((q:Int)-1)=((q-1:Nat):Int):=fun h=>by rw[wu];omega
 all_goals
  by_cases hov:(t2-q*v1) / 18446744073709551616=0
 all_goals(try(
  by_cases hpass:q*v2≤(t2-q*v1)*18446744073709551616+u2))
 all_goals repeat'((conv=>whnf);first|(intro hq;(try simp only[vw]at hq);try exact ak hq)|apply aI|exact aj|apply nM|apply fM)
 all_goals all_goals((try apply vM);(try simp only[vq]at*);try omega)
 all_goals(try(
  refine⟨q-1,[],⟨⟨qqO,qqO,qqO,qqO⟩,qqO⟩,?_⟩;rw[hw1 qqO,G1]
  repeat'((conv=>whnf);first|intro _|apply aI|exact aj|apply nM|apply fM)
  all_goals((try apply vM);(try simp only[vq]at*);try omega)))
 all_goals
  have hqT:q≤T / V+1:=by
   by_cases hov':(t2-q*v1) / 18446744073709551616=0
   ·exact gC qqO
   ·exact gC qqO
  obtain⟨D,hD⟩:∃D,D=T+W ^ ((dl W V).length+1)-q*V:=⟨_,rfl⟩;have hVl:=fP W2 V;have hV0:0<V:=ak9 fun h=>by subst h;simp[lD]at hn2
  have hTV:T / V*V≤T:=anx _ _;have hqV1:q*V≤(T / V+1)*V:=ak6 _ hqT;have hVW:V<W ^ ((dl W V).length+1):=akv hVl (amN qqD qqO);have hqV:q*V≤T+W ^ ((dl W V).length+1):=by rw[ak7,ak8]at hqV1;omega
  have hTl:T<W ^ ((dl W V).length+1):=akv hT (by rw[amx,akT];exact ak6 _ (am1 hVl))
  have hql:q*V<W ^ ((dl W V).length+1):=by rw[amx,akT];exact anf hVl hqW
  have hbl:bo W T (q*V) ((dl W V).length+1)=if T<q*V then 1 else 0:=by unfold bo;rw[akX hTl,akX hql]
  clear gA' gB' gC' gB gC eV eq1 hq1v hq0 hs1 hs2 hI0 hqt hqr H0 H1 H2 G1 G2 hF hqv hqV1 hTV;conv=>whnf
  refine jv (X:=Nat) (fun k=>btw 19 103 k||btw 106 185 k) (fun i=>i≤(dl W V).length) (fun i=>[(105,.int .i64 i),(11,.int .u64 (bo W T (q*V) i:Nat)),(12,.int .u64 (qc W q V i:Nat)),(13,.any),(14,.any),(15,.any),(16,.any)]) (fun i=>[(0,.cells (.ints .u64 (sg W L j i D Z)) false)]) (fun i=>(dl W V).length-i) 0 ⟨aL,mixed,av,yt,aU⟩ qqR qqO ?_ ?_
  ·repeat'((conv=>whnf);first|intro _|apply aI|exact aj|apply nM|apply fM)
   all_goals((try apply vM);(try simp only[vq]at*);try omega)
   all_goals first|(rw[MG];rfl)|(rw[adD];rfl)|(rw[MX])
  intro i hi;have hm:=Jo W L j i D Z;have hqc:qc W q V i<18446744073709551616:=Qr W2 hqW V i;have hbo:=Qg W T (q*V) i;have hv:=rG V i;by_cases e:i=(dl W V).length
  ·subst e
   obtain⟨O,e1,o0,o1,E1,E2⟩:=air hTT hVl hD hqV hqW hj;rw[←e1]at E2;by_cases hlt:T<q*V
   ·rw[hbl,if_pos hlt]at E2
    have hq1:q=T / V+1:=by
     have:¬q≤T / V:=fun h=>by
      have:=(ald hV0).1 h;omega
     omega
    have hwq:IntKind.u64.wrap ((q:Int)-1)=((T / V:Nat):Int):=by
     have:(q:Int)-1=((T / V:Nat):Int):=by rw[hq1];omega
     rw[this,dF _ qqO]
    have hqm:q*V=T / V*V+V:=by rw[hq1,ak7,ak8]
    have hdm:=anB T V;obtain⟨r,hr⟩:∃r,r=T % V:=⟨_,rfl⟩;rw[←hr]at hdm⊢;have hrV:r<V:=by rw[hr];exact alc _ hV0
    have hDV:D+V=r+W ^ ((dl W V).length+1):=qqO;have hDl:D<W ^ ((dl W V).length+1):=qqO;have hz0:Z / W ^ (j+((dl W V).length+1))=0:=by rw[amK,←amw,hTT];exact akV hTl
    obtain⟨Z2,hZ2⟩:∃Z2,Z2=Z % W ^ j+D*W ^ j:=⟨_,rfl⟩;have hZ2d:Z2 / W ^ j=D:=by rw[hZ2,amO _ _ (pw W2 j),akV (alc _ (pw W2 j)),akS]
    have hZ2m:Z2 % W ^ j=Z % W ^ j:=by rw[hZ2,amT,amQ]
    have hz2:Z2 / W ^ (j+((dl W V).length+1))=0:=by rw[amK,←amw,hZ2d];exact akV hDl
    have hall:sg W L j ((dl W V).length+1) D Z=sg W L j 0 r Z2:=by rw[MX,hZ2];exact Jp W2 hDl hz0 (fun _ _=>rfl)
    have hfin:sg W L j ((dl W V).length+1) r Z2=dn W L (Z % W ^ j+r*W ^ j):=by rw[←hZ2m];exact Jp W2 qqO hz2 (fun _ _=>rfl)
    have hg:∀k,k≤(dl W V).length→(sg W L j k r Z2).getD (j+k) 0=((D / W ^ k % W:Nat):Int):=fun k hk=>by
     rw[Dx _ _ _ _ _ _ _ qqO,if_neg qqO,amK,←amw,hZ2d]
    repeat'((conv=>whnf);first|(intro hq;(try simp only[vw]at hq);try exact ak hq)|apply aI|exact aj|apply nM|apply fM)
    all_goals((try apply vM);(try simp only[vq]at*);try omega)
    rw[e1,E1,wO qqO rfl];conv=>whnf
    refine jv (X:=Nat) (fun k=>btw 19 103 k||btw 106 155 k||btw 158 185 k) (fun k=>k≤(dl W V).length) (fun k=>[(157,.int .i64 k),(17,.int .u64 (ca W D V k:Nat)),(18,.any)]) (fun k=>[(0,.cells (.ints .u64 (sg W L j k r Z2)) false)]) (fun k=>(dl W V).length-k) 0 ⟨aL,mixed,av,yt,aU⟩ qqR qqO ?_ ?_
    ·repeat'((conv=>whnf);first|intro _|apply aI|exact aj|apply nM|apply fM)
     all_goals((try apply vM);(try simp only[vq]at*);try omega)
     all_goals first|(rw[ME];rfl)|exact hall
    intro k hk;have hm2:=Jo W L j k r Z2;have hck:=GK W2 D V k;have hvk:=rG V k;have hgk:=hg k hk;obtain⟨A1,A2⟩:=ais (k:=k) hDV hk;have hDk:D / W ^ k % W<18446744073709551616:=alc _ qqD;by_cases e:k=(dl W V).length
    ·subst e
     have hv0:(dl W V).getD (dl W V).length 0=0:=by rw[akG,amD (aku _)];rfl
     rw[hv0,Int.add_zero]at A1
     repeat'((conv=>whnf);first|(intro hq;(try simp only[vw]at hq);try exact ak hq)|apply aI|exact aj|apply nM|apply fM)
     all_goals((try apply vM);(try simp only[vq]at*);try omega)
     all_goals first
      |exact hwq
      |(rw[hwq])
      |(rw[hgk,wu,A1,wO qqO rfl,hfin])
    ·repeat'((conv=>whnf);first|(intro hq;(try simp only[vw]at hq);try exact ak hq)|apply aI|exact aj|apply nM|apply fM)
     all_goals((try apply vM);(try simp only[vq]at*);try omega)
     all_goals(try rw[hgk])
     all_goals first
      |omega
      |(refine⟨qqO,qqO,qqO,qqO⟩)
      |(rw[A1,A2,wO qqO rfl]
        refine⟨k+1,[],⟨qqO,qqO⟩,?_⟩;rw[show((k+1:Nat):Int)=(k:Int)+1 by omega]
        all_goals exact aW)
   ·rw[hbl,if_neg hlt]at E2
    have hq':q=T / V:=by
     have:=(ald hV0).2 (anq hlt);omega
    have hdm:=anB T V;have hrV:T % V<V:=alc _ hV0;have hDr:D=T % V+W ^ ((dl W V).length+1):=by rw[hD,hq'];omega
    have hz0:Z / W ^ (j+((dl W V).length+1))=0:=by rw[amK,←amw,hTT];exact akV hTl
    have hfin0:sg W L j ((dl W V).length+1) D Z=dn W L (Z % W ^ j+T % V*W ^ j):=Jp W2 qqO hz0 (fun k hk=>by rw[hDr];exact Jq W2 _ _ _ hk)
    repeat'((conv=>whnf);first|(intro hq;(try simp only[vw]at hq);try exact ak hq)|apply aI|exact aj|apply nM|apply fM)
    all_goals((try apply vM);(try simp only[vq]at*);try omega)
    all_goals first
     |(rw[e1];refine⟨qqO,qqO,qqO,qqO,qqO,qqO⟩)
     |(rw[e1,E1,wO qqO rfl];exact hfin0)
     |(rw[hq'])
  ·obtain⟨P,O,e1,e2,p0,p1,o0,o1,E1,E2,E3⟩:=aiq (i:=i) hTT hD hqV hqW qqO hj
   repeat'((conv=>whnf);first|(intro hq;(try simp only[vw]at hq);try exact ak hq)|apply aI|exact aj|apply nM|apply fM)
   all_goals((try apply vM);(try simp only[vq]at*);try omega)
   all_goals(try rw[e1])
   all_goals(try rw[e2])
   all_goals first
    |omega
    |(rw[E1,E2,E3,wO qqO rfl]
      refine⟨i+1,[],⟨qqO,qqO⟩,?_⟩;rw[show((i+1:Nat):Int)=(i:Int)+1 by omega]
      all_goals exact aW)
end Go.Eng.YtmkagljofpddpaaGreatDoor
namespace Go.Eng.Dig
set_option linter.unusedSimpArgs false
set_option linter.unusedVariables false
def zd (B X V k:Nat):Nat:=X % B ^ k+X / B ^ k % V*B ^ k
theorem Jr {B:Nat} (hB:2≤B) (X V j:Nat):zd B X V (j+1) / B ^ j=X / B ^ (j+1) % V*B+X / B ^ j % B:=by
 have hp:=pw hB j;have h1:=alc X hp;unfold zd;rw[nE,amx,show X % B ^ j+X / B ^ j % B*B ^ j+X / (B ^ j*B) % V*(B ^ j*B)=X % B ^ j+(X / (B ^ j*B) % V*B+X / B ^ j % B)*B ^ j by grind,amO _ _ hp,akV h1,akS]
theorem ag0 {B:Nat} (hB:2≤B) (X V j:Nat):zd B X V (j+1) % B ^ j=X % B ^ j:=by
 unfold zd;rw[nE,amx,show X % B ^ j+X / B ^ j % B*B ^ j+X / (B ^ j*B) % V*(B ^ j*B)=X % B ^ j+(X / (B ^ j*B) % V*B+X / B ^ j % B)*B ^ j by grind,amT,amQ]
theorem ait {B:Nat} (hB:2≤B) {V:Nat} (hV:0<V) (X j:Nat):zd B X V (j+1) / B ^ j<B*V:=by
 rw[Jr hB];have h1:=alc (X / B ^ (j+1)) hV;have h2:=alc (X / B ^ j) (by omega:B>0)
 have:(X / B ^ (j+1) % V+1)*B≤V*B:=ak6 _ qqO;rw[akT B V]
 grind
theorem ajg {B:Nat} (hB:2≤B) {V:Nat} (hV:0<V) (X j:Nat):zd B X V (j+1) / B ^ j / V=X / V / B ^ j % B:=by
 rw[Jr hB];have e:X / V / B ^ j=X / B ^ j / V:=by rw[amw,amw,akT]
 rw[e];have h0:=jA B X j;have h1:=alb (X / B ^ (j+1)) V;have h2:=alc (X / B ^ (j+1)) hV;have h3:=alc (X / B ^ j) (by omega:B>0)
 generalize X / B ^ j % B=d at*
 generalize X / B ^ (j+1) % V=r at*
 generalize X / B ^ (j+1) / V=q at*
 have e2:X / B ^ j=(r*B+d)+(q*B)*V:=by rw[h0,←h1];grind
 rw[e2,amO _ _ hV,amT,akX];rw[ala hV];have:(r+1)*B≤V*B:=ak6 _ qqO
 grind
theorem ajh {B:Nat} (hB:2≤B) (X V j:Nat):zd B X V (j+1) / B ^ j % V=X / B ^ j % V:=by
 rw[Jr hB];exact MO B V X j
theorem adF {B:Nat} (hB:2≤B) (X V j:Nat):zd B X V (j+1) % B ^ j+zd B X V (j+1) / B ^ j % V*B ^ j=zd B X V j:=by
 rw[ajh hB,ag0 hB];rfl
theorem adG (B X V:Nat):zd B X V 0=X % V:=by
 unfold zd;rw[ang,alg,alf,akZ,akS]
theorem XL {B X V k:Nat} (h:X<V*B ^ k):zd B X V k=X:=by
 unfold zd;by_cases hp:B ^ k=0
 ·rw[hp]at h;simp at h
 rw[akX (a:=X / B ^ k) ((ala qqO).2 h)];have:=alb X (B ^ k);rw[akT]at this;omega
theorem M8 {B n i z:Nat} (h:i<n) {d:Int} (hd:d=((z / B ^ i % B:Nat):Int)):(dm B n (i+1) 0 z).set i d=dm B n i 0 z:=by
 apply amC
 ·simp[jU]
 ·intro k h1 h2
  rw[amF];simp only[dm,amG,amH];split
  ·subst_vars;rw[if_neg qqO]
  ·split<;>split<;>first|rfl|omega
theorem XM {B p r:Nat} (hB:2≤B) (hpr:p*r=B) (z i:Nat):z / p / B ^ i % B=z / B ^ i % B / p+z / B ^ (i+1) % B*r % B:=by
 have hp0:0<p:=ak9 fun h=>by subst h;omega
 have hr0:0<r:=ak9 fun h=>by subst h;omega
 rw[amw,akT p,←amw];have h0:=jA B z i;have hd:=jA B z (i+1);have h3:=alc (z / B ^ i) (by omega:B>0)
 generalize z / B ^ i % B=d at*
 generalize hb:z / B ^ (i+1)=t at*
 rw[h0];have e1:(t*B+d) / p=t*r+d / p:=by
  rw[←hpr,show t*(p*r)+d=d+(t*r)*p by grind,amO _ _ hp0,am5]
 have e2:d / p<r:=(ala hp0).2 (by rw[akT,hpr];exact h3)
 have e3:t*r % B=(t % p)*r:=by rw[←hpr,amW]
 have e4:t % B*r % B=t*r % B:=by rw[amX,amQ,←amX]
 rw[e1,e4,e3];have h5:=alc t hp0;have h6:(t % p+1)*r≤p*r:=ak6 _ qqO;have h7:t*r=(t % p)*r+(t / p)*(p*r):=by
  have:=alb t p;generalize t / p=a at*
  generalize t % p=b at*
  subst this
  grind
 rw[h7,hpr,show t % p*r+t / p*B+d / p=(t % p*r+d / p)+(t / p)*B by omega,amT,akX (by rw[hpr]at h6;grind)]
 omega
end Go.Eng.Dig
namespace Go.Eng.YtmkagljofpddpaaGreatDoor
open Go.Proofs Go.Eng.Dig
set_option linter.unusedSimpArgs false
set_option linter.unusedVariables false
set_option maxHeartbeats 0
set_option maxRecDepth 100000
def Js (X V L:Nat):LSp:=fun xs objs K=>match xs,objs with
 | [.rsl 0 j m,.isl (.ints .u64 l) .none],[.cells (.ints .u64 d) false]=>VC (l=dl W V∧m=(dl W V).length+1∧d=dn W L (zd W X V (j+1))∧2≤(dl W V).length∧j+(dl W V).length+1≤L∧L≤900000000000)∧K [.int .u64 ((X / V / W ^ j % W:Nat):Int)] [.cells (.ints .u64 (dn W L (zd W X V j))) false]
 |_,_=>False
theorem XO (X V L:Nat):LOK Tryz.prog 239 (Js X V L):=by
 intro xs objs K hk;unfold Js at hk;split at hk
 ·obtain⟨h1,h2,h3,h4,h5,h6⟩:=hk.1.get
  subst h1 h2 h3;refine⟨_,_,hk.2,?_⟩;rename_i j;have hV:0<V:=ak9 fun h=>by subst h;simp[lD]at h4
  have:=Ue V (zd W X V (j+1)) L j h4 h5 h6 (ait W2 hV X j);rw[ajg W2 hV,adF W2]at this;exact this
 ·exact hk.elim
noncomputable def aji:CPT:=aB 187 (aP BA) (aB 236 (aP BH) (aB 232 (tZ uo) noC))
theorem Dy:bD Tryz.prog aji:=au (aC Di) (au (aC Jm) (au (pQ rR) aG))
theorem adH {r:Nat} (h:r<W):trm [(r:Int)]=dl W r:=by
 by_cases h0:r=0
 ·subst h0;rfl
 ·rw[nR W2 h0 h]
  exact I8 [] qqO
theorem aiu (x y:Nat) (hx:(dl W x).length≤400000000000) (hy:(dl W y).length≤400000000000) (h:x<y):aD Tryz.prog 196 [.isl (wd x) .none,.isl (wd y) .none] (.tup [.isl (wd (x / y)) .none,.isl (wd (x % y)) .none]):=by
 have hc:iU x y= -1:=by unfold iU;rw[if_pos h]
 rw[akV h,akX h];refine ay (md:=1) (rf:=[]) mixed av Dy Tryz.func196 qqR qqR qqR ?_
 repeat'((conv=>whnf);first|(intro hq;(try simp only[vw]at hq);try exact ak hq)|apply aI|exact aj|apply nM|apply fM)
 all_goals((try apply vM);(try simp only[vq]at*);try omega)
 all_goals(try simp only[dM,hc]at*)
 all_goals first
  |exact⟨bV _,bV _,qqO,qqO⟩
  |(exfalso;omega)
  |refine Sup.via ?_
 all_goals repeat'((conv=>whnf);first|intro _|apply aI|exact aj|apply nM|apply fM)
 all_goals all_goals((try apply vM);(try simp only[vq]at*);try omega)
 all_goals exact rfl
theorem ag1 (x y:Nat) (hx:(dl W x).length≤400000000000) (hy0:y≠0) (hy:y<W) (h:y≤x):aD Tryz.prog 196 [.isl (wd x) .none,.isl (.ints .u64 [(y:Int)]) .none] (.tup [.isl (wd (x / y)) .none,.isl (wd (x % y)) .none]):=by
 have hd1:=nR W2 hy0 hy;have hvy:vw [(y:Int)]=y:=by rw[←hd1];exact dM y
 have hdw:Dw [(y:Int)]:=by rw[←hd1];exact bV y
 have hc:0≤iU x y:=by unfold iU;split<;>(try split)<;>omega
 have hy':y<18446744073709551616:=hy;have hr:x % y<y:=alc _ qqO;have hQl:x / y<W ^ (dl W x).length:=am6 (anr _ _) (fP W2 x);have hg:([(y:Int)].getD (ana 0) 0)=(y:Int):=rfl;refine ay (md:=1) (rf:=[]) mixed av Dy Tryz.func196 qqR qqR qqR ?_
 repeat'((conv=>whnf);first|(intro hq;(try simp only[vw]at hq);try exact ak hq)|apply aI|exact aj|apply nM|apply fM)
 all_goals((try apply vM);(try simp only[vq]at*);try omega)
 all_goals(try simp only[dM,hvy]at*)
 all_goals first
  |exact⟨bV _,hdw,qqO,qqS⟩
  |(exfalso;omega)
  |exact .inl trivial
  |skip
 have hX0:x / W ^ (dl W x).length=0:=akV (fP W2 x);conv=>whnf
 refine aV (X:=Nat) (fun k=>k≤(dl W x).length) (fun k=>[(8,.int .i64 ((k:Int)-1)),(7,.int .u64 ((x / W ^ k % y:Nat):Int)),(34,.any)]) (fun k=>[(4,.cells (.ints .u64 (dm W (dl W x).length k 0 (x / y))) false)]) (fun k=>k) (dl W x).length ⟨aL,mixed,av,Dy,aU⟩ qqR qqO ?_ ?_
 ·repeat'((conv=>whnf);first|intro _|apply aI|exact aj|apply nM|apply fM)
  all_goals((try apply vM);(try simp only[vq]at*);try omega)
  all_goals first
   |(rw[hX0,Nat.zero_mod];rfl)
   |(rw[Bv _ _ (aku _),rQ])
 intro k hk;have hm:=jU W (dl W x).length k 0 (x / y);cases k with
 |zero=>
  repeat'((conv=>whnf);first|(intro hq;(try simp only[vw]at hq);try exact ak hq)|apply aI|exact aj|apply nM|apply fM)
  all_goals((try apply vM);(try simp only[vq]at*);try omega)
  all_goals first
   |(rw[iY _ _ hm.symm,hm];omega)
   |(rw[iY _ _ hm.symm,xV,pY W2 hQl,ang,alf,adH (anD hr hy)];exact Sup.of rfl)
 |succ k=>
  have hX1:=(agI (B:=W) (b:=y) W2 qqO x k).resolve_right qqO;have hX2:=MO W y x k;have hr1:=rG x k;have hrk:x / W ^ (k+1) % y<y:=alc _ qqO;have hQ:(((x / W ^ (k+1) % y:Nat):Int)*18446744073709551616+(dl W x).getD k 0) / ([(y:Int)].getD (ana 0) 0)=((x / y / W ^ k % W:Nat):Int):=by
   have:=congrArg (anE:Nat→Int) hX1;rw[dz W2,hg,←this,anp,anc,anb];rfl
  have hR:(((x / W ^ (k+1) % y:Nat):Int)*18446744073709551616+(dl W x).getD k 0) % ([(y:Int)].getD (ana 0) 0)=((x / W ^ k % y:Nat):Int):=by
   have:=congrArg (anE:Nat→Int) hX2;rw[dz W2,hg];refine Eq.trans (b:=(((x / W ^ (k+1) % y*W+x / W ^ k % W) % y:Nat):Int)) ?_ this;generalize x / W ^ (k+1) % y=u
   generalize x / W ^ k % W=v
   rw[amR,anc,anb];rfl
  rw[show((k+1:Nat):Int)-1=(k:Int) by omega]
  repeat'((conv=>whnf);first|(intro hq;(try simp only[vw]at hq);try exact ak hq)|apply aI|exact aj|apply nM|apply fM)
  all_goals((try apply vM);(try simp only[vq]at*);try omega)
  all_goals first
   |omega
   |(rw[hg];refine⟨qqO,qqO,qqO,qqO,qqO⟩)
   |(rw[hQ,hR,M8 qqO rfl]
     refine⟨k,[],⟨qqO,qqO⟩,?_⟩;all_goals exact aW)
theorem ag2 {m:Nat} (h0:0<m) (h:m<W):lzI m≤63∧(m+1)*2 ^ lzI m≤W:=by
 obtain⟨a,b,c⟩:=Go.Lib.bitLenAux_bounds 64 m h qqO;have hL:Go.Lib.bitLenAux 64 m≤64:=Go.Lib.bitLen_le m 64 (aku _) h;have e:lzI m=64-Go.Lib.bitLenAux 64 m:=by
  unfold lzI iw Go.Lib.bitLen;rw[amI];omega
 rw[e];generalize Go.Lib.bitLenAux 64 m=L at*
 refine⟨qqO,?_⟩;have h1:(m+1)*2 ^ (64-L)≤2 ^ L*2 ^ (64-L):=ak6 _ c;rw[←amK,show L+(64-L)=64 by omega]at h1
 exact h1
theorem XP {y n:Nat} (hn:(dl W y).length=n+1) {s:Nat} (hs:s=lzI ((dl W y).getD n 0)):s≤63∧y*2 ^ s<W ^ (n+1)∧(dl W (y*2 ^ s)).length=n+1:=by
 have hl:=fP W2 y;have hg:=qV W2 y n hn;rw[hn]at hl;have hp:=pw W2 n;have hy0:y≠0:=fun h=>by subst h;simp[lD]at hn
 have ht:(dl W y).getD n 0=((y / W ^ n:Nat):Int):=by
  rw[dz W2,akX];rw[ala hp,akT,←amx];exact hl
 have h1:0<y / W ^ n:=(ald hp).2 qqO;have h2:y / W ^ n<W:=by
  rw[ala hp,akT,←amx];exact hl
 rw[ht]at hs;obtain⟨a,b⟩:=ag2 h1 h2;rw[←hs]at a b;have hps:0<2 ^ s:=amB qqO;have h3:y<(y / W ^ n+1)*W ^ n:=by rw[akT];exact anA y hp
 have h4:y*2 ^ s<W ^ (n+1):=by
  have g1:y*2 ^ s<(y / W ^ n+1)*W ^ n*2 ^ s:=amV h3 hps;have g2:(y / W ^ n+1)*W ^ n*2 ^ s=(y / W ^ n+1)*2 ^ s*W ^ n:=by grind
  have g3:(y / W ^ n+1)*2 ^ s*W ^ n≤W*W ^ n:=ak6 _ b;rw[amx,akT (W ^ n)];omega
 refine⟨a,h4,?_⟩;have g4:=lF W2 h4;have g5:=wG W2 (x:=y*2 ^ s) (k:=n) (aky hg (alv _ hps));omega
theorem aiv {Z s L i:Nat} (hs0:0<s) (hs:s≤63) (hi:i+1<L):
 ((dm W L i (Z / 2 ^ s) Z).set i ((dm W L i (Z / 2 ^ s) Z).getD i 0 / 2 ^ s)).set i (IntKind.u64.wrap ((akO IntKind.u64.bits (((dm W L i (Z / 2 ^ s) Z).set i ((dm W L i (Z / 2 ^ s) Z).getD i 0 / 2 ^ s)).getD i 0)|||akO IntKind.u64.bits (IntKind.u64.wrap (((dm W L i (Z / 2 ^ s) Z).set i ((dm W L i (Z / 2 ^ s) Z).getD i 0 / 2 ^ s)).getD ((i:Int)+1).toNat 0*2 ^ (64-(s:Int)).toNat))).toNat:Int))=dm W L (i+1) (Z / 2 ^ s) Z:=by
 have hl:=jU W L i (Z / 2 ^ s) Z;have hpr:2 ^ s*2 ^ (64-s)=W:=by rw[←amK,show s+(64-s)=64 by omega]
 have e1:((i:Int)+1).toNat=i+1:=qqO;have e2:(64-(s:Int)).toNat=64-s:=qqO;have g1:(dm W L i (Z / 2 ^ s) Z).getD i 0=((Z / W ^ i % W:Nat):Int):=by rw[oN _ _ _ _ _ _ qqO,if_neg qqO]
 have g2:∀v,((dm W L i (Z / 2 ^ s) Z).set i v).getD i 0=v:=fun v=>by
  rw[akG,List.getElem?_set_self qqO];rfl
 have g3:∀v,((dm W L i (Z / 2 ^ s) Z).set i v).getD (i+1) 0=((Z / W ^ (i+1) % W:Nat):Int):=fun v=>by
  rw[akG,List.getElem?_set_ne qqO,←akG,oN _ _ _ _ _ _ qqO,if_neg qqO]
 have hdd:=XM W2 hpr Z i;have hd:=alc (Z / W ^ i) (by decide:W>0)
 have hzd:=alc (Z / 2 ^ s / W ^ i) (by decide:W>0)
 rw[e1,e2,g2,g3,g1,List.set_set];refine pX qqO ?_;rw[hdd]at hzd⊢;generalize Z / W ^ i % W=d at*
 generalize Z / W ^ (i+1) % W=e at*
 have eP:((e:Int)*2 ^ (64-s))=((e*2 ^ (64-s):Nat):Int):=by norm_cast
 have eD:((d:Int) / 2 ^ s)=((d / 2 ^ s:Nat):Int):=by norm_cast
 have em:e*2 ^ (64-s) % W=(e % 2 ^ s)*2 ^ (64-s):=by rw[←hpr,amW]
 have hb:d / 2 ^ s<2 ^ (64-s):=(ala (amB qqO)).2 (by rw[akT,hpr];exact hd)
 rw[eP,eD,show IntKind.u64.wrap ((e*2 ^ (64-s):Nat):Int)=((e*2 ^ (64-s) % W:Nat):Int)from xY _];have:=anu hb (e % 2 ^ s);rw[anv,←em]at this;have hm:=alc (e*2 ^ (64-s)) (by decide:W>0)
 generalize e*2 ^ (64-s) % W=m at*
 generalize d / 2 ^ s=o at*
 have ho:o<W:=qqO;exact Jf ho hm (fun k _=>by rw[am5,this,anw,anz]) hzd
noncomputable def ajj (X V L:Nat):CPT:=aB 187 (aP BA) (aB 237 (aP lzP) (aB 238 (dQ [] XK) (aB 239 (dQ [0] (Js X V L)) (aB 232 (tZ uo) noC))))
theorem adI (X V L:Nat):bD Tryz.prog (ajj X V L):=au (aC Di) (au (aC abd) (au (bT [] agZ) (au (bT [0] (XO X V L)) (au (pQ rR) aG))))
theorem ag3 (x y:Nat) (hx:(dl W x).length≤400000000000) (hy:(dl W y).length≤400000000000) (hn2:2≤(dl W y).length) (h:y≤x):aD Tryz.prog 196 [.isl (wd x) .none,.isl (wd y) .none] (.tup [.isl (wd (x / y)) .none,.isl (wd (x % y)) .none]):=by
 have hc:0≤iU x y:=by unfold iU;split<;>(try split)<;>omega
 obtain⟨n,hn⟩:∃n,(dl W y).length=n+1:=⟨(dl W y).length-1,qqO⟩;obtain⟨s,hs⟩:∃s,s=lzI ((dl W y).getD n 0):=⟨_,rfl⟩;obtain⟨hs63,hV,hVl⟩:=XP hn hs;have hlen:(dl W y).length≤(dl W x).length:=fq h;have htop:=rG y n;have en:(((dl W y).length:Int)-1).toNat=n:=qqO;have hdiv:x*2 ^ s / (y*2 ^ s)=x / y∧x*2 ^ s % (y*2 ^ s) / 2 ^ s=x % y:=BG (amB qqO);have hstart:x*2 ^ s<y*2 ^ s*W ^ ((dl W x).length-n):=by
  have h1:=fP W2 x;have h2:=qV W2 y n hn;have h3:W ^ (dl W x).length=W ^ n*W ^ ((dl W x).length-n):=by rw[←amK,show n+((dl W x).length-n)=(dl W x).length by omega]
  have h4:W ^ n*W ^ ((dl W x).length-n)≤y*W ^ ((dl W x).length-n):=ak6 _ h2;have h5:x*2 ^ s<y*W ^ ((dl W x).length-n)*2 ^ s:=amV qqO (amB qqO);have h6:y*W ^ ((dl W x).length-n)*2 ^ s=y*2 ^ s*W ^ ((dl W x).length-n):=by grind
  omega
 have eV:trm (anF ((dl W y).length+1-0) (anG 0 (dn W ((dl W y).length+1) (y*2 ^ s))))=dl W (y*2 ^ s):=by
  rw[iY _ _ (fQ _ _ _).symm,pY W2];rw[hn,amx];exact akv hV (alv _ qqD)
 have hlV:(anF ((dl W y).length+1-0) (anG 0 (dn W ((dl W y).length+1) (y*2 ^ s)))).length=(dl W y).length+1:=by rw[iY _ _ (fQ _ _ _).symm,fQ]
 have hdl:=fQ W ((dl W y).length+1) (y*2 ^ s);generalize hX:x*2 ^ s=X at*
 generalize hVV:y*2 ^ s=V at*
 have hV0:0<V:=by rw[←hVV];exact amZ (ak9 fun h=>by subst h;simp[lD]at hn) (amB qqO)
 have hC:=adI X V ((dl W x).length+1);refine ay (md:=3) (rf:=[]) mixed av hC Tryz.func196 qqR qqR qqR ?_
 repeat'((conv=>whnf);first|(intro hq;(try simp only[vw]at hq);try exact ak hq)|apply aI|exact aj|apply nM|apply fM)
 all_goals((try apply vM);(try simp only[vq]at*);try omega)
 all_goals(try simp only[dM,en,←hs,amI,hX,hVV])
 all_goals(try rw[eV])
 all_goals first
  |omega
  |exact⟨bV _,bV _,qqO,qqO⟩
  |(exfalso;rw[xW W2,xW W2]at hq;omega)
  |exact htop
  |exact⟨bV _,qqO,qqO,qqO⟩
  |exact .inl trivial
  |skip
 conv=>whnf
 refine jv (X:=Nat) (fun t=>btw 16 136 t) (fun k=>k≤(dl W x).length-n) (fun k=>[(14,.int .i64 ((k:Int)-1))]) (fun k=>[(16,.cells (.ints .u64 (dn W ((dl W x).length+1) (zd W X V k))) false),(20,.cells (.ints .u64 (dm W ((dl W x).length-n) k 0 (X / V))) false)]) (fun k=>k) ((dl W x).length-n) ⟨aL,mixed,av,hC,aU⟩ qqR qqO ?_ ?_
 ·repeat'((conv=>whnf);first|intro _|apply aI|exact aj|apply nM|apply fM)
  all_goals((try apply vM);(try simp only[vq]at*);try omega)
  ·rw[XL hstart]
  ·rw[Bv _ _ (aku _),rQ,show((((dl W x).length:Int)-((dl W V).length:Int)+1)).toNat=(dl W x).length-n by omega]
 intro k hk;have hm1:=fQ W ((dl W x).length+1) (zd W X V k);have hm2:=jU W ((dl W x).length-n) k 0 (X / V);cases k with
 |zero=>
  rw[adG];have hZV:X % V<V:=alc _ hV0;generalize X % V=Z at*
  repeat'((conv=>whnf);first|(intro hq;(try simp only[vw]at hq);try exact ak hq)|apply aI|exact aj|apply nM|apply fM)
  all_goals((try apply vM);(try simp only[vq]at*);try omega)
  conv=>whnf
  refine jv (X:=Nat) (fun t=>btw 16 95 t||btw 98 136 t) (fun i=>i≤n+1) (fun i=>[(97,.int .i64 i),(15,.any)]) (fun i=>[(16,.cells (.ints .u64 (dm W ((dl W x).length+1) i (Z / 2 ^ s) Z)) false)]) (fun i=>n+1-i) 0 ⟨aL,mixed,av,hC,aU⟩ qqR qqO ?_ ?_
  ·repeat'((conv=>whnf);first|intro _|apply aI|exact aj|apply nM|apply fM)
   all_goals((try apply vM);(try simp only[vq]at*);try omega)
   all_goals(try rw[xV])
  intro i hi;have hm3:=jU W ((dl W x).length+1) i (Z / 2 ^ s) Z;by_cases e:i=n+1
  ·subst e
   have eQ:(anF (((((dl W x).length:Int)-((dl W V).length:Int)+1)).toNat-0) (anG 0 (dm W ((dl W x).length-n) 0 0 (X / V))))=dn W ((dl W x).length-n) (X / V):=by rw[iY _ _ (by rw[hm2];omega),xV]
   have eR:(anF ((dl W V).length-0-0) (anG 0 (dm W ((dl W x).length+1) (n+1) (Z / 2 ^ s) Z)))=dn W (n+1) (Z / 2 ^ s):=by
    rw[hVl];apply amC
    ·simp[jU,fQ]<;>omega
    ·intro k h1 h2
     rw[fQ]at h2;simp only[Nat.sub_zero,List.drop_zero,List.getElem_take,dm,dn,amG,amH];rw[if_pos h2]
   have hQl:X / V<W ^ ((dl W x).length-n):=(ala hV0).2 (by rw[akT];exact hstart)
   have hRl:Z / 2 ^ s<W ^ (n+1):=am6 (anr _ _) (anD hZV hV)
   repeat'((conv=>whnf);first|(intro hq;(try simp only[vw]at hq);try exact ak hq)|apply aI|exact aj|apply nM|apply fM)
   all_goals((try apply vM);(try simp only[vq]at*);try omega)
   all_goals first
    |(rw[eQ,fQ];omega)
    |(rw[eR,fQ];omega)
    |(rw[eQ,eR,pY W2 hQl,pY W2 hRl,hdiv.1,hdiv.2];exact Sup.of rfl)
  ·have hin:i+1<(dl W x).length+1:=qqO
   by_cases hs0:s=0
   ·subst hs0
    have eS:(dm W ((dl W x).length+1) i (Z / 2 ^ 0) Z).set i ((dm W ((dl W x).length+1) i (Z / 2 ^ 0) Z).getD i 0 / 2 ^ 0)=dm W ((dl W x).length+1) (i+1) (Z / 2 ^ 0) Z:=by
     refine pX qqO ?_;rw[oN _ _ _ _ _ _ qqO,if_neg qqO];simp
    have eN:0≤(dm W ((dl W x).length+1) i (Z / 2 ^ 0) Z).getD i 0:=by
     rw[oN _ _ _ _ _ _ qqO,if_neg qqO];omega
    repeat'((conv=>whnf);first|(intro hq;(try simp only[vw]at hq);try exact ak hq)|apply aI|exact aj|apply nM|apply fM)
    all_goals((try apply vM);(try simp only[vq]at*);try omega)
    all_goals first
     |exact eN
     |(rw[eS]
       refine⟨i+1,[],⟨qqO,qqO⟩,?_⟩;rw[show((i+1:Nat):Int)=(i:Int)+1 by omega]
       all_goals exact aW)
   ·have eN:∀k,k<(dl W x).length+1→0≤(dm W ((dl W x).length+1) i (Z / 2 ^ s) Z).getD k 0:=fun k hk=>by
     rw[oN _ _ _ _ _ _ hk];split<;>omega
    have b64:∀a:Nat,a≤64→a≤IntKind.u64.bits:=fun a h=>h
    repeat'((conv=>whnf);first|(intro hq;(try simp only[vw]at hq);try exact ak hq)|apply aI|exact aj|apply nM|apply fM)
    all_goals((try apply vM);(try simp only[vq]at*);try omega)
    all_goals first
     |exact eN _ qqO
     |exact b64 _ qqO
     |(rw[ak3,hm3];omega)
     |(rw[aiv qqO hs63 hin]
       refine⟨i+1,[],⟨qqO,qqO⟩,?_⟩;rw[show((i+1:Nat):Int)=(i:Int)+1 by omega]
       all_goals exact aW)
 |succ k=>
  have ekX:((k:Int)).toNat=k:=amI k;have hk2:k<(dl W x).length-n:=qqO;rw[show((k+1:Nat):Int)-1=(k:Int) by omega]
  repeat'((conv=>whnf);first|(intro hq;(try simp only[vw]at hq);try exact ak hq)|apply aI|exact aj|apply nM|apply fM)
  all_goals((try apply vM);(try simp only[vq]at*);try omega)
  all_goals first
   |omega
   |(rw[M8 hk2 rfl]
     refine⟨k,[],⟨qqO,qqO⟩,?_⟩;all_goals exact aW)
def GR:PSp:=fun xs K=>match xs with
 | [.isl (.ints .u64 l) .none,.isl (.ints .u64 m) .none]=>VC (Dw l∧Dw m∧l.length≤400000000000∧m.length≤400000000000∧m≠[])∧K (.tup [.isl (wd (vw l / vw m)) .none,.isl (wd (vw l % vw m)) .none])
 |_=>False
theorem M9:POK Tryz.prog 196 GR:=by
 intro xs K hk;unfold GR at hk;split at hk
 ·obtain⟨h1,h2,h3,h4,h5⟩:=hk.1.get
  rename_i l m;obtain⟨x,rfl⟩:=kC h1;obtain⟨y,rfl⟩:=kC h2;refine⟨_,hk.2,?_⟩;rw[dM,dM];have hy0:y≠0:=fun h=>h5 ((gL W2).2 h);by_cases hlt:x<y
  ·exact aiu x y h3 h4 hlt
  ·by_cases h1:y<W
   ·have e:=nR W2 hy0 h1
    unfold wd;rw[e];exact ag1 x y h3 hy0 h1 qqO
   ·refine ag3 x y h3 h4 ?_ qqO
    have:=wG W2 (x:=y) (k:=1) (by rw[ani];omega)
    omega
 ·exact hk.elim
def fI:NI:=⟨1,[]⟩
theorem Jt:fI.val=1:=rfl
theorem Dz:fI.OK:=.inl ⟨rfl,by unfold smI fI;simp⟩
def divN (a b:NI):NI:=if a.w=[]∧b.w=[]∧a.s≠ -9223372036854775808 then nrm (a.val / b.val)else
 if a.s<0∧a.val.natAbs % b.val.natAbs≠0 then zB (nrm (-((a.val.natAbs / b.val.natAbs:Nat):Int))) fI else nrm (a.val / b.val)
theorem Na {a b:Int} (hb:0<b) (h:a<0):a / b=(if a.natAbs % b.natAbs=0 then-((a.natAbs / b.natAbs:Nat):Int)else-((a.natAbs / b.natAbs:Nat):Int)-1)∧a % b=(if a.natAbs % b.natAbs=0 then 0 else-((a.natAbs % b.natAbs:Nat):Int)+b):=by
 have h1:=alb a.natAbs b.natAbs;have h2:=alc a.natAbs (show b.natAbs>0 by omega)
 have e:b*((a.natAbs / b.natAbs:Nat):Int)+((a.natAbs % b.natAbs:Nat):Int)= -a:=by
  have:=congrArg (anE:Nat→Int) h1;rw[anc,anb]at this;rw[show((b.natAbs:Nat):Int)=b by omega,show((a.natAbs:Nat):Int)= -a by omega]at this
  exact this
 rw[show((a.natAbs / b.natAbs:Nat):Int)=((a.natAbs / b.natAbs:Nat):Int)from rfl];generalize a.natAbs / b.natAbs=q at*
 generalize a.natAbs % b.natAbs=r at*
 refine(anH hb).2 ?_;split
 ·rename_i h0;subst h0
  refine⟨?_,qqO,hb⟩;rw[ano];omega
 ·refine⟨?_,qqO,qqO⟩
  rw[anI,ano];omega
theorem Qt {a b:Int} (hb:0<b) (h:0≤a):a / b=((a.natAbs / b.natAbs:Nat):Int)∧a % b=((a.natAbs % b.natAbs:Nat):Int):=by
 rw[anp,amR,show((b.natAbs:Nat):Int)=b by omega,show((a.natAbs:Nat):Int)=a by omega]
 exact⟨rfl,rfl⟩
theorem BI {a b:NI} (ha:a.OK) (hb:0<b.val) (h:b.val∣a.val):divN a b=nrm (a.val / b.val):=by
 unfold divN;split
 ·rfl
 ·rw[if_neg]
  rintro⟨h1,h2⟩
  obtain⟨k,hk⟩:=h;apply h2;rw[hk,Int.natAbs_mul,Nat.mul_mod_right]
theorem XQ {a b:Int} (hb:0<b):(a.tmod b<0→a.tdiv b-1=a / b∧a.tmod b+b=a % b)∧(¬a.tmod b<0→a.tdiv b=a / b∧a.tmod b=a % b):=by
 have h1:=Int.mul_tdiv_add_tmod a b;have h2:a.tmod b<b:=anJ a hb;have h3: -b<a.tmod b:=by
  by_cases h:0≤a
  ·have:=Int.tmod_nonneg b h;omega
  ·have h4:=anJ (-a) hb
   rw[Int.neg_tmod]at h4;omega
 generalize a.tdiv b=q at*
 generalize a.tmod b=r at*
 constructor
 ·intro h
  have:=(anH hb (r:=r+b) (q:=q-1) (a:=a)).2 ⟨by rw[anI];omega,qqO,qqO⟩
  exact⟨this.1.symm,this.2.symm⟩
 ·intro h
  have:=(anH hb (r:=r) (q:=q) (a:=a)).2 ⟨qqO,qqO,qqO⟩;exact⟨this.1.symm,this.2.symm⟩
noncomputable def ofP:PSp:=fun xs K=>match xs with
 | [.int .i64 n]=>K (.agg [.int .i64 n,.nils])
 |_=>False
theorem adJ (n:Int):aD Tryz.prog 108 [.int .i64 n] (.agg [.int .i64 n,.nils]):=by
 refine ay (md:=1) (rf:=[]) mixed av aG Tryz.func108 qqR qqR qqR ?_;all_goals exact wB
theorem oC:POK Tryz.prog 108 ofP:=by
 intro xs K hk;unfold ofP at hk;split at hk
 ·exact⟨_,hk,adJ _⟩
 ·exact hk.elim
noncomputable def ajk:CPT:=aB 184 (aR mW) (aB 185 (aP xZ) (aB 196 (aP GR) (aB 194 (aR uy) (aB 195 (aR XE) (aB 109 (aR Dr) (aB 108 (aR ofP) noC))))))
theorem rZ:bD Tryz.prog ajk:=au (aF lH) (au (aC x9) (au (aC M9) (au (aF oO) (au (aF TV) (au (aF wN) (au (aF oC) aG))))))
theorem Ju {a b:NI} (h:a.val+b.val≠ -9223372036854775808):addN a b=nrm (a.val+b.val):=by
 unfold addN;rw[if_neg]
 rintro⟨h1,h2,h3⟩
 rw[gF h1,gF h2]at h;exact h h3
theorem Uf {p:Prop} [Decidable p] (x:Nat):(if p then-(x:Int)else x).natAbs=x:=by split<;>omega
theorem nU (a:NI) (x:Nat):mdN (decide (a.s<0)) x=nrm (if a.s<0 then-(x:Int)else x):=by
 refine mV ?_;by_cases h:a.s<0<;>simp[h]
theorem aiw {a b:NI} (ha:a.OK) (hb:0<b.val) (hbig:¬(a.w=[]∧b.w=[]∧a.s≠ -9223372036854775808)) (h:eH (mdN (decide (a.s<0)) (a.val.natAbs % b.val.natAbs)).val<0):zB (mdN (decide (a.s<0)) (a.val.natAbs / b.val.natAbs)) ⟨1,[]⟩=divN a b∧addN (mdN (decide (a.s<0)) (a.val.natAbs % b.val.natAbs)) b=nrm (a.val % b.val):=by
 rw[nU,bg]at h;rw[nU,nU];have hs:a.s<0:=Decidable.byContradiction fun hn=>by rw[if_neg hn]at h;unfold eH at h;omega
 rw[if_pos hs]at h;have hr:a.val.natAbs % b.val.natAbs≠0:=fun h0=>by rw[h0]at h;unfold eH at h;simp at h;omega
 rw[if_pos hs,if_pos hs];obtain⟨e1,e2⟩:=Na hb ((NI.neg_iff ha).1 hs);rw[if_neg hr]at e1 e2;constructor
 ·unfold divN
  rw[if_neg hbig,if_pos ⟨hs,hr⟩];rfl
 ·have h2:=alc a.val.natAbs (show b.val.natAbs>0 by omega)
  rw[Ju,bg,e2];rw[bg];omega
theorem aix {a b:NI} (ha:a.OK) (hb:0<b.val) (hbig:¬(a.w=[]∧b.w=[]∧a.s≠ -9223372036854775808)) (h:¬eH (mdN (decide (a.s<0)) (a.val.natAbs % b.val.natAbs)).val<0):mdN (decide (a.s<0)) (a.val.natAbs / b.val.natAbs)=divN a b∧mdN (decide (a.s<0)) (a.val.natAbs % b.val.natAbs)=nrm (a.val % b.val):=by
 rw[nU,bg]at h;rw[nU,nU];unfold divN;rw[if_neg hbig];by_cases hs:a.s<0
 ·rw[if_pos hs]at h
  have hr:a.val.natAbs % b.val.natAbs=0:=Decidable.byContradiction fun h0=>by unfold eH at h;omega
  obtain⟨e1,e2⟩:=Na hb ((NI.neg_iff ha).1 hs);rw[if_pos hr]at e1 e2;rw[if_neg (c:=a.s<0∧a.val.natAbs % b.val.natAbs≠0) (fun h=>h.2 hr),if_pos hs,if_pos hs,e1,e2,hr];exact⟨rfl,rfl⟩
 ·rw[if_neg (c:=a.s<0∧a.val.natAbs % b.val.natAbs≠0) (fun h=>hs h.1),if_neg hs,if_neg hs]
  obtain⟨e1,e2⟩:=Qt hb (show 0≤a.val from Int.not_lt.1 fun h=>hs ((NI.neg_iff ha).2 h));rw[e1,e2];exact⟨rfl,rfl⟩
theorem adK (a b:NI) (ha:a.OK) (hb:b.OK) (hp:0<b.val) (hLa:a.L≤100000000000) (hLb:b.L≤100000000000):aD Tryz.prog 119 [niV a,niV b] (.tup [niV (divN a b),niV (nrm (a.val % b.val))]):=by
 have L1:(dl W a.val.natAbs).length≤100000000000:=hLa;have L2:(dl W b.val.natAbs).length≤100000000000:=hLb;have L3:(dl W (a.val.natAbs / b.val.natAbs)).length≤1000000000000:=aky (fq (anr _ _)) (aky hLa qqD);have L4:(dl W (a.val.natAbs % b.val.natAbs)).length≤1000000000000:=aky (fq (anK _ _)) (aky hLa qqD);have L5:(mdN (decide (a.s<0)) (a.val.natAbs / b.val.natAbs)).L≤100000000000:=by
  rw[nU,NI.L_nrm,Uf];exact aky (fq (anr _ _)) hLa
 have L7:(mdN (decide (a.s<0)) (a.val.natAbs % b.val.natAbs)).L≤100000000000:=by
  rw[nU,NI.L_nrm,Uf];exact aky (fq (anK _ _)) hLa
 have L6:NI.L ⟨1,[]⟩≤100000000000:=aky (nT (x:=1) qqO) qqD;have hne:dl W b.val.natAbs≠[]:=fun h=>by have:=(gL W2).1 h;omega
 have F1:=fun hx=>aiw ha hp hx;have F2:=fun hx=>aix ha hp hx;refine yc ha hb fun p q hp' hq=>?_;rcases hp' with⟨rfl,hp',hps⟩|⟨x,rfl,hp',hpx⟩<;>rcases hq with⟨rfl,hq,hqs⟩|⟨y,rfl,hq,hqy⟩
 ·have ea:=fF hp'
  have eb:=fF hq;have es:=gF hp';have et:=gF hq;unfold smI at hps hqs;by_cases hm:a.s= -9223372036854775808
  ·have E1:=F1 (fun h=>h.2.2 hm)
   have E2:=F2 (fun h=>h.2.2 hm);have na:True:=trivial;have nb:True:=trivial;clear F1 F2 es et;generalize divN a b=r at*
   generalize a.s=s at*
   generalize b.s=t at*
   refine ay (md:=1) (rf:=[]) mixed av rZ Tryz.func119 qqR qqR qqR ?_;all_goals exact qO
  ·have hd:divN a b=nrm (a.val / b.val):=by unfold divN;rw[if_pos ⟨hp',hq,hm⟩]
   have hp2:0<b.s:=by rw[←et];exact hp
   rw[hd,es,et];generalize a.s=s at*
   generalize b.s=t at*
   clear ea eb es et hp' hq hd hp L1 L2 hLa hLb F1 F2 L3 L4 L5 L6 L7 hne;have hE:=XQ (a:=s) (b:=t) qqO;have hA:(s.tdiv t).natAbs≤s.natAbs:=by rw[Int.natAbs_tdiv];exact anr _ _
   have hB: -9223372036854775807≤s / t:=Int.le_ediv_of_mul_le qqO qqO;have hC:s / t≤9223372036854775807:=Int.ediv_le_of_le_mul qqO qqO;have hD:=Int.emod_nonneg s (show t≠0 by omega)
   have hF:=Int.emod_lt_of_pos s (show 0<t by omega)
   refine ay (md:=1) (rf:=[]) mixed av rZ Tryz.func119 qqR qqR qqR ?_
   repeat'((conv=>whnf);first|(intro hq;(try simp only[vw]at hq);try exact ak hq)|apply aI|exact aj|apply nM|apply fM)
   all_goals((try apply vM);(try simp only[vq]at*);try omega)
   all_goals first
    |(exfalso;omega)
    |omega
    |(have h1:=hE.1 hq;omega)
    |(have h1:=hE.1 hq;rw[h1.1,h1.2,iK qqO,iK qqO];refine Sup.via ?_;repeat'((conv=>whnf);first|intro _|apply aI|exact aj|apply nM|apply fM);all_goals((try apply vM);(try simp only[vq]at*);try omega))
    |(have h1:=hE.2 hq;rw[h1.1,h1.2,iK qqO,iK qqO];refine Sup.via ?_;repeat'((conv=>whnf);first|intro _|apply aI|exact aj|apply nM|apply fM);all_goals((try apply vM);(try simp only[vq]at*);try omega))
 ·have E1:=F1 (fun h=>by rw[hq]at h;exact(eX hqy).1 h.2.1)
  have E2:=F2 (fun h=>by rw[hq]at h;exact(eX hqy).1 h.2.1)
  have ea:=fF hp';have eb:=gD hq;have na:True:=trivial;obtain⟨nb,nb'⟩:=eX hqy;clear F1 F2;generalize divN a b=r at*
  generalize a.s=s at*
  generalize b.s=t at*
  refine ay (md:=1) (rf:=[]) mixed av rZ Tryz.func119 qqR qqR qqR ?_;all_goals exact qO
 ·have E1:=F1 (fun h=>by rw[hp']at h;exact(eX hpx).1 h.1)
  have E2:=F2 (fun h=>by rw[hp']at h;exact(eX hpx).1 h.1)
  have ea:=gD hp';have eb:=fF hq;have nb:True:=trivial;obtain⟨na,na'⟩:=eX hpx;clear F1 F2;generalize divN a b=r at*
  generalize a.s=s at*
  generalize b.s=t at*
  refine ay (md:=1) (rf:=[]) mixed av rZ Tryz.func119 qqR qqR qqR ?_;all_goals exact qO
 ·have E1:=F1 (fun h=>by rw[hp']at h;exact(eX hpx).1 h.1)
  have E2:=F2 (fun h=>by rw[hp']at h;exact(eX hpx).1 h.1)
  have ea:=gD hp';have eb:=gD hq;obtain⟨nb,nb'⟩:=eX hqy;obtain⟨na,na'⟩:=eX hpx;clear F1 F2;generalize divN a b=r at*
  generalize a.s=s at*
  generalize b.s=t at*
  refine ay (md:=1) (rf:=[]) mixed av rZ Tryz.func119 qqR qqR qqR ?_;all_goals exact qO
def dmP:PSp:=fun xs K=>match xs with| [p,q]=>ni1 p fun a=>ni1 q fun b=>VC (a.OK∧b.OK∧0<b.val∧a.L≤100000000000∧b.L≤100000000000)∧K (.tup [niV (divN a b),niV (nrm (a.val % b.val))])|_=>False
theorem Qu:POK Tryz.prog 119 dmP:=wM (C:=fun a b=>a.OK∧b.OK∧0<b.val∧a.L≤100000000000∧b.L≤100000000000) (r:=fun a b=>.tup [niV (divN a b),niV (nrm (a.val % b.val))]) fun a b h=>adK a b h.1 h.2.1 h.2.2.1 h.2.2.2.1 h.2.2.2.2
noncomputable def ajl:CPT:=aB 201 (aR zy) noC
theorem adL:bD Tryz.prog ajl:=au (aF rV) aG
theorem XR (a:NI) (ha:a.OK) (hLa:a.L≤100000000000):aD Tryz.prog 225 [niV a] (niV (nrm (a.val.natAbs:Nat))):=by
 have hn:=NI.neg_iff ha;have e1:a.s<0→nrm ((a.val.natAbs:Nat):Int)=nrm (-a.val):=fun h=>by
  have:=hn.1 h;rw[show((a.val.natAbs:Nat):Int)= -a.val by omega]
 have e2:¬a.s<0→nrm ((a.val.natAbs:Nat):Int)=a:=fun h=>by
  have:¬a.val<0:=fun h'=>h (hn.2 h');rw[show((a.val.natAbs:Nat):Int)=a.val by omega,←Jj ha qqO]
 refine ay (md:=1) (rf:=[]) mixed av adL Tryz.func225 qqR qqR qqR ?_
 repeat'((conv=>whnf);first|(intro hq;(try simp only[vw]at hq);try exact ak hq)|apply aI|exact aj|apply nM|apply fM)
 all_goals((try apply vM);(try simp only[vq]at*);try omega)
 all_goals first
  |exact⟨ha,aky hLa qqD⟩
  |(rw[e1 qqA];exact Sup.of rfl)
  |(rw[e2 qqA];exact Sup.of rfl)
def absP:PSp:=fun xs K=>match xs with| [p]=>ni1 p fun a=>VC (a.OK∧a.L≤100000000000)∧K (niV (nrm (a.val.natAbs:Nat)))|_=>False
theorem ag4:POK Tryz.prog 225 absP:=uw (C:=fun a=>a.OK∧a.L≤100000000000) (r:=fun a=>niV (nrm (a.val.natAbs:Nat))) fun a h=>XR a h.1 h.2
theorem dvd_neg {a b:Int} (h:b∣a): -a / -b=a / b:=by
 rw[Int.ediv_neg,Int.neg_ediv_of_dvd h,anm]
noncomputable def ajm:CPT:=aB 201 (aR zy) (aB 194 (aR uy) (aB 119 (aR dmP) noC))
theorem adM:bD Tryz.prog ajm:=au (aF rV) (au (aF oO) (au (aF Qu) aG))
theorem XT (a b:NI) (ha:a.OK) (hb:b.OK) (h0:b.val≠0) (hd:b.val∣a.val) (hLa:a.L≤100000000000) (hLb:b.L≤100000000000):aD Tryz.prog 202 [niV a,niV b] (niV (nrm (a.val / b.val))):=by
 have L1:(nrm (-a.val)).L≤100000000000:=by rw[NI.L_nrm,anl];exact hLa
 have L2:(nrm (-b.val)).L≤100000000000:=by rw[NI.L_nrm,anl];exact hLb
 have e1:b.val<0→divN (nrm (-a.val)) (nrm (-b.val))=nrm (a.val / b.val):=fun h=>by
  rw[BI (bO _) (by rw[bg];omega) (by rw[bg,bg];exact Int.neg_dvd.2 (Int.dvd_neg.2 hd)),bg,bg,dvd_neg hd]
 have e2:0<b.val→divN a b=nrm (a.val / b.val):=fun h=>BI ha h hd;refine ay (md:=1) (rf:=[]) mixed av adM Tryz.func202 qqR qqR qqR ?_
 repeat'((conv=>whnf);first|(intro hq;(try simp only[vw]at hq);try exact ak hq)|apply aI|exact aj|apply nM|apply fM)
 all_goals((try apply vM);(try simp only[vq]at*);try omega)
 all_goals(try simp only[dI,bg])
 all_goals(try simp only[dI,bg]at hq)
 all_goals first
  |exact⟨ha,aky hLa qqD⟩
  |exact⟨hb,aky hLb qqD⟩
  |exact hb
  |(refine⟨bO _,bO _,?_,L1,L2⟩;unfold eH at hq;omega)
  |(refine⟨ha,hb,?_,hLa,hLb⟩;unfold eH at hq;omega)
  |(rw[e1 (by unfold eH at hq;omega)];exact Sup.of rfl)
  |(rw[e2 (by unfold eH at hq;omega)];exact Sup.of rfl)
def ag5:PSp:=fun xs K=>match xs with| [p,q]=>ni1 p fun a=>ni1 q fun b=>VC (a.OK∧b.OK∧b.val≠0∧b.val∣a.val∧a.L≤100000000000∧b.L≤100000000000)∧K (niV (nrm (a.val / b.val)))|_=>False
theorem ag6:POK Tryz.prog 202 ag5:=wM (C:=fun a b=>a.OK∧b.OK∧b.val≠0∧b.val∣a.val∧a.L≤100000000000∧b.L≤100000000000) fun a b h=>XT a b h.1 h.2.1 h.2.2.1 h.2.2.2.1 h.2.2.2.2.1 h.2.2.2.2.2
noncomputable def ajn:CPT:=aB 225 (aR absP) (aB 194 (aR uy) (aB 119 (aR dmP) noC))
theorem Nb:bD Tryz.prog ajn:=au (aF ag4) (au (aF oO) (au (aF Qu) aG))
abbrev nr (x:Nat):NI:=nrm (x:Int)
theorem XU (a b:NI) (ha:a.OK) (hb:b.OK) (hLa:a.L≤100000000000) (hLb:b.L≤100000000000):aD Tryz.prog 178 [niV a,niV b] (niV (nr (anL a.val.natAbs b.val.natAbs))):=by
 have L1:Lw a.val.natAbs≤100000000000:=hLa;have L2:Lw b.val.natAbs≤100000000000:=hLb;refine ay (md:=1) (rf:=[]) mixed av Nb Tryz.func178 qqR qqR qqR ?_
 repeat'((conv=>whnf);first|(intro hq;(try simp only[vw]at hq);try exact ak hq)|apply aI|exact aj|apply nM|apply fM)
 all_goals((try apply vM);(try simp only[vq]at*);try omega)
 all_goals first
  |exact⟨ha,hLa⟩
  |exact⟨hb,hLb⟩
  |skip
 generalize a.val.natAbs=A at*
 generalize b.val.natAbs=B at*
 conv=>whnf
 refine aV (X:=Nat × Nat) (fun x=>Lw x.1≤100000000000∧Lw x.2≤100000000000∧anL x.1 x.2=anL A B) (fun x=>[]) (fun x=>[(0,.cells (.pv [.int .i64 (nr x.1).s,.nnl (.ints .u64 (nr x.1).w)]) false),(1,.cells (.pv [.int .i64 (nr x.2).s,.nnl (.ints .u64 (nr x.2).w)]) false)]) (fun x=>x.2) (A,B) ⟨aL,mixed,av,Nb,aU⟩ qqR ⟨L1,L2,rfl⟩ ?_ ?_
 ·all_goals exact aW
 intro⟨x,y⟩ ⟨h1,h2,h3⟩;simp only at h1 h2 h3;have M1:(nr x).L≤100000000000:=by rw[NI.L_nrm];exact h1
 have M2:(nr y).L≤100000000000:=by rw[NI.L_nrm];exact h2
 repeat'((conv=>whnf);first|(intro hq;(try simp only[vw]at hq);try exact ak hq)|apply aI|exact aj|apply nM|apply fM)
 all_goals((try apply vM);(try simp only[vq]at*);try omega)
 all_goals(try simp only[dI,bg,←amR])
 all_goals(try simp only[dI,bg]at hq)
 all_goals first
  |exact bO _
  |(refine⟨bO _,bO _,?_,M1,M2⟩;unfold eH at hq;omega)
  |(have hy:0<y:=by unfold eH at hq;omega
    refine⟨(y,x % y),[],⟨⟨h2,aky (fq (anK _ _)) h1,?_⟩,alc _ hy⟩,?_⟩
    ·simp only
     rw[←h3,anM y,←Nat.gcd_rec,anM]
    all_goals exact aW)
  |(have hy:y=0:=by unfold eH at hq;omega
    subst hy;rw[←h3,Nat.gcd_zero_right];exact Sup.of rfl)
def XV:PSp:=fun xs K=>match xs with| [p,q]=>ni1 p fun a=>ni1 q fun b=>VC (a.OK∧b.OK∧a.L≤100000000000∧b.L≤100000000000)∧K (niV (nr (anL a.val.natAbs b.val.natAbs)))|_=>False
theorem Ug:POK Tryz.prog 178 XV:=wM (C:=fun a b=>a.OK∧b.OK∧a.L≤100000000000∧b.L≤100000000000) (r:=fun a b=>niV (nr (anL a.val.natAbs b.val.natAbs))) fun a b h=>XU a b h.1 h.2.1 h.2.2.1 h.2.2.2
noncomputable def ajo:CPT:=aB 108 (aR ofP) (aB 110 (aR uD) noC)
theorem Nc:bD Tryz.prog ajo:=au (aF oC) (au (aF oP) aG)
theorem and_one:∀k:Nat,k≤18→IntKind.i64.wrap ((akO IntKind.i64.bits (k:Int)&&& akO IntKind.i64.bits 1).toNat:Int)=((k % 2:Nat):Int):=qqD
theorem Uh:∀k:Nat,k≤19→10 ^ k<18446744073709551616:=qqD
theorem XW (n:Nat) (h1:1≤n) (hn:n≤18):aD Tryz.prog 229 [.agg [.int .i64 10,.nils],.int .i64 n] (niV (nr (10 ^ n))):=by
 have ho:∀k,k≤19→(nr (10 ^ k)).L≤100000000000:=fun k hk=>by
  rw[NI.L_nrm];exact aky (nT (Uh k hk)) qqD
 have e10:nr (10 ^ 1)=⟨10,[]⟩:=iK qqO;have e1:nr (10 ^ 0)=⟨1,[]⟩:=iK qqO;refine ay (md:=1) (rf:=[]) mixed av Nc Tryz.func229 qqR qqR qqR ?_
 repeat'((conv=>whnf);first|(intro hq;(try simp only[vw]at hq);try exact ak hq)|apply aI|exact aj|apply nM|apply fM)
 all_goals((try apply vM);(try simp only[vq]at*);try omega)
 conv=>whnf
 refine aV (X:=Nat × Nat × Nat) (fun x=>x.1+x.2.1*x.2.2=n∧1≤x.2.1∧x.2.1≤18) (fun x=>[(1,.int .i64 x.2.2)]) (fun x=>[(0,.cells (.pv [.int .i64 (nr (10 ^ x.2.1)).s,.nnl (.ints .u64 (nr (10 ^ x.2.1)).w)]) false),(6,.cells (.pv [.int .i64 (nr (10 ^ x.1)).s,.nnl (.ints .u64 (nr (10 ^ x.1)).w)]) false)]) (fun x=>x.2.2) (0,1,n) ⟨aL,mixed,av,Nc,aU⟩ qqR ⟨qqS,qqS,qqS⟩ ?_ ?_
 ·rw[e10,e1]
  all_goals exact aW
 intro⟨o,m,k⟩ ⟨h1,h2,h3⟩;simp only at h1 h2 h3;have hmk:k≤m*k:=anC _ h2;have hand:=and_one k qqO;have hsh:(k:Int) / 2 ^ ana 1=((k / 2:Nat):Int):=by rw[show(2:Int) ^ ana 1=2 from rfl];omega
 have hb:ana 1≤IntKind.i64.bits:=qqD;have hmul:∀o m,nrm ((nr (10 ^ o)).val*(nr (10 ^ m)).val)=nr (10 ^ (o+m)):=fun o m=>by
  rw[bg,bg,←anb,←amK]
 have hok:∀k,(nr (10 ^ k)).OK:=fun k=>bO _;have hM:∀o m,o+m≤19→(nr (10 ^ o)).OK∧(nr (10 ^ m)).OK∧(nr (10 ^ o)).L≤100000000000∧(nr (10 ^ m)).L≤100000000000:=fun o m h=>⟨hok _,hok _,ho _ qqO,ho _ qqO⟩;by_cases hk0:k=0
 ·subst hk0
  rw[Nat.mul_zero,akn]at h1;subst h1;clear hand hsh;all_goals exact vZ
 have hdm:=alb k 2;have hk2:1<k→m+m≤m*k:=fun h=>by
  have:=amU m (show 2≤k by omega)
  omega
 have hsum:∀r,k % 2=r→m*k=(m+m)*(k / 2)+m*r:=fun r hr=>by
  have:m*k=m*(2*(k / 2)+r):=by rw[←hr,hdm]
  rw[this];grind
 by_cases hk1:k=1
 ·subst hk1
  rw[akZ]at h1
  repeat'((conv=>whnf);first|(intro hq;(try simp only[vw]at hq);try exact ak hq)|apply aI|exact aj|apply nM|apply fM)
  all_goals((try apply vM);(try simp only[vq]at*);try omega)
  all_goals(try simp only[dI,hmul,hsh])
  all_goals first
   |exact hM _ _ qqO
   |exact⟨hok _,hok _,ho _ qqO⟩
   |exact hb
   |(refine⟨(o+m,m,0),[],⟨⟨by simp only;omega,h2,h3⟩,qqS⟩,?_⟩
     all_goals exact aW)
 have hk2:=hk2 qqO;by_cases hp:k % 2=1
 ·have hs:=hsum 1 hp
  rw[hp]at hand
  repeat'((conv=>whnf);first|(intro hq;(try simp only[vw]at hq);try exact ak hq)|apply aI|exact aj|apply nM|apply fM)
  all_goals((try apply vM);(try simp only[vq]at*);try omega)
  all_goals(try simp only[dI,hmul,hsh])
  all_goals first
   |exact hM _ _ qqO
   |exact⟨hok _,hok _,ho _ qqO⟩
   |exact hb
   |(refine⟨(o+m,m+m,k / 2),[],⟨⟨by simp only;omega,by simp only;omega,by simp only;omega⟩,by simp only;omega⟩,?_⟩
     all_goals exact aW)
 ·have hp:k % 2=0:=qqO
  have hs:=hsum 0 hp;rw[hp]at hand
  repeat'((conv=>whnf);first|(intro hq;(try simp only[vw]at hq);try exact ak hq)|apply aI|exact aj|apply nM|apply fM)
  all_goals((try apply vM);(try simp only[vq]at*);try omega)
  all_goals(try simp only[dI,hmul,hsh])
  all_goals first
   |exact hM _ _ qqO
   |exact⟨hok _,hok _,ho _ qqO⟩
   |exact hb
   |(refine⟨(o,m+m,k / 2),[],⟨⟨by simp only;omega,by simp only;omega,by simp only;omega⟩,by simp only;omega⟩,?_⟩
     all_goals exact aW)
def Jv:PSp:=fun xs K=>match xs with
 | [.agg [.int .i64 b,.nils],.int .i64 n]=>VC (b=10∧1≤n∧n≤18)∧K (niV (nr (10 ^ n.toNat)))
 |_=>False
theorem XY:POK Tryz.prog 229 Jv:=by
 intro xs K hk;unfold Jv at hk;split at hk
 ·obtain⟨h1,h2,h3⟩:=hk.1.get
  rename_i b n;subst h1;obtain⟨m,rfl⟩:=am4 (show 0≤n by omega)
  exact⟨_,hk.2,XW m qqO qqO⟩
 ·exact hk.elim
theorem Qv (n:Int):aD Tryz.prog 120 [.agg [.int .i64 n,.nils]] (.tup [.int .i64 n,.bp true]):=by
 refine ay (md:=1) (rf:=[]) mixed av aG Tryz.func120 qqR qqR qqR ?_;all_goals exact wB
def Ui:PSp:=fun xs K=>match xs with| [p]=>ni1 p fun a=>VC (a.w=[])∧K (.tup [.int .i64 a.s,.bp true])|_=>False
theorem XZ:POK Tryz.prog 120 Ui:=uw (C:=fun a=>a.w=[]) (r:=fun a=>.tup [.int .i64 a.s,.bp true]) fun a h=>cK (fun S w vs hA=>Dk (fun v hv=>(p9 hv).1 h) hA) (Qv a.s)
def qY (x:Nat):Nat:=if x=0 then 0 else 64*(Lw x-1)+Go.Lib.bitLen ((dl W x).getD (Lw x-1) 0).toNat
theorem X0 (x:Nat):x<2 ^ qY x:=by
 unfold qY;split
 ·rename_i h;subst h;simp
 ·rename_i h
  have hl:0<Lw x:=ak9 fun h'=>h ((gL W2).1 (alY.1 h'));obtain⟨k,hk⟩:∃k,Lw x=k+1:=⟨Lw x-1,qqO⟩;have hlt:=qX x;have hge:=qV W2 x k hk;have hp:=pw W2 k;rw[hk,amA,dz W2,amI];rw[hk,amx]at hlt;have h1:1≤x / W ^ k:=(ald hp).2 qqO;have h2:x / W ^ k<W:=(ala hp).2 (by rw[akT];exact hlt)
  rw[akX h2];obtain⟨a,b,c⟩:=Go.Lib.bitLenAux_bounds 64 (x / W ^ k) h2 qqO;have h3:x<(x / W ^ k+1)*W ^ k:=by rw[akT];exact anA x hp
  have h4:(x / W ^ k+1)*W ^ k≤2 ^ Go.Lib.bitLen (x / W ^ k)*W ^ k:=ak6 _ c;have h5:2 ^ (64*k+Go.Lib.bitLen (x / W ^ k))=2 ^ Go.Lib.bitLen (x / W ^ k)*W ^ k:=by
   rw[amK,Nat.pow_mul,akT]
  rw[h5];exact akv h3 h4
noncomputable def ajp:CPT:=aB 184 (aR mW) (aB 266 (aP Qq) noC)
theorem adN:bD Tryz.prog ajp:=au (aF lH) (au (aC TY) aG)
theorem Uj (a:NI) (ha:a.OK) (hLa:a.L≤100000000000):aD Tryz.prog 260 [niV a] (.int .i64 (qY a.val.natAbs:Nat)):=by
 have hL:(dl W a.val.natAbs).length≤100000000000:=hLa;have hu:qY a.val.natAbs=if a.val.natAbs=0 then 0 else 64*((dl W a.val.natAbs).length-1)+Go.Lib.bitLen ((dl W a.val.natAbs).getD ((dl W a.val.natAbs).length-1) 0).toNat:=rfl;have h0:(dl W a.val.natAbs).length=0↔a.val.natAbs=0:=by rw[alY];exact gL W2
 have hd:=rG a.val.natAbs ((dl W a.val.natAbs).length-1);have hle:=Dv ((dl W a.val.natAbs).getD ((dl W a.val.natAbs).length-1) 0);have hle2:iw ((dl W a.val.natAbs).getD ((dl W a.val.natAbs).length-1) 0)=((Go.Lib.bitLen ((dl W a.val.natAbs).getD ((dl W a.val.natAbs).length-1) 0).toNat:Nat):Int):=rfl;have et:((((dl W a.val.natAbs).length:Nat):Int)-1).toNat=(dl W a.val.natAbs).length-1:=qqO;refine ay (md:=1) (rf:=[]) mixed av adN Tryz.func260 qqR qqR qqR ?_
 repeat'((conv=>whnf);first|(intro hq;(try simp only[vw]at hq);try exact ak hq)|apply aI|exact aj|apply nM|apply fM)
 all_goals((try apply vM);(try simp only[vq]at*);try omega)
 all_goals(try simp only[dI,et])
 all_goals(try simp only[dI]at hq)
 all_goals first
  |exact ha
  |exact hd
  |omega
  |(rw[hu,if_pos (h0.1 qqO)];exact Sup.of rfl)
  |(rw[hu,if_neg (fun h=>by have:=h0.2 h;omega),hle2];refine Sup.of (congrArg (PV.int .i64) ?_);omega)
def abg:PSp:=fun xs K=>match xs with| [p]=>ni1 p fun a=>VC (a.OK∧a.L≤100000000000)∧K (.int .i64 (qY a.val.natAbs:Nat))|_=>False
theorem adO:POK Tryz.prog 260 abg:=uw (C:=fun a=>a.OK∧a.L≤100000000000) (r:=fun a=>.int .i64 (qY a.val.natAbs:Nat)) fun a h=>Uj a h.1 h.2
end Go.Eng.YtmkagljofpddpaaGreatDoor
