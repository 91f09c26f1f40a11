/- Contracts of functions of the program: what each returns. Their conditions stand in them. -/
import Init
import Derived.Laws.Externs
import Derived.Lib.Mul64
import Derived.Lib.BitFns
import Derived.Lib.ItoaNum
import Derived.Test.YtmkagljofpddpaaGreatDoorEe
open BitVec renaming ofInt→ajY,testBit_toNat→amh
open Bool renaming or_comm→amG
open Int renaming toNat_natCast→alR,natCast_emod→al0,emod_add_ediv_mul→al1,eq_ofNat_of_zero_le→amd,toNat→amj,natCast_mul→amk,natCast_add→aml,natAbs→amq,not_le→amt,natAbs_neg→amu,neg_neg→amv,mul_neg→amw,natCast_ediv→amx,ediv_emod_unique→amO,mul_sub→amP,tmod_lt_of_pos→amQ
open List renaming length_cons→ajA,length_eq_zero_iff→ak6,range→ajO,getD_eq_getElem?_getD→ajQ,ext_getElem→alL,getElem?_eq_getElem→ajV,getElem?_eq_none→alM,replicate→ajZ,map_congr_left→alN,mem_range→aly,getElem_set→alO,getElem_map→alP,getElem_range→alQ,take_length→alS,mem_of_find?_eq_some→al9,find?_eq_some_iff_getElem→amb,find?_eq_none→amc,getElem?_set→akc,length_set→ake,length_pos_iff→ams,take→amM,drop→amN
open Nat renaming div_lt_self→alF,div_div_eq_div_mul→alG,pow_succ→alH,mul_comm→aj3,div_lt_iff_lt_mul→akl,le_div_iff_mul_le→ako,pow_lt_pow_iff_right→alI,add_sub_cancel→alJ,pow_pos→alK,mod_eq_of_lt→aj7,div_eq_of_lt→aj5,add_assoc→ajB,le_refl→ajE,div_add_mod→akm,pow_add→alT,mod_mul_right_div_self→alU,div_le_div_right→alV,pow_le_pow_right→alW,mod_one→akr,mod_lt→akn,add_mul_div_right→alX,add_mod→alY,mod_mod→alZ,add_mul_mod_self_right→al2,mul_le_mul→akM,mul_le_mul_left→al3,mul_lt_mul_of_pos_right→al4,pos_of_ne_zero→akk,mul_mod_mul_right→al5,mul_le_mul_right→akh,add_mul→aki,le_mul_of_pos_right→akE,zero_add→aj2,mul_mod→al6,mul_assoc→al7,zero_le→akA,mul_pos→al8,le_of_lt→ama,mul_one→aj9,lt_of_lt_of_le→ajF,add_comm→ame,lt_of_le_of_lt→amf,eq_of_testBit_eq→amg,testBit_lt_two_pow→ami,div_eq_zero_iff_lt→amm,mul_lt_mul_of_lt_of_lt→amn,pow_zero→amo,zero_mul→akD,pow_one→amr,le_trans→ajI,le_of_not_lt→amy,add_zero→ajx,mul_div_cancel→akZ,div_le_self→amA,mul_lt_mul_of_pos_left→amB,shiftLeft_add_eq_or_of_lt→amC,shiftLeft_eq→amD,testBit_or→amE,div_mul_le_self→amF,lt_mul_div_succ→amH,div_add_mod'→amI,one_mul→akj,le_mul_of_pos_left→amJ,div_one→akq,lt_trans→amK,cast→amL,mod_le→amR,gcd→amS,gcd_comm→amT
namespace Go.Eng
theorem aj {p:Prop} (h:p:=by first|with_reducible exact vM rfl|exact⟨⟩):p:=h
theorem ak {p q:Prop} (h:p) (z:¬p:=by first|decide|omega):q:=(z h).elim
theorem aW {p:Prop} (h:p:=by
 repeat'((conv=>whnf);first|intro _|apply aI|exact aj|apply nM|apply fM)
 all_goals((try apply vM);(try simp only[vq]at*);try omega)):p:=h
theorem eT {p:Prop} (h:p:=by
 repeat'((conv=>whnf);first|intro _|apply aI|exact aj|apply nM|apply fM)
 all_goals((try apply vM);(try simp only[vq]at*);try omega)
 all_goals exact fun _ _=>trivial):p:=h
theorem gJ {p:Prop} (h:p:=by
 repeat'((conv=>whnf);first|(intro hq;(try simp only[vw]at hq);try exact ak hq)|apply aI|exact aj|apply nM|apply fM)
 all_goals((try apply vM);(try simp only[vq]at*);try omega)
 all_goals first|exact Sup.of rfl|trace_state):p:=h
theorem jq {p:Prop} (h:p:=by
 repeat'((conv=>whnf);first|intro _|apply aI|exact aj|apply nM|apply fM)
 all_goals((try apply vM);(try simp only[vq]at*);try omega)
 all_goals first|rfl|trace_state):p:=h
theorem jr {p:Prop} (h:p:=by
 repeat'((conv=>whnf);first|(intro hq;(try simp only[vw]at hq);try exact ak hq)|apply aI|exact aj|apply nM|apply fM)
 all_goals((try apply vM);(try simp only[vq]at*);try omega)
 all_goals first|omega|exact j6 rfl|exact Sup.of rfl|trace_state):p:=h
theorem pI {p:Prop} (h:p:=by
 repeat'((conv=>whnf);first|intro _|apply aI|exact aj|apply nM|apply fM)
 all_goals((try apply vM);(try simp only[vq]at*);try omega)
 all_goals first|rfl|skip):p:=h
theorem mM {p:Prop} (h:p:=by
 repeat'((conv=>whnf);first|intro _|apply aI|exact aj|apply nM|apply fM)
 all_goals((try apply vM);(try simp only[vq]at*);try omega)
 all_goals trace_state):p:=h
theorem mO {p:Prop} (h:p:=by
 repeat'((conv=>whnf);first|(intro hq;(try simp only[vw]at hq);try exact ak hq)|apply aI|exact aj|apply nM|apply fM)
 all_goals((try apply vM);(try simp only[vq]at*);try omega)
 all_goals first
  |exact b64 _ (by omega)
  |exact I8 _
  |(rw[F4,c6 (by omega),R3,U0,hs2,R2];exact Sup.of rfl)
  |(refine⟨t-1,[],⟨hnext (by omega),by omega⟩,?_⟩;rw[F3,F4,c5];repeat'((conv=>whnf);first|intro _|apply aI|exact aj|apply nM|apply fM);all_goals((try apply vM);(try simp only[vq]at*);try omega))):p:=h
theorem pJ {p:Prop} (h:p:=by
 repeat'((conv=>whnf);first|(intro hq;(try simp only[vw]at hq);try exact ak hq)|apply aI|exact aj|apply nM|apply fM)
 all_goals((try apply vM);(try simp only[vq]at*);try omega)
 all_goals first|omega|exact Sup.of rfl|trace_state):p:=h
theorem tX {p:Prop} (h:p:=by
 repeat'((conv=>whnf);first|intro _|apply aI|exact aj|apply nM|apply fM)
 all_goals((try apply vM);(try simp only[vq]at*);try omega)
 all_goals first|exact fun _ _=>trivial|exact⟨fun _ _=>trivial,fun _ _ _=>trivial⟩|trace_state):p:=h
theorem nP {p:Prop} (h:p:=by
 repeat'((conv=>whnf);first|intro _|apply aI|exact aj|apply nM|apply fM)
 all_goals((try apply vM);(try simp only[vq]at*);try omega)
 all_goals first|exact fun _ _=>trivial|rfl|trace_state):p:=h
theorem qE {p:Prop} (h:p:=by
 repeat'((conv=>whnf);first|(intro hq;(try simp only[vw]at hq);try exact ak hq)|apply aI|exact aj|apply nM|apply fM)
 all_goals((try apply vM);(try simp only[vq]at*);try omega)
 all_goals(try simp only[ea,eb,dJ,Xl,Xo])
 all_goals first
  |exact na
  |exact nb
  |exact⟨ha,hb,hLa,hLb⟩
  |exact acT _ _
  |exact Sup.of rfl
  |(refine Sup.of ?_;unfold mR;simp only[es,et,dH];first|rw[if_pos (by omega)]|rw[if_neg (by omega),if_pos (by omega)]|rw[if_neg (by omega),if_neg (by omega)])
  |trace_state):p:=h
theorem qF {p:Prop} (h:p:=by
 repeat'((conv=>whnf);first|(intro hq;(try simp only[vw]at hq);try exact ak hq)|apply aI|exact aj|apply nM|apply fM)
 all_goals((try apply vM);(try simp only[vq]at*);try omega)
 all_goals(try simp only[ea,eb,dN,dJ])
 all_goals(try simp only[ea,eb,xP W2,dJ]at hq)
 all_goals first
  |exact na
  |exact nb
  |exact ha
  |exact hb
  |omega
  |exact⟨bW _,bW _,by omega,by omega,hne⟩
  |exact⟨bW _,L3⟩
  |exact⟨bW _,L4⟩
  |exact Bv _ _
  |exact⟨Bv _ _,Dm,L5,L6⟩
  |exact⟨Bv _ _,hb,L7,hLb⟩
  |(obtain⟨e1,e2⟩:=E1 hq;rw[←e1,←e2];exact Sup.of rfl)
  |(obtain⟨e1,e2⟩:=E2 hq;rw[←e1,←e2];exact Sup.of rfl)
  |trace_state):p:=h
theorem qG {p:Prop} (h:p:=by
 repeat'((conv=>whnf);first|(intro hq;(try simp only[vw]at hq);try exact ak hq)|apply aI|exact aj|apply nM|apply fM)
 all_goals((try apply vM);(try simp only[vq]at*);try omega)
 all_goals first|rfl|exact Sup.of rfl|trace_state):p:=h
theorem qH {p:Prop} (h:p:=by
 repeat'((conv=>whnf);first|(intro hq;(try simp only[vw]at hq);try exact ak hq)|apply aI|exact aj|apply nM|apply fM)
 all_goals((try apply vM);(try simp only[vq]at*);try omega)
 all_goals(try simp only[cK])
 all_goals first|exact h|exact Sup.of rfl|trace_state):p:=h
theorem qI {p:Prop} (h:p:=by
 repeat'((conv=>whnf);first|(intro hq;(try simp only[vw]at hq);try exact ak hq)|apply aI|exact aj|apply nM|apply fM)
 all_goals((try apply vM);(try simp only[vq]at*);try omega)
 all_goals(try simp only[e])
 all_goals first|omega|(rw[←e];exact Sup.of rfl)|exact Sup.of rfl|trace_state):p:=h
theorem qJ {p:Prop} (h:p:=by
 repeat'((conv=>whnf);first|intro _|apply aI|exact aj|apply nM|apply fM)
 all_goals((try apply vM);(try simp only[vq]at*);try omega)
 all_goals first|exact⟨rfl,lJ _ _⟩|exact lJ _ _|exact fun _ _=>trivial|exact⟨fun _ _=>trivial,fun _ _ _=>trivial⟩|trace_state):p:=h
theorem qK {p:Prop} (h:p:=by
 repeat'((conv=>whnf);first|(intro hq;(try simp only[vw]at hq);try exact ak hq)|apply aI|exact aj|apply nM|apply fM)
 all_goals((try apply vM);(try simp only[vq]at*);try omega)
 all_goals first|exact j6 rfl|exact Sup.of rfl|(rw[decide_eq_true rfl];exact Sup.of rfl)|(exfalso;omega)|trace_state):p:=h
theorem vU {p:Prop} (h:p:=by
 repeat'((conv=>whnf);first|(intro hq;(try simp only[vw]at hq);try exact ak hq)|apply aI|exact aj|apply nM|apply fM)
 all_goals((try apply vM);(try simp only[vq]at*);try omega)
 all_goals exact Sup.of rfl):p:=h
theorem vV {p:Prop} (h:p:=by
 repeat'((conv=>whnf);first|(intro hq;(try simp only[vw]at hq);try exact ak hq)|apply aI|exact aj|apply nM|apply fM)
 all_goals((try apply vM);(try simp only[vq]at*);try omega)
 exact Sup.of rfl):p:=h
theorem vW {p:Prop} (h:p:=by
 repeat'((conv=>whnf);first|(intro hq;(try simp only[vw]at hq);try exact ak hq)|apply aI|exact aj|apply nM|apply fM)
 all_goals((try apply vM);(try simp only[vq]at*);try omega)
 all_goals(try simp only[ea,eb,dN])
 all_goals first
  |exact na
  |exact nb
  |exact ha
  |exact hb
  |omega
  |exact⟨bW _,bW _,by omega,by omega⟩
  |exact⟨bW _,L3⟩
  |(rw[←E];exact Sup.of rfl)
  |trace_state):p:=h
theorem vX {p:Prop} (h:p:=by
 repeat'((conv=>whnf);first|(intro hq;(try simp only[vw]at hq);try exact ak hq)|apply aI|exact aj|apply nM|apply fM)
 all_goals((try apply vM);(try simp only[vq]at*);try omega)
 all_goals first
  |exact b64 _ (by omega)
  |exact I8 _
  |(rw[R3,U0,hs2,R2];exact Sup.of rfl)):p:=h
theorem vY {p:Prop} (h:p:=by
 repeat'((conv=>whnf);first|(intro hq;(try simp only[vw]at hq);try exact ak hq)|apply aI|exact aj|apply nM|apply fM)
 all_goals((try apply vM);(try simp only[vq]at*);try omega)
 all_goals(refine Sup.via ?_;repeat'((conv=>whnf);first|intro _|apply aI|exact aj|apply nM|apply fM);all_goals((try apply vM);(try simp only[vq]at*);try omega))):p:=h
theorem vZ {p:Prop} (h:p:=by
 repeat'((conv=>whnf);first|(intro hq;(try simp only[vw]at hq);try exact ak hq)|apply aI|exact aj|apply nM|apply fM)
 all_goals((try apply vM);(try simp only[vq]at*);try omega)
 all_goals first|exact Sup.of rfl|omega|trace_state):p:=h
theorem wm {p:Prop} (h:p:=by
 repeat'((conv=>whnf);first|intro _|apply aI|exact aj|apply nM|apply fM)
 all_goals((try apply vM);(try simp only[vq]at*);try omega)
 all_goals first|exact fun _ _=>trivial|trace_state):p:=h
theorem wo {p:Prop} (h:p:=by
 repeat'((conv=>whnf);first|(intro hq;(try simp only[vw]at hq);try exact ak hq)|apply aI|exact aj|apply nM|apply fM)
 all_goals((try apply vM);(try simp only[vq]at*);try omega)
 all_goals first
  |rfl
  |omega
  |contradiction
  |exact⟨⟨by omega,by omega⟩,hL1⟩
  |exact⟨⟨by omega,by omega⟩,hL2⟩
  |exact⟨⟨by omega,by omega⟩,hL3⟩
  |exact⟨by omega,hL1⟩
  |exact⟨by omega,hL2⟩
  |exact⟨by omega,hL3⟩
  |exact hI1
  |exact j6 rfl
  |exact Sup.of rfl
  |(exact Sup.of (by rw[decide_eq_true rfl]))
  |trace_state):p:=h
theorem Es {p:Prop} (h:p:=by
 repeat'((conv=>whnf);first|intro _|apply aI|exact aj|apply nM|apply fM)
 all_goals((try apply vM);(try simp only[vq]at*);try omega)
 ·rw[Ms];rfl
 ·exact Tp _ _ _ (by omega)):p:=h
theorem Et {p:Prop} (h:p:=by
 repeat'((conv=>whnf);first|(intro hq;(try simp only[vw]at hq);try exact ak hq)|apply aI|exact aj|apply nM|apply fM)
 all_goals((try apply vM);(try simp only[vq]at*);try omega)
 all_goals first
  |(rw[hm];omega)
  |(refine⟨by omega,by omega,by omega,by omega⟩)
  |(first|rw[hA,hB]|rw[hA0 (by omega),hB0 (by omega)]
    rw[pK (by omega) rfl]
    refine⟨i+1,[],⟨by omega,by omega⟩,?_⟩
    rw[show((i+1:Nat):Int)=(i:Int)+1 by omega]
    repeat'((conv=>whnf);first|intro _|apply aI|exact aj|apply nM|apply fM)
    all_goals((try apply vM);(try simp only[vq]at*);try omega)
    all_goals skip)):p:=h
theorem Eu {p:Prop} (h:p:=by
 repeat'((conv=>whnf);first|(intro hq;(try simp only[vw]at hq);try exact ak hq)|apply aI|exact aj|apply nM|apply fM)
 all_goals((try apply vM);(try simp only[vq]at*);try omega)
 all_goals(try exact Sup.of rfl)):p:=h
theorem Ev {p:Prop} (h:p:=by
 repeat'((conv=>whnf);first|intro _|apply aI|exact aj|apply nM|apply fM)
 all_goals((try apply vM);(try simp only[vq]at*);try omega)
 all_goals exact Sup.of rfl):p:=h
theorem Ew {p:Prop} (h:p:=by
 repeat'((conv=>whnf);first|(intro hq;(try simp only[vw]at hq);try exact ak hq)|apply aI|exact aj|apply nM|apply fM)
 all_goals((try apply vM);(try simp only[vq]at*);try omega)
 all_goals(try simp only[hc0])
 all_goals first
  |(rw[ByteArray.size_append];omega)
  |exact Sup.of rfl
  |trace_state):p:=h
theorem Ey {p:Prop} (h:p:=by
 repeat'((conv=>whnf);first|intro _|apply aI|exact aj|apply nM|apply fM)
 all_goals((try apply vM);(try simp only[vq]at*);try omega)
 ·rename_i hne
  have:=Qe l i (by omega) hz (by simpa using hne)
  rw[this];exact Sup.of rfl
 ·rename_i hne
  have hne:l.getD i 0=0:=by simpa using hne
  refine⟨i+1,[],⟨⟨by omega,fun j hj=>?_⟩,by omega⟩,?_⟩
  ·by_cases e:j=i
   ·subst e;exact hne
   ·exact hz j (by omega)
  ·repeat'((conv=>whnf);first|intro _|apply aI|exact aj|apply nM|apply fM)
   all_goals((try apply vM);(try simp only[vq]at*);try omega)
 ·have:i=l.length:=by omega
  subst this;rw[I4 l hz];exact Sup.of rfl):p:=h
theorem Ez {p:Prop} (h:p:=by
 repeat'((conv=>whnf);first|(intro hq;(try simp only[vw]at hq);try exact ak hq)|apply aI|exact aj|apply nM|apply fM)
 all_goals((try apply vM);(try simp only[vq]at*);try omega)
 all_goals first|omega|exact⟨by omega,h4⟩|exact Sup.of rfl|(exfalso;simp_all;done)|trace_state):p:=h
theorem EA {p:Prop} (h:p:=by
 repeat'((conv=>whnf);first|intro _|apply aI|exact aj|apply nM|apply fM)
 all_goals((try apply vM);(try simp only[vq]at*);try omega)
 ·intro b hb
  refine funext fun j=>congrArg frC ?_;rw[if_neg (by omega)]):p:=h
theorem EB {p:Prop} (h:p:=by
 repeat'((conv=>whnf);first|intro _|apply aI|exact aj|apply nM|apply fM)
 all_goals((try apply vM);(try simp only[vq]at*);try omega)
 ·intro b hb
  refine ku fun j hj=>?_;rw[if_neg (by omega)]):p:=h
theorem EC {p:Prop} (h:p:=by
 repeat'((conv=>whnf);first|(intro hq;(try simp only[vw]at hq);try exact ak hq)|apply aI|exact aj|apply nM|apply fM)
 all_goals((try apply vM);(try simp only[vq]at*);try omega)
 all_goals first
  |(refine⟨c+1,[],⟨by omega,by omega⟩,?_⟩
    repeat'((conv=>whnf);first|intro _|apply aI|exact aj|apply nM|apply fM)
    all_goals((try apply vM);(try simp only[vq]at*);try omega)
    all_goals skip)
  |trace_state):p:=h
theorem ED {p:Prop} (h:p:=by
 repeat'((conv=>whnf);first|(intro hq;(try simp only[vw]at hq);try exact ak hq)|apply aI|exact aj|apply nM|apply fM)
 all_goals((try apply vM);(try simp only[vq]at*);try omega)
 all_goals first
  |(refine⟨c+1,[],⟨by omega,by omega⟩,?_⟩
    rw[hn']
    repeat'((conv=>whnf);first|intro _|apply aI|exact aj|apply nM|apply fM)
    all_goals((try apply vM);(try simp only[vq]at*);try omega)
    all_goals exact fun _ _=>trivial)
  |(rw[hP];omega)
  |contradiction
  |trace_state):p:=h
theorem EF {p:Prop} (h:p:=by
 repeat'((conv=>whnf);first|(intro hq;(try simp only[vw]at hq);try exact ak hq)|apply aI|exact aj|apply nM|apply fM)
 all_goals((try apply vM);(try simp only[vq]at*);try omega)
 all_goals first
  |exact fC _ _
  |exact .inr trivial
  |(refine⟨c+1,[(17,7)],⟨by omega,by omega⟩,?_⟩
    rw[hn']
    repeat'((conv=>whnf);first|intro _|apply aI|exact aj|apply nM|apply fM)
    all_goals((try apply vM);(try simp only[vq]at*);try omega)
    all_goals first
     |exact fun _ _=>trivial
     |exact⟨fun k _=>by split<;>rfl,fun k hk _=>by
      split
      ·rfl
      ·rw[show k=n+1 by omega]
       show _=CL.ints _ (cO w (fH (Fp p) 0 1 S ((bK S.piv w).getD (n+1) 0) S.piv.length));rw[hlast]⟩
     |exact⟨fun _ _=>trivial,fun k hk _=>by
      rw[show k=0 by omega]
      show _=CL.ints _ (cO w (fH (Fp p) 0 1 S ((bK S.piv w).getD 0 0) S.piv.length));rw[hlast]⟩
     )
  |(show _≤_;omega)
  |trace_state):p:=h
theorem ah2 {p:Prop} (h:p:=by
 repeat'((conv=>whnf);first|intro _|apply aI|exact aj|apply nM|apply fM)
 all_goals((try apply vM);(try simp only[vq]at*);try omega)
 all_goals first
  |exact fun _ _=>trivial
  |exact⟨fun k _=>by split<;>rfl,fun k hk _=>by
   split
   ·rfl
   ·rw[show k=n+1 by omega]
    show _=CL.ints _ (cO w (fH (Fp p) 0 1 S ((bK S.piv w).getD (n+1) 0) S.piv.length));rw[hlast]⟩
  |exact⟨fun _ _=>trivial,fun k hk _=>by
   rw[show k=0 by omega]
   show _=CL.ints _ (cO w (fH (Fp p) 0 1 S ((bK S.piv w).getD 0 0) S.piv.length));rw[hlast]⟩
  |trace_state):p:=h
theorem ah3 {p:Prop} (h:p:=by
 repeat'((conv=>whnf);first|(intro hq;(try simp only[vw]at hq);try exact ak hq)|apply aI|exact aj|apply nM|apply fM)
 all_goals((try apply vM);(try simp only[vq]at*);try omega)
 all_goals first|exact⟨hl,hnd,fun _ h=>h⟩|exact fun _ _=>trivial|trace_state):p:=h
theorem S9 {p:Prop} (h:p:=by
 repeat'((conv=>whnf);first|intro _|apply aI|exact aj|apply nM|apply fM)
 all_goals((try apply vM);(try simp only[vq]at*);try omega)
 all_goals first|exact lJ _ _|exact fun _ _=>trivial|exact⟨fun _ _=>trivial,fun _ _ _=>trivial⟩|trace_state):p:=h
theorem EG {p:Prop} (h:p:=by
 repeat'((conv=>whnf);first|(intro hq;(try simp only[vw]at hq);try exact ak hq)|apply aI|exact aj|apply nM|apply fM)
 all_goals((try apply vM);(try simp only[vq]at*);try omega)
 all_goals first
  |exact iD _ _
  |exact lJ _ _
  |exact .inr trivial
  |(refine⟨c+1,[(17,7)],⟨by omega,by omega⟩,?_⟩
    rw[hn']
    repeat'((conv=>whnf);first|intro _|apply aI|exact aj|apply nM|apply fM)
    all_goals((try apply vM);(try simp only[vq]at*);try omega)
    all_goals first
     |exact fun _ _=>trivial
     |exact⟨fun k _=>by split<;>rfl,fun k hk _=>by
      split
      ·rfl
      ·rw[show k=n+1 by omega]
       show _=CL.recs _ (rfL w (fH Ff zFr oFr S ((bK S.piv w).getD (n+1) 0) S.piv.length));rw[hlast]⟩
     |exact⟨fun _ _=>trivial,fun k hk _=>by
      rw[show k=0 by omega]
      show _=CL.recs _ (rfL w (fH Ff zFr oFr S ((bK S.piv w).getD 0 0) S.piv.length));rw[hlast]⟩
     )
  |(show _≤_;omega)
  |trace_state):p:=h
theorem ah4 {p:Prop} (h:p:=by
 repeat'((conv=>whnf);first|intro _|apply aI|exact aj|apply nM|apply fM)
 all_goals((try apply vM);(try simp only[vq]at*);try omega)
 all_goals first
  |exact fun _ _=>trivial
  |exact⟨fun k _=>by split<;>rfl,fun k hk _=>by
   split
   ·rfl
   ·rw[show k=n+1 by omega]
    show _=CL.recs _ (rfL w (fH Ff zFr oFr S ((bK S.piv w).getD (n+1) 0) S.piv.length));rw[hlast]⟩
  |exact⟨fun _ _=>trivial,fun k hk _=>by
   rw[show k=0 by omega]
   show _=CL.recs _ (rfL w (fH Ff zFr oFr S ((bK S.piv w).getD 0 0) S.piv.length));rw[hlast]⟩
  |trace_state):p:=h
theorem EH {p:Prop} (h:p:=by
 repeat'((conv=>whnf);first|intro _|apply aI|exact aj|apply nM|apply fM)
 all_goals((try apply vM);(try simp only[vq]at*);try omega)
 all_goals first|rfl|exact fun _ _=>trivial|skip):p:=h
theorem EI {p:Prop} (h:p:=by
 repeat'((conv=>whnf);first|intro _|apply aI|exact aj|apply nM|apply fM)
 all_goals((try apply vM);(try simp only[vq]at*);try omega)
 all_goals first|exact congrArg CL.pv e3|exact e3|skip):p:=h
theorem EJ {p:Prop} (h:p:=by
 repeat'((conv=>whnf);first|intro _|apply aI|exact aj|apply nM|apply fM)
 all_goals((try apply vM);(try simp only[vq]at*);try omega)
 all_goals first|exact⟨fun _ _=>trivial,fun _ _ _=>trivial⟩|trace_state):p:=h
theorem EK {p:Prop} (h:p:=by
 repeat'((conv=>whnf);first|(intro hq;(try simp only[vw]at hq);try exact ak hq)|apply aI|exact aj|apply nM|apply fM)
 all_goals((try apply vM);(try simp only[vq]at*);try omega)
 all_goals first
  |exact⟨hp,hst⟩
  |(exfalso;omega)
  |(refine⟨1,[(24,6)],⟨by omega,by omega⟩,?_⟩
    repeat'((conv=>whnf);first|intro _|apply aI|exact aj|apply nM|apply fM)
    all_goals((try apply vM);(try simp only[vq]at*);try omega)
    all_goals first|rfl|exact⟨fun _ _=>trivial,fun _ _ _=>trivial⟩)
  |trace_state):p:=h
theorem ah5 {p:Prop} (h:p:=by
 repeat'((conv=>whnf);first|intro _|apply aI|exact aj|apply nM|apply fM)
 all_goals((try apply vM);(try simp only[vq]at*);try omega)
 all_goals first|rfl|exact⟨fun _ _=>trivial,fun _ _ _=>trivial⟩|trace_state):p:=h
theorem EL {p:Prop} (h:p:=by
 repeat'((conv=>whnf);first|(intro hq;(try simp only[vw]at hq);try exact ak hq)|apply aI|exact aj|apply nM|apply fM)
 all_goals((try apply vM);(try simp only[vq]at*);try omega)
 all_goals first
  |exact⟨hp,hst⟩
  |(rw[fC];omega)
  |(refine⟨t+2,[(24,6)],⟨by omega,by omega⟩,?_⟩
    repeat'((conv=>whnf);first|intro _|apply aI|exact aj|apply nM|apply fM)
    all_goals((try apply vM);(try simp only[vq]at*);try omega)
    all_goals first|exact hml|exact⟨fun _ _=>trivial,fun _ _ _=>trivial⟩)
  |trace_state):p:=h
theorem ah6 {p:Prop} (h:p:=by
 repeat'((conv=>whnf);first|intro _|apply aI|exact aj|apply nM|apply fM)
 all_goals((try apply vM);(try simp only[vq]at*);try omega)
 all_goals first|exact hml|exact⟨fun _ _=>trivial,fun _ _ _=>trivial⟩|trace_state):p:=h
theorem EM {p:Prop} (h:p:=by
 repeat'((conv=>whnf);first|(intro hq;(try simp only[vw]at hq);try exact ak hq)|apply aI|exact aj|apply nM|apply fM)
 all_goals((try apply vM);(try simp only[vq]at*);try omega)
 all_goals first
  |omega
  |contradiction
  |(refine⟨i+1,[],⟨⟨by omega,fun j hj=>by
     by_cases e:j=i
     ·subst e;exact he
     ·exact h2' () j (by omega)⟩,by omega⟩,?_⟩
    repeat'((conv=>whnf);first|intro _|apply aI|exact aj|apply nM|apply fM)
    all_goals((try apply vM);(try simp only[vq]at*);try omega)
    all_goals skip)
  |trace_state):p:=h
theorem EN {p:Prop} (h:p:=by
 repeat'((conv=>whnf);first|(intro hq;(try simp only[vw]at hq);try exact ak hq)|apply aI|exact aj|apply nM|apply fM)
 all_goals((try apply vM);(try simp only[vq]at*);try omega)
 all_goals first|omega|exact j6 rfl|exact Sup.of rfl|contradiction|trace_state):p:=h
theorem EO {p:Prop} (h:p:=by
 repeat'((conv=>whnf);first|(intro hq;(try simp only[vw]at hq);try exact ak hq)|apply aI|exact aj|apply nM|apply fM)
 all_goals((try apply vM);(try simp only[vq]at*);try omega)
 all_goals first
  |omega
  |contradiction
  |(refine⟨i+1,[],⟨⟨by omega,fun j hj=>by
     by_cases e:j=i
     ·subst e;exact he
     ·exact h2' () j (by omega)⟩,by omega⟩,?_⟩
    repeat'((conv=>whnf);first|intro _|apply aI|exact aj|apply nM|apply fM)
    all_goals((try apply vM);(try simp only[vq]at*);try omega)
    all_goals skip)
  |(exfalso;simp_all;done)
  |trace_state):p:=h
theorem EP {p:Prop} (h:p:=by
 repeat'((conv=>whnf);first|(intro hq;(try simp only[vw]at hq);try exact ak hq)|apply aI|exact aj|apply nM|apply fM)
 all_goals((try apply vM);(try simp only[vq]at*);try omega)
 all_goals first|omega|exact j6 rfl|exact Sup.of rfl|contradiction|(exfalso;simp_all;done)|trace_state):p:=h
theorem ER {p:Prop} (h:p:=by
 repeat'((conv=>whnf);first|intro _|apply aI|exact aj|apply nM|apply fM)
 all_goals((try apply vM);(try simp only[vq]at*);try omega)
 all_goals exact Q8 p):p:=h
theorem ET {p:Prop} (h:p:=by
 repeat'((conv=>whnf);first|(intro hq;(try simp only[vw]at hq);try exact ak hq)|apply aI|exact aj|apply nM|apply fM)
 all_goals((try apply vM);(try simp only[vq]at*);try omega)
 all_goals(try(rw[hsl];omega))
 ·rw[eA (by omega),decide_eq_true_eq]at hq
  refine Sup.of (congrArg (PV.int .i64) (fin _ ?_ (by omega)).symm)
  rw[eS,if_pos (.inr (.inr hq))]
 ·rw[eA (by omega),decide_eq_false_iff_not]at hq
  refine⟨i+1,[],⟨⟨by omega,fun j hj=>?_⟩,by omega⟩,?_⟩
  ·by_cases e:j=i
   ·subst e;rw[eS,if_neg (by rintro(h|h|h);omega;omega;exact hq h)]
   ·exact hok j (by omega)
  repeat'((conv=>whnf);first|intro _|apply aI|exact aj|apply nM|apply fM)
  all_goals((try apply vM);(try simp only[vq]at*);try omega)
  all_goals exact BN p i hlt (by omega)
 ·refine Sup.of (congrArg (PV.int .i64) (fin _ ?_ (by omega)).symm)
  rw[eS,if_pos (.inr (.inl hq))]
 ·refine Sup.of (congrArg (PV.int .i64) (fin _ ?_ (by omega)).symm)
  rw[eS,if_pos (.inl hq)]):p:=h
theorem ah7 {p:Prop} (h:p:=by
 repeat'((conv=>whnf);first|intro _|apply aI|exact aj|apply nM|apply fM)
 all_goals((try apply vM);(try simp only[vq]at*);try omega)
 all_goals exact BN p i hlt (by omega)):p:=h
theorem EU {p:Prop} (h:p:=by
 repeat'((conv=>whnf);first|(intro hq;(try simp only[vw]at hq);try exact ak hq)|apply aI|exact aj|apply nM|apply fM)
 all_goals((try apply vM);(try simp only[vq]at*);try omega)
 all_goals first
  |omega
  |(refine⟨i+1,[],⟨by omega,by omega⟩,?_⟩
    repeat'((conv=>whnf);first|intro _|apply aI|exact aj|apply nM|apply fM)
    all_goals((try apply vM);(try simp only[vq]at*);try omega)
    all_goals first|rfl|skip)
  |trace_state):p:=h
theorem EW {p:Prop} (h:p:=by
 repeat'((conv=>whnf);first|(intro hq;(try simp only[vw]at hq);try exact ak hq)|apply aI|exact aj|apply nM|apply fM)
 all_goals((try apply vM);(try simp only[vq]at*);try omega)
 all_goals first|(exfalso;contradiction)|exact VH _ _|trace_state):p:=h
theorem EX {p:Prop} (h:p:=by
 repeat'((conv=>whnf);first|intro _|apply aI|exact aj|apply nM|apply fM)
 all_goals((try apply vM);(try simp only[vq]at*);try omega)
 all_goals first|omega|trace_state):p:=h
theorem Ta {p:Prop} (h:p:=by
 repeat'((conv=>whnf);first|(intro hq;(try simp only[vw]at hq);try exact ak hq)|apply aI|exact aj|apply nM|apply fM)
 all_goals((try apply vM);(try simp only[vq]at*);try omega)
 all_goals first
  |omega
  |(refine⟨k+1,[],⟨by omega,by omega⟩,?_⟩
    rw[hn2]
    repeat'((conv=>whnf);first|intro _|apply aI|exact aj|apply nM|apply fM)
    all_goals((try apply vM);(try simp only[vq]at*);try omega)
    all_goals first|rfl|skip)
  |trace_state):p:=h
end Go.Eng
namespace Go.Eng.Dig
set_option linter.unusedSimpArgs false
set_option linter.unusedVariables false
def dlF (B:Nat):Nat→Nat→List Int
 |0,_=>[]
 |f+1,x=>if x=0 then []else((x % B:Nat):Int)::dlF B f (x / B)
def dl (B x:Nat):List Int:=dlF B x x
theorem afU {B:Nat} (hB:2≤B):∀(f g x:Nat),x≤f→x≤g→dlF B f x=dlF B g x:=by
 intro f;induction f with
 |zero=>
  intro g x hf hg;have:x=0:=by omega
  subst this;cases g<;>simp[dlF]
 |succ f ih=>
  intro g x hf hg;cases g with
  |zero=>
   have:x=0:=by omega
   subst this;simp[dlF]
  |succ g=>
   simp only[dlF];split
   ·rfl
   ·have:=alF (n:=x) (k:=B) (by omega) (by omega)
    rw[ih g (x / B) (by omega) (by omega)]
theorem kZ (B:Nat):dl B 0=[]:=rfl
theorem wz {B x:Nat} (hB:2≤B) (hx:x≠0):dl B x=((x % B:Nat):Int)::dl B (x / B):=by
 unfold dl;have h:=alF (n:=x) (k:=B) (by omega) (by omega)
 obtain⟨f,rfl⟩:∃f,x=f+1:=⟨x-1,by omega⟩
 rw[dlF,if_neg (by omega),afU hB f ((f+1) / B) ((f+1) / B) (by omega) (by omega)]
theorem Bp {B:Nat} (hB:2≤B) {P:Nat→Prop} (h0:P 0) (h:∀x,x≠0→P (x / B)→P x) (x:Nat):P x:=by
 induction x using Nat.strongRecOn with
 |ind x ih=>
  by_cases hx:x=0
  ·subst hx;exact h0
  ·exact h x hx (ih _ (alF (by omega) (by omega)))
theorem dz {B:Nat} (hB:2≤B) (x:Nat):∀i,(dl B x).getD i 0=((x / B ^ i % B:Nat):Int):=by
 refine Bp hB (P:=fun x=>∀i,(dl B x).getD i 0=((x / B ^ i % B:Nat):Int)) ?_ ?_ x
 ·intro i;simp[kZ]
 ·intro x hx ih i
  rw[wz hB hx];cases i with
  |zero=>simp
  |succ i=>rw[List.getD_cons_succ,ih,alG,alH,aj3]
theorem fP {B:Nat} (hB:2≤B) (x:Nat):x<B ^ (dl B x).length:=by
 refine Bp hB (P:=fun x=>x<B ^ (dl B x).length) ?_ ?_ x
 ·simp[kZ]
 ·intro x hx ih
  rw[wz hB hx,ajA,alH];exact(akl (by omega)).1 ih
theorem qL {B:Nat} (hB:2≤B) (x:Nat):∀k,(dl B x).length=k+1→B ^ k≤x:=by
 refine Bp hB (P:=fun x=>∀k,(dl B x).length=k+1→B ^ k≤x) ?_ ?_ x
 ·intro k h;simp[kZ]at h
 ·intro x hx ih k h
  rw[wz hB hx,ajA]at h;cases k with
  |zero=>simp;omega
  |succ k=>
   have:=ih k (by omega)
   rw[alH];exact(ako (by omega)).1 this
theorem lg {B:Nat} (hB:2≤B) {x k:Nat} (h:x<B ^ k):(dl B x).length≤k:=by
 cases e:(dl B x).length with
 |zero=>omega
 |succ n=>
  have h1:=qL hB x n e;have:B ^ n<B ^ k:=by omega
  have:=(alI (by omega:1<B)).1 this
  omega
theorem wB {B:Nat} (hB:2≤B) {x k:Nat} (h:B ^ k≤x):k<(dl B x).length:=by
 have h1:=fP hB x;have:B ^ k<B ^ (dl B x).length:=by omega
 exact(alI (by omega:1<B)).1 this
theorem gL {B:Nat} (hB:2≤B) {x:Nat}:dl B x=[]↔x=0:=by
 constructor
 ·intro h
  have:=fP hB x;rw[h]at this;simpa using this
 ·rintro rfl;rfl
theorem afV {B:Nat} (hB:2≤B) {x:Nat} (hx:x≠0):(dl B x).getD ((dl B x).length-1) 0≠0:=by
 have hne:(dl B x).length≠0:=fun h=>hx ((gL hB).1 (ak6.1 h));obtain⟨k,hk⟩:∃k,(dl B x).length=k+1:=⟨(dl B x).length-1,by omega⟩
 have h1:=qL hB x k hk;have h2:=fP hB x;rw[hk,alH]at h2;rw[hk,alJ,dz hB];have hp:0<B ^ k:=alK (by omega)
 have h3:1≤x / B ^ k:=(ako hp).2 (by omega)
 have h4:x / B ^ k<B:=(akl hp).2 (by rw[aj3];exact h2)
 rw[aj7 h4];omega
theorem nQ {B:Nat} (hB:2≤B) {x:Nat} (h0:x≠0) (h:x<B):dl B x=[(x:Int)]:=by
 rw[wz hB h0,aj7 h,aj5 h,kZ]
def dn (B n x:Nat):List Int:=(ajO n).map fun i=>((x / B ^ i % B:Nat):Int)
theorem fQ (B n x:Nat):(dn B n x).length=n:=by simp[dn]
theorem CV (B n x i:Nat) (h:i<n):(dn B n x).getD i 0=((x / B ^ i % B:Nat):Int):=by
 simp[dn,ajQ,h]
theorem acJ {B:Nat} (hB:2≤B) {n x:Nat} (h:x<B ^ n):(dn B n x).take (dl B x).length=dl B x:=by
 have hl:=lg hB h;apply alL
 ·simp[fQ];omega
 ·intro i h1 h2
  have e:=dz hB x i;rw[ajQ,ajV h2,Option.getD_some]at e;rw[e];simp[dn]
theorem F6 {B:Nat} (hB:2≤B) {n x i:Nat} (hi:(dl B x).length≤i) (hn:i<n):(dn B n x).getD i 0=0:=by
 rw[CV B n x i hn,←dz hB x i,ajQ,alM hi];rfl
theorem rH (B n:Nat):dn B n 0=ajZ n 0:=by
 apply alL
 ·simp[fQ]
 ·intro i h1 h2;simp[dn]
def dm (B n i x z:Nat):List Int:=(ajO n).map fun k=>if k<i then((x / B ^ k % B:Nat):Int)else((z / B ^ k % B:Nat):Int)
theorem jP (B n i x z:Nat):(dm B n i x z).length=n:=by simp[dm]
theorem oK (B n i x z k:Nat) (h:k<n):(dm B n i x z).getD k 0=if k<i then((x / B ^ k % B:Nat):Int)else((z / B ^ k % B:Nat):Int):=by
 simp[dm,ajQ,h]
theorem xO (B n x z:Nat):dm B n 0 x z=dn B n z:=by
 simp[dm,dn]
theorem Bq {B n i:Nat} (x z:Nat) (h:n≤i):dm B n i x z=dn B n x:=by
 unfold dm dn;refine alN fun k hk=>?_;rw[if_pos (by have:=aly.1 hk;omega)]
theorem pK {B n i x z:Nat} (h:i<n) {d:Int} (hd:d=((x / B ^ i % B:Nat):Int)):(dm B n i x z).set i d=dm B n (i+1) x z:=by
 apply alL
 ·simp[jP]
 ·intro k h1 h2
  rw[alO];simp only[dm,alP,alQ];split
  ·subst_vars;simp
  ·split<;>split<;>first|rfl|omega
theorem IU {B n i x x' z z':Nat} (h1:∀k,k<i→k<n→x / B ^ k % B=x' / B ^ k % B) (h2:∀k,i≤k→k<n→z / B ^ k % B=z' / B ^ k % B):dm B n i x z=dm B n i x' z':=by
 unfold dm;refine alN fun k hk=>?_;have hk:=aly.1 hk;split
 ·rw[h1 k (by omega) hk]
 ·rw[h2 k (by omega) hk]
def vl (B:Nat):List Int→Nat
 | []=>0
 |d::l=>d.toNat+B*vl B l
theorem xP {B:Nat} (hB:2≤B) (x:Nat):vl B (dl B x)=x:=by
 refine Bp hB (P:=fun x=>vl B (dl B x)=x) rfl ?_ x;intro x hx ih;rw[wz hB hx,vl,ih,alR];exact Nat.mod_add_div x B
def Dg (B:Nat) (l:List Int):Prop:=l=dl B (vl B l)
theorem ahy {B:Nat} (hB:2≤B) (x:Nat):Dg B (dl B x):=by unfold Dg;rw[xP hB]
theorem jY {B:Nat} {l:List Int} (h:Dg B l):∃x,l=dl B x:=⟨_,h⟩
def trm (l:List Int):List Int:=(l.reverse.dropWhile (·==0)).reverse
theorem Xe (l:List Int):trm (l++[0])=trm l:=by simp[trm]
theorem IV (l:List Int) {d:Int} (h:d≠0):trm (l++[d])=l++[d]:=by simp[trm,h]
theorem EY (l:List Int) {k:Nat} (h:k<l.length):l.take (k+1)=l.take k++[l.getD k 0]:=by
 rw[List.take_add_one,ajQ,ajV h];rfl
theorem IW {l:List Int} {k:Nat} (h:k<l.length) (h0:l.getD k 0=0):trm (l.take (k+1))=trm (l.take k):=by rw[EY l h,h0,Xe]
theorem IX {l:List Int} {k:Nat} (h:k<l.length) (h0:l.getD k 0≠0):trm (l.take (k+1))=l.take (k+1):=by rw[EY l h,IV _ h0]
theorem pO {B:Nat} (hB:2≤B) {n x:Nat} (h:x<B ^ n):trm (dn B n x)=dl B x:=by
 have hl:=lg hB h;have step:∀m,(dl B x).length+m≤n→trm ((dn B n x).take ((dl B x).length+m))=trm ((dn B n x).take (dl B x).length):=by
  intro m;induction m with
  |zero=>intro _;rfl
  |succ m ih=>
   intro hm;rw[←ajB,IW (by rw[fQ];omega) (F6 hB (by omega) (by omega)),ih (by omega)]
 have h1:=step (n-(dl B x).length) (by omega)
 rw[show(dl B x).length+(n-(dl B x).length)=n by omega,List.take_of_length_le (by rw[fQ];exact ajE _)]at h1
 rw[h1,acJ hB h];by_cases hx:x=0
 ·subst hx;rfl
 ·have hp:(dl B x).length≠0:=fun h=>hx ((gL hB).1 (ak6.1 h))
  obtain⟨k,hk⟩:∃k,(dl B x).length=k+1:=⟨(dl B x).length-1,by omega⟩
  have ht:=afV hB hx;have:=IX (l:=dl B x) (k:=k) (by omega) (by rw[hk,alJ]at ht;exact ht)
  rw[←hk,alS]at this;exact this
theorem pw {B:Nat} (hB:2≤B) (i:Nat):0<B ^ i:=alK (by omega)
theorem xQ (B x i:Nat):x / B ^ (i+1)=x / B ^ i / B:=by rw[alH,alG]
theorem nD (B x i:Nat):x % B ^ (i+1)=x % B ^ i+x / B ^ i % B*B ^ i:=by
 rw[alH,Nat.mod_mul,aj3 (B ^ i)]
theorem jv (B x i:Nat):x / B ^ i=x / B ^ (i+1)*B+x / B ^ i % B:=by
 rw[xQ];have:=akm (x / B ^ i) B;rw[aj3];exact this.symm
theorem Tc (B x i k:Nat) (h:k<i):x % B ^ i / B ^ k % B=x / B ^ k % B:=by
 obtain⟨d,rfl⟩:∃d,i=k+(d+1):=⟨i-k-1,by omega⟩
 rw[alT,alU,alH,aj3 (B ^ d),Nat.mod_mul_right_mod]
theorem Td {B x y:Nat} (hB:2≤B) {i:Nat} (h:x / B ^ (i+1)=y / B ^ (i+1)) (hd:x / B ^ i % B<y / B ^ i % B):x<y:=by
 have h1:=jv B x i;have h2:=jv B y i;rw[h]at h1;have:x / B ^ i<y / B ^ i:=by omega
 exact Nat.lt_of_not_le fun hle=>by have:=alV (c:=B ^ i) hle;omega
theorem cmp_eq {B x y:Nat} {i:Nat} (h:x / B ^ (i+1)=y / B ^ (i+1)) (hd:x / B ^ i % B=y / B ^ i % B):x / B ^ i=y / B ^ i:=by
 rw[jv B x i,jv B y i,h,hd]
theorem Mr {B x y:Nat} (hB:2≤B) (h:(dl B x).length<(dl B y).length):x<y:=by
 have h1:=fP hB x;obtain⟨k,hk⟩:∃k,(dl B y).length=k+1:=⟨(dl B y).length-1,by omega⟩
 have h2:=qL hB y k hk;have:B ^ (dl B x).length≤B ^ k:=alW (by omega) (by omega)
 omega
def ca (B x y i:Nat):Nat:=(x % B ^ i+y % B ^ i) / B ^ i
theorem Ms (B x y:Nat):ca B x y 0=0:=by simp[ca,akr]
theorem GA {B:Nat} (hB:2≤B) (x y i:Nat):ca B x y i≤1:=by
 have h1:=akn x (pw hB i);have h2:=akn y (pw hB i);have:ca B x y i<2:=(akl (pw hB i)).2 (by omega)
 omega
theorem Te {B:Nat} (hB:2≤B) (x y i:Nat):(x % B ^ (i+1)+y % B ^ (i+1)) / B ^ i=x / B ^ i % B+y / B ^ i % B+ca B x y i:=by
 have hp:=pw hB i;rw[nD,nD,show x % B ^ i+x / B ^ i % B*B ^ i+(y % B ^ i+y / B ^ i % B*B ^ i)=(x % B ^ i+y % B ^ i)+(x / B ^ i % B+y / B ^ i % B)*B ^ i by grind,alX _ _ hp]
 unfold ca;omega
theorem Mt {B:Nat} (hB:2≤B) (x y i:Nat):(x / B ^ i % B+y / B ^ i % B+ca B x y i) / B=ca B x y (i+1):=by
 rw[←Te hB,alG];rfl
theorem IY {B:Nat} (hB:2≤B) (x y i:Nat):(x / B ^ i % B+y / B ^ i % B+ca B x y i) % B=(x+y) / B ^ i % B:=by
 rw[←Te hB,←alU,←alU,←alH,alY,alZ,alZ,←alY]
theorem afW {B x y n:Nat} (hx:x<B ^ n) (hy:y<B ^ n):ca B x y n=(x+y) / B ^ n:=by
 unfold ca;rw[aj7 hx,aj7 hy]
def bo (B x y i:Nat):Nat:=if x % B ^ i<y % B ^ i then 1 else 0
theorem Mv (B x y:Nat):bo B x y 0=0:=by simp[bo,akr]
theorem Qa (B x y i:Nat):bo B x y i≤1:=by unfold bo;split<;>omega
theorem CW {B:Nat} (hB:2≤B) (x y i:Nat):bo B x y (i+1)=if x / B ^ i % B<y / B ^ i % B+bo B x y i then 1 else 0:=by
 have hp:=pw hB i;have h1:=akn x hp;have h2:=akn y hp;unfold bo;rw[nD,nD];generalize x / B ^ i % B=a at*
 generalize y / B ^ i % B=b at*
 generalize x % B ^ i=u at*
 generalize y % B ^ i=v at*
 generalize B ^ i=p at*
 by_cases hab:a<b
 ·obtain⟨c,rfl⟩:∃c,b=a+1+c:=⟨b-a-1,by omega⟩
  rw[if_pos,if_pos (by omega)]
  have:(a+1+c)*p=a*p+p+c*p:=by grind
  omega
 ·by_cases hba:a=b
  ·subst hba
   by_cases huv:u<v
   ·rw[if_pos (by omega),if_pos huv,if_pos (by omega)]
   ·rw[if_neg (by omega),if_neg huv,if_neg (by omega)]
  ·obtain⟨c,rfl⟩:∃c,a=b+1+c:=⟨a-b-1,by omega⟩
   have:(b+1+c)*p=b*p+p+c*p:=by grind
   rw[if_neg (by omega),if_neg]
   split<;>omega
theorem Tf {B:Nat} (hB:2≤B) {x y:Nat} (h:y≤x) (i:Nat):(((x / B ^ i % B:Nat):Int)-((y / B ^ i % B:Nat):Int)-(bo B x y i:Int)) % B=(((x-y) / B ^ i % B:Nat):Int):=by
 have hp:=pw hB i;obtain⟨z,rfl⟩:∃z,x=y+z:=⟨x-y,by omega⟩
 rw[Nat.add_sub_cancel_left];have hc:=IY hB y z i;have hs:bo B (y+z) y i=ca B y z i:=by
  unfold bo ca;have h1:=akn y hp;have h2:=akn z hp;rw[alY];generalize y % B ^ i=u at*
  generalize z % B ^ i=v at*
  generalize B ^ i=p at*
  by_cases hlt:u+v<p
  ·rw[aj7 hlt,aj5 hlt,if_neg (by omega)]
  ·have e:(u+v) % p=u+v-p:=by rw[Nat.mod_eq_sub_mod (by omega),aj7 (by omega)]
   rw[e,if_pos (by omega)]
   have e2:(u+v) / p=1:=by
    rw[Nat.div_eq_of_lt_le]<;>omega
   rw[e2]
 rw[hs,←hc];have hz:=akn (z / B ^ i) (by omega:B>0)
 generalize y / B ^ i % B=a at*
 generalize z / B ^ i % B=b at*
 generalize ca B y z i=c at*
 have e:(((a+b+c) % B:Nat):Int)=((a+b+c:Nat):Int) % B:=al0 _ _;rw[e,←al1 ((a+b+c:Nat):Int) B];have e3:((a+b+c:Nat):Int) % (B:Int)+((a+b+c:Nat):Int) / (B:Int)*B=a+b+c:=by rw[al1];simp
 rw[e3];have e4:((a+b+c:Nat):Int) % (B:Int)-(a:Int)-(c:Int)=(b:Int)+(-(((a+b+c:Nat):Int) / (B:Int)))*B:=by
  have:=al1 ((a+b+c:Nat):Int) B
  grind
 have e5:((a:Int)+b+c) % (B:Int)=((a+b+c:Nat):Int) % (B:Int):=by simp
 rw[e5,e4,Int.add_mul_emod_self_right,Int.emod_eq_of_lt (by omega) (by omega)]
def tj (B x y i j:Nat):Nat:=x % B ^ i*y+x / B ^ i % B*(y % B ^ j)*B ^ i
theorem Mx (B x y i:Nat):tj B x y i 0=x % B ^ i*y:=by simp[tj,akr]
theorem Tg {B y m:Nat} (x i:Nat) (hy:y<B ^ m):tj B x y i m=x % B ^ (i+1)*y:=by
 unfold tj;rw[aj7 hy,nD]
 grind
theorem MB (B x y i j:Nat):tj B x y i (j+1)=tj B x y i j+x / B ^ i % B*(y / B ^ j % B)*B ^ (i+j):=by
 unfold tj;rw[nD,alT]
 grind
def cm (B x y i j:Nat):Nat:=tj B x y i j / B ^ (i+j)-x % B ^ i*y / B ^ (i+j)
theorem Ti {B:Nat} (x y i j:Nat):tj B x y i j / B ^ (i+j)=cm B x y i j+x % B ^ i*y / B ^ (i+j):=by
 have:x % B ^ i*y / B ^ (i+j)≤tj B x y i j / B ^ (i+j):=alV (by unfold tj;omega)
 unfold cm;omega
theorem MC (B x y i:Nat):cm B x y i 0=0:=by unfold cm;rw[Mx];omega
theorem Tj {B:Nat} (hB:2≤B) (x y i j:Nat):tj B x y i (j+1) / B ^ (i+j)=cm B x y i j+x % B ^ i*y / B ^ (i+j) % B+x / B ^ i % B*(y / B ^ j % B)+x % B ^ i*y / B ^ (i+j+1)*B:=by
 rw[MB,alX _ _ (pw hB _),Ti];have:=jv B (x % B ^ i*y) (i+j);generalize x % B ^ i*y / B ^ (i+j) % B=t at*
 generalize x % B ^ i*y / B ^ (i+j+1)*B=v at*
 omega
theorem afX {B:Nat} (hB:2≤B) (x y i j:Nat):(x / B ^ i % B*(y / B ^ j % B)+x % B ^ i*y / B ^ (i+j) % B+cm B x y i j) % B=tj B x y i (j+1) / B ^ (i+j) % B:=by
 rw[Tj hB,al2];congr 1;omega
theorem ME {B:Nat} (hB:2≤B) (x y i j:Nat):(x / B ^ i % B*(y / B ^ j % B)+x % B ^ i*y / B ^ (i+j) % B+cm B x y i j) / B=cm B x y i (j+1):=by
 have h1:=Tj hB x y i j;have h2:tj B x y i (j+1) / B ^ (i+(j+1))=(cm B x y i j+x % B ^ i*y / B ^ (i+j) % B+x / B ^ i % B*(y / B ^ j % B)) / B+x % B ^ i*y / B ^ (i+j+1):=by
  rw[←ajB,xQ,h1,alX _ _ (by omega)]
 have h3:cm B x y i (j+1)=tj B x y i (j+1) / B ^ (i+(j+1))-x % B ^ i*y / B ^ (i+(j+1)):=rfl;rw[h3,h2,←ajB i j 1,alJ];congr 1;omega
theorem aaD {B:Nat} (hB:2≤B) (x y i j:Nat):cm B x y i j<B:=by
 induction j with
 |zero=>rw[MC];omega
 |succ j ih=>
  rw[←ME hB,akl (by omega)]
  have h1:x / B ^ i % B≤B-1:=by have:=akn (x / B ^ i) (by omega:B>0);omega
  have h2:y / B ^ j % B≤B-1:=by have:=akn (y / B ^ j) (by omega:B>0);omega
  have h3:=akn (x % B ^ i*y / B ^ (i+j)) (by omega:B>0)
  have h4:=akM h1 h2;obtain⟨b,rfl⟩:∃b,B=b+1:=⟨B-1,by omega⟩
  rw[alJ]at*;have e:(b+1)*(b+1)=b*b+b+b+1:=by grind
  omega
theorem afY {B:Nat} (hB:2≤B) (x y i j k:Nat) (h:k<i+j):tj B x y i (j+1) / B ^ k % B=tj B x y i j / B ^ k % B:=by
 rw[MB];obtain⟨d,hd⟩:∃d,i+j=k+(d+1):=⟨i+j-k-1,by omega⟩
 rw[hd,show x / B ^ i % B*(y / B ^ j % B)*B ^ (k+(d+1))=(x / B ^ i % B*(y / B ^ j % B)*B ^ d*B)*B ^ k by rw[alT,alH];grind,alX _ _ (pw hB k),al2]
theorem IZ {B y m:Nat} (hB:2≤B) (x i:Nat) (hy:y<B ^ m):x % B ^ i*y / B ^ (i+m)=0:=by
 have hp:=pw hB i;rw[aj5];rw[alT];have h1:=akn x hp
 calc x % B ^ i*y≤x % B ^ i*B ^ m:=al3 _ (by omega)
  _<B ^ i*B ^ m:=al4 h1 (pw hB m)
theorem acK {B y m:Nat} (hB:2≤B) (x i:Nat) (hy:y<B ^ m):cm B x y i m=x % B ^ (i+1)*y / B ^ (i+m):=by
 have h:=Ti (B:=B) x y i m;rw[Tg x i hy,IZ hB x i hy]at h;omega
theorem MF {B:Nat} (hB:2≤B) (x i:Nat) {p r:Nat} (hp:p*r=B):
 x % B ^ i*p / B ^ i<p∧x % B ^ (i+1)*p / B ^ i % B=x % B ^ i*p / B ^ i+x / B ^ i % B*p % B∧x % B ^ (i+1)*p / B ^ (i+1)=x / B ^ i % B*p / B∧(∀k,k<i→x % B ^ (i+1)*p / B ^ k % B=x % B ^ i*p / B ^ k % B)∧x % B ^ i*p / B ^ i+x / B ^ i % B*p % B<B:=by
 have hP:=pw hB i;have hp0:0<p:=akk fun h=>by subst h;omega
 have h1:x % B ^ i*p / B ^ i<p:=by
  rw[akl hP,aj3 p];exact al4 (akn _ hP) hp0
 have e:x % B ^ (i+1)*p=x % B ^ i*p+(x / B ^ i % B*p)*B ^ i:=by rw[nD];grind
 have e2:x % B ^ (i+1)*p / B ^ i=x % B ^ i*p / B ^ i+x / B ^ i % B*p:=by rw[e,alX _ _ hP]
 have em:x / B ^ i % B*p % B=(x / B ^ i % B % r)*p:=by
  rw[←hp,aj3 p r,al5]
 have hr:0<r:=akk fun h=>by subst h;omega
 have hmr:=akn (x / B ^ i % B) hr;have hs:x % B ^ i*p / B ^ i+x / B ^ i % B*p % B<B:=by
  rw[em];have:=akh p (show x / B ^ i % B % r+1≤r by omega)
  rw[aki,aj3 r p,hp]at this;omega
 refine⟨h1,?_,?_,fun k hk=>?_,hs⟩
 ·rw[e2,alY,aj7 (a:=x % B ^ i*p / B ^ i) (by have:=akE p hr;omega),aj7 hs]
 ·rw[xQ,e2]
  have h2:=akm (x / B ^ i % B*p) B;generalize x / B ^ i % B*p=t at*
  generalize x % B ^ i*p / B ^ i=g at*
  rw[show g+t=(g+t % B)+t / B*B by rw[aj3 (t / B)];omega,alX _ _ (by omega),aj5 hs,aj2]
 ·rw[e]
  obtain⟨d,rfl⟩:∃d,i=k+(d+1):=⟨i-k-1,by omega⟩
  rw[show x / B ^ (k+(d+1)) % B*p*B ^ (k+(d+1))=(x / B ^ (k+(d+1)) % B*p*B ^ d*B)*B ^ k by rw[alT B k (d+1),alH];grind,alX _ _ (pw hB k),al2]
theorem afZ {B b:Nat} (hB:2≤B) (hb:0<b) (x i:Nat):(x / B ^ (i+1) % b*B+x / B ^ i % B) / b=x / b / B ^ i % B∨B<b:=by
 by_cases hbB:B<b
 ·exact .inr hbB
 left
 have e:x / b / B ^ i=x / B ^ i / b:=by rw[alG,alG,aj3]
 rw[e];have h0:=jv B x i;have h1:=akm (x / B ^ (i+1)) b;have h2:=akn (x / B ^ (i+1)) hb;have h3:=akn (x / B ^ i) (by omega:B>0)
 generalize x / B ^ i % B=d at*
 generalize x / B ^ (i+1) % b=r at*
 generalize x / B ^ (i+1) / b=q at*
 have e2:x / B ^ i=(r*B+d)+(q*B)*b:=by rw[h0,←h1];grind
 rw[e2,alX _ _ hb,al2,aj7];rw[akl hb];have:(r+1)*B≤b*B:=akh _ (by omega)
 grind
theorem MG (B b x i:Nat):(x / B ^ (i+1) % b*B+x / B ^ i % B) % b=x / B ^ i % b:=by
 have h0:=jv B x i;generalize x / B ^ i % B=d at*
 rw[h0,alY,al6,alZ,←al6,←alY]
theorem Xf {B:Nat} {p U V u1 v1 q:Nat} (hU:U<(u1+1)*p) (hV:v1*p≤V) (h:u1+1≤(q+1)*v1):U / V≤q:=by
 by_cases hv:V=0
 ·subst hv;simp
 have h1:(u1+1)*p≤(q+1)*v1*p:=akh _ h;have h2:(q+1)*v1*p≤(q+1)*V:=by rw[al7];exact al3 _ hV
 have:U / V<q+1:=(akl (by omega)).2 (by omega)
 omega
theorem Qb {p U V u2 v2 q:Nat} (hU:U<(u2+1)*p) (hV:v2*p≤V) (h:u2<q*v2):U / V<q:=by
 by_cases hv:V=0
 ·subst hv;simp;exact akk fun h0=>by subst h0;simp at h
 have h1:(u2+1)*p≤q*v2*p:=akh _ (by omega)
 have h2:q*v2*p≤q*V:=by rw[al7];exact al3 _ hV
 exact(akl (by omega)).2 (by omega)
theorem Qc {B p U V u2 v2 w q:Nat} (hU:u2*p≤U) (hV:V=v2*p+w) (hw:w<p) (hv2:B≤v2) (hq:q≤B) (h:q*v2≤u2):q≤U / V+1:=by
 cases q with
 |zero=>exact akA _
 |succ q=>
  have hp:0<p:=by omega
  have hVp:0<V:=by
   by_cases h0:v2=0
   ·omega
   ·have:=al8 (akk h0) hp
    omega
  have:q≤U / V:=by
   rw[ako hVp,hV];have h1:(q+1)*v2*p≤u2*p:=akh _ h;have h2:q*w≤q*p:=al3 _ (by omega)
   have h3:q*p≤v2*p:=akh _ (by omega)
   have e1:(q+1)*v2*p=q*(v2*p)+v2*p:=by grind
   have e2:q*(v2*p+w)=q*(v2*p)+q*w:=by grind
   omega
  exact Nat.succ_le_succ this
end Go.Eng.Dig
namespace Go.Eng.ElG
set_option linter.unusedSimpArgs false
set_option linter.unusedVariables false
structure Fld (α:Type)where
 z:α→Bool
 sub:α→α→α
 mul:α→α→α
 inv:α→α
abbrev bL (α:Type):=Nat→Nat→α
variable {α β:Type}
def findAt (F:Fld α) (M:bL α) (c n m:Nat):Nat:=match(ajO m).find? (fun r=>decide (n≤r)&&!F.z (M r c))with
 |some r=>r
 |none=>m
theorem wC {F:Fld α} {M:bL α} {c n m:Nat} (h:findAt F M c n m<m):n≤findAt F M c n m∧F.z (M (findAt F M c n m) c)=false:=by
 unfold findAt at h⊢;cases e:(ajO m).find? (fun r=>decide (n≤r)&&!F.z (M r c))with
 |none=>rw[e]at h;simp at h
 |some r=>
  have:=List.find?_some e;simpa using this
theorem wD (F:Fld α) (M:bL α) (c n m:Nat):findAt F M c n m≤m:=by
 unfold findAt;cases e:(ajO m).find? (fun r=>decide (n≤r)&&!F.z (M r c))with
 |none=>exact ajE _
 |some r=>have:=al9 e;simp at this;exact ama this
theorem wE {p:Nat→Bool} {n a:Nat} (ha:a<n) (hp:p a=true) (hm:∀i,i<a→p i=false):(ajO n).find? p=some a:=by
 rw[amb];exact⟨hp,a,by simpa using ha,by simp,fun j hj=>by simp[hm j hj]⟩
theorem wF {F:Fld α} {M:bL α} {c n m a:Nat} (ha:a<m) (hn:n≤a) (h0:F.z (M a c)=false) (hz:∀r,n≤r→r<a→F.z (M r c)=true):findAt F M c n m=a:=by
 unfold findAt;rw[wE ha (by simp[hn,h0]) (fun i hi=>by
  by_cases h:n≤i
  ·simp[hz i h hi]
  ·simp[h])]
theorem qX {F:Fld α} {M:bL α} {c n m:Nat} (hz:∀r,n≤r→r<m→F.z (M r c)=true):findAt F M c n m=m:=by
 unfold findAt;have:(ajO m).find? (fun r=>decide (n≤r)&&!F.z (M r c))=none:=by
  rw[amc];intro i hi;have hi:=aly.1 hi;by_cases h:n≤i
  ·simp[hz i h hi]
  ·simp[h]
 rw[this]
def fZ (M:bL α) (n a:Nat):bL α:=fun r=>if r=n then M a else if r=a then M n else M r
def dM (F:Fld α) (w:Nat) (M:bL α) (n:Nat) (s:α):bL α:=fun r=>if r=n then(fun j=>if j<w then F.mul (M n j) s else M n j)else M r
def dD (F:Fld α) (w:Nat) (M:bL α) (n c:Nat):bL α:=fun r=>if r=n∨F.z (M r c)=true then M r else(fun j=>if j<w then F.sub (M r j) (F.mul (M r c) (M n j))else M r j)
structure ES (α:Type)where
 M:bL α
 piv:List Nat
 heads:List α
 odd:Bool
def iU (F:Fld α) (w m:Nat) (s:ES α) (c:Nat):ES α:=
 if findAt F s.M c s.piv.length m=m then s else
  {M:=dD F w (dM F w (fZ s.M s.piv.length (findAt F s.M c s.piv.length m)) s.piv.length (F.inv (fZ s.M s.piv.length (findAt F s.M c s.piv.length m) s.piv.length c))) s.piv.length c
   piv:=s.piv++[c]
   heads:=s.heads++[fZ s.M s.piv.length (findAt F s.M c s.piv.length m) s.piv.length c]
   odd:=s.odd !=decide (s.piv.length≠findAt F s.M c s.piv.length m)}
def aN (F:Fld α) (w m:Nat) (M:bL α):Nat→ES α
 |0=>⟨M,[],[],false⟩
 |c+1=>iU F w m (aN F w m M c) c
theorem fE (F:Fld α) (w m:Nat) (M:bL α) (c:Nat):(aN F w m M c).piv.length≤m∧(aN F w m M c).piv.length≤c∧(aN F w m M c).heads.length=(aN F w m M c).piv.length:=by
 induction c with
 |zero=>exact⟨akA _,akA _,rfl⟩
 |succ c ih=>
  obtain⟨i1,i2,i3⟩:=ih;rw[aN,iU];split
  ·exact⟨i1,by omega,i3⟩
  ·rename_i hne
   have hle:=wD F (aN F w m M c).M c (aN F w m M c).piv.length m;have hlt:findAt F (aN F w m M c).M c (aN F w m M c).piv.length m<m:=by omega
   have hp:=(wC hlt).1;simp only[List.length_append,ajA,List.length_nil];omega
structure Hom (F:Fld α) (E:Fld β) (φ:α→β) (G:Nat→α→Prop):Prop where
 up:∀c x,G c x→G (c+1) x
 z:∀c x,G c x→E.z (φ x)=F.z x
 scale:∀c a s,G c a→G c s→F.z s=false→φ (F.mul a (F.inv s))=E.mul (φ a) (E.inv (φ s))∧G (c+1) (F.mul a (F.inv s))
 clear:∀c a t b s,G c a→G c t→G c b→G c s→F.z s=false→φ (F.sub a (F.mul t (F.mul b (F.inv s))))=E.sub (φ a) (E.mul (φ t) (φ (F.mul b (F.inv s))))∧G (c+1) (F.sub a (F.mul t (F.mul b (F.inv s))))
theorem Qd {F:Fld α} {E:Fld β} {M:bL α} {M':bL β} {c n m:Nat} (h:∀r,r<m→E.z (M' r c)=F.z (M r c)):findAt E M' c n m=findAt F M c n m:=by
 by_cases e:findAt F M c n m=m
 ·rw[e]
  refine qX fun r h1 h2=>?_;rw[h r h2];cases hz:F.z (M r c)with
  |true=>rfl
  |false=>
   exfalso
   unfold findAt at e;cases e2:(ajO m).find? (fun r=>decide (n≤r)&&!F.z (M r c))with
   |none=>
    have:=amc.1 e2 r (aly.2 h2);simp[h1,hz]at this
   |some q=>
    rw[e2]at e;have:=aly.1 (al9 e2);simp only at e;omega
 ·have hlt:findAt F M c n m<m:=by have:=wD F M c n m;omega
  obtain⟨g1,g2⟩:=wC hlt;refine wF hlt g1 (by rw[h _ hlt];exact g2) (fun r h1 h2=>?_)
  rw[h r (by omega)]
  cases hz:F.z (M r c)with
  |true=>rfl
  |false=>
   exfalso
   unfold findAt at h2 hlt;cases e2:(ajO m).find? (fun r=>decide (n≤r)&&!F.z (M r c))with
   |none=>rw[e2]at hlt;simp at hlt
   |some q=>
    rw[e2]at h2;have h3:=(amb.1 e2).2;obtain⟨i,hi,he,hall⟩:=h3;simp only[alQ]at he;have:=hall r (by simp only at h2;omega)
    simp[h1,hz]at this
theorem MH (F:Fld α) (w:Nat) (M:bL α) (n c:Nat) (s:α) {j:Nat} (hj:j<w):dD F w (dM F w M n s) n c n j=F.mul (M n j) s:=by
 unfold dD;rw[if_pos (.inl rfl)];unfold dM;rw[if_pos rfl,if_pos hj]
theorem MI (F:Fld α) (w:Nat) (M:bL α) {n c r:Nat} (s:α) (h:r≠n) (hz:F.z (M r c)=true):dD F w (dM F w M n s) n c r=M r:=by
 have e:dM F w M n s r=M r:=by unfold dM;rw[if_neg h]
 unfold dD;rw[e,if_pos (.inr hz)]
theorem MJ (F:Fld α) (w:Nat) (M:bL α) {n c r:Nat} (s:α) (h:r≠n) (hz:¬F.z (M r c)=true) {j:Nat} (hj:j<w):dD F w (dM F w M n s) n c r j=F.sub (M r j) (F.mul (M r c) (F.mul (M n j) s)):=by
 have e:dM F w M n s r=M r:=by unfold dM;rw[if_neg h]
 have e2:dM F w M n s n j=F.mul (M n j) s:=by unfold dM;rw[if_pos rfl,if_pos hj]
 unfold dD;rw[e,if_neg (fun g=>g.elim h hz)];show(if j<w then _ else _)=_;rw[if_pos hj,e2]
theorem iZ {F:Fld α} {E:Fld β} {φ:α→β} {G:Nat→α→Prop} (h:Hom F E φ G) {m w:Nat} {M:bL α} {M':bL β} (h0:∀r,r<m→∀j,j<w→G 0 (M r j)∧φ (M r j)=M' r j):∀c,c≤w→
 (∀r,r<m→∀j,j<w→G (aN F w m M c).piv.length ((aN F w m M c).M r j)∧φ ((aN F w m M c).M r j)=(aN E w m M' c).M r j)∧(aN E w m M' c).piv=(aN F w m M c).piv∧(aN E w m M' c).odd=(aN F w m M c).odd∧(aN E w m M' c).heads=(aN F w m M c).heads.map φ∧∀x∈(aN F w m M c).heads,∃k,k≤(aN F w m M c).piv.length∧G k x∧F.z x=false:=by
 intro c;induction c with
 |zero=>exact fun _=>⟨h0,rfl,rfl,rfl,fun x hx=>by cases hx⟩
 |succ c ih=>
  intro hc;obtain⟨i1,i2,i3,i4,i5⟩:=ih (by omega)
  have hz:∀r,r<m→E.z ((aN E w m M' c).M r c)=F.z ((aN F w m M c).M r c):=fun r hr=>by
   obtain⟨g1,g2⟩:=i1 r hr c (by omega)
   rw[←g2];exact h.z _ _ g1
  have hfa:=Qd (n:=(aN F w m M c).piv.length) hz;obtain⟨l1,l2,l3⟩:=fE F w m M c;rw[aN,aN,iU,iU,i2,hfa];by_cases e:findAt F (aN F w m M c).M c (aN F w m M c).piv.length m=m
  ·rw[if_pos e,if_pos e]
   exact⟨i1,i2,i3,i4,i5⟩
  ·rw[if_neg e,if_neg e]
   have hlt:findAt F (aN F w m M c).M c (aN F w m M c).piv.length m<m:=by have:=wD F (aN F w m M c).M c (aN F w m M c).piv.length m;omega
   obtain⟨g1,g2⟩:=wC hlt;generalize aN F w m M c=S at*
   generalize aN E w m M' c=S' at*
   generalize findAt F S.M c S.piv.length m=a at*
   have hl:(S.piv++[c]).length=S.piv.length+1:=by simp
   simp only[hl];generalize hn:S.piv.length=n at*
   have hs:∀r,r<m→∀j,j<w→G n (fZ S.M n a r j)∧φ (fZ S.M n a r j)=fZ S'.M n a r j:=fun r hr j hj=>by
    unfold fZ;by_cases h1:r=n
    ·rw[if_pos h1,if_pos h1];exact i1 a hlt j hj
    ·rw[if_neg h1,if_neg h1]
     by_cases h2:r=a
     ·rw[if_pos h2,if_pos h2];exact i1 n (by omega) j hj
     ·rw[if_neg h2,if_neg h2];exact i1 r hr j hj
   have hh:F.z (fZ S.M n a n c)=false:=by unfold fZ;rw[if_pos rfl];exact g2
   obtain⟨k1,k2⟩:=hs n (by omega) c (by omega)
   generalize hA:fZ S.M n a=A at*
   generalize hB:fZ S'.M n a=B at*
   refine⟨fun r hr j hj=>?_,trivial,by rw[i3],by rw[i4,List.map_append,←k2];rfl,fun x hx=>?_⟩
   ·obtain⟨p1,p2⟩:=hs r hr j hj
    obtain⟨q1,q2⟩:=hs n (by omega) j hj
    obtain⟨t1,t2⟩:=hs r hr c (by omega)
    show G (n+1) (dD F w (dM F w A n (F.inv (A n c))) n c r j)∧φ (dD F w (dM F w A n (F.inv (A n c))) n c r j)=dD E w (dM E w B n (E.inv (B n c))) n c r j;by_cases hr1:r=n
    ·subst hr1
     rw[MH F w A _ _ _ hj,MH E w B _ _ _ hj];have:=h.scale _ _ _ p1 k1 hh;rw[p2,k2]at this;exact⟨this.2,this.1⟩
    ·have hzz:E.z (B r c)=F.z (A r c):=by rw[←t2];exact h.z _ _ t1
     by_cases hz2:F.z (A r c)=true
     ·rw[MI F w A _ hr1 hz2,MI E w B _ hr1 (hzz.trans hz2)]
      exact⟨h.up _ _ p1,p2⟩
     ·rw[MJ F w A _ hr1 hz2 hj,MJ E w B _ hr1 (by rw[hzz];exact hz2) hj]
      have h1:=h.clear n _ _ _ _ p1 t1 q1 k1 hh;have h2:=(h.scale n _ _ q1 k1 hh).1;rw[h2,p2,t2,q2,k2]at h1;exact⟨h1.2,h1.1⟩
   ·rcases List.mem_append.1 hx with hx|hx
    ·obtain⟨k,e1,e2⟩:=i5 x hx
     exact⟨k,by omega,e2⟩
    ·rw[List.mem_singleton]at hx
     subst hx;exact⟨n,by omega,k1,hh⟩
def swl (l:List Nat) (n a:Nat):List Nat:=(l.set n (l.getD a 0)).set a (l.getD n 0)
theorem lq {l:List Nat} {n a r:Nat} (hn:n<l.length) (ha:a<l.length):(swl l n a).getD r 0=if r=n then l.getD a 0 else if r=a then l.getD n 0 else l.getD r 0:=by
 unfold swl;rw[ajQ,akc,akc];simp only[ake];by_cases h1:a=r
 ·subst h1
  rw[if_pos rfl,if_pos ha];by_cases h2:a=n
  ·subst h2;rw[if_pos rfl];rfl
  ·rw[if_neg h2,if_pos rfl];rfl
 ·rw[if_neg h1]
  by_cases h2:n=r
  ·subst h2;rw[if_pos rfl,if_pos hn,if_pos rfl];rfl
  ·rw[if_neg h2,if_neg (fun h=>h2 h.symm),if_neg (fun h=>h1 h.symm),ajQ]
theorem jQ {l:List Nat}:l.Nodup↔∀i j,i<l.length→j<l.length→l.getD i 0=l.getD j 0→i=j:=by
 have hg:∀i,(h:i<l.length)→l.getD i 0=l[i]:=fun i h=>by rw[ajQ,ajV h];rfl
 rw[List.Nodup,List.pairwise_iff_getElem];constructor
 ·intro h i j hi hj e
  rw[hg i hi,hg j hj]at e;rcases Nat.lt_trichotomy i j with h1|h1|h1
  ·exact absurd e (h i j hi hj h1)
  ·exact h1
  ·exact absurd e.symm (h j i hj hi h1)
 ·intro h i j hi hj hij e
  rw[←hg i hi,←hg j hj]at e;have:=h i j hi hj e;omega
def sgw (n a r:Nat):Nat:=if r=n then a else if r=a then n else r
theorem tY {l:List Nat} {n a r:Nat} (hn:n<l.length) (ha:a<l.length):(swl l n a).getD r 0=l.getD (sgw n a r) 0:=by
 rw[lq hn ha];unfold sgw;by_cases h1:r=n
 ·rw[if_pos h1,if_pos h1]
 ·rw[if_neg h1,if_neg h1]
  by_cases h2:r=a
  ·rw[if_pos h2,if_pos h2]
  ·rw[if_neg h2,if_neg h2]
theorem Br {n a r m:Nat} (hn:n<m) (ha:a<m) (hr:r<m):sgw n a r<m:=by
 unfold sgw;split
 ·exact ha
 ·split
  ·exact hn
  ·exact hr
theorem acL {n a i j:Nat} (h:sgw n a i=sgw n a j):i=j:=by
 unfold sgw at h;by_cases h1:i=n
 ·rw[if_pos h1]at h
  by_cases h2:j=n
  ·omega
  ·rw[if_neg h2]at h
   by_cases h3:j=a
   ·rw[if_pos h3]at h;omega
   ·rw[if_neg h3]at h;omega
 ·rw[if_neg h1]at h
  by_cases h4:i=a
  ·rw[if_pos h4]at h
   by_cases h2:j=n
   ·rw[if_pos h2]at h;omega
   ·rw[if_neg h2]at h
    by_cases h3:j=a
    ·omega
    ·rw[if_neg h3]at h;omega
  ·rw[if_neg h4]at h
   by_cases h2:j=n
   ·rw[if_pos h2]at h;omega
   ·rw[if_neg h2]at h
    by_cases h3:j=a
    ·rw[if_pos h3]at h;omega
    ·rw[if_neg h3]at h;exact h
theorem EZ {l:List Nat} {n a:Nat} (hn:n<l.length) (ha:a<l.length) (h:l.Nodup):(swl l n a).Nodup:=by
 rw[jQ]at h⊢;have hl:(swl l n a).length=l.length:=by simp[swl]
 rw[hl];intro i j hi hj e;rw[tY hn ha,tY hn ha]at e;exact acL (h _ _ (Br hn ha hi) (Br hn ha hj) e)
theorem MK {l:List Nat} {n a b:Nat} (hn:n<l.length) (ha:a<l.length) (h:b∈l):b∈swl l n a:=by
 have hl:(swl l n a).length=l.length:=by simp[swl]
 obtain⟨i,hi,rfl⟩:=List.getElem_of_mem h;have key:∀r,r<l.length→(swl l n a).getD r 0∈swl l n a:=fun r hr=>by
  rw[ajQ,ajV (by omega)];exact List.getElem_mem _
 have hg:l.getD i 0=l[i]:=by rw[ajQ,ajV hi];rfl
 by_cases h1:i=n
 ·have:=key a ha
  rw[lq hn ha]at this;subst h1;split at this
  ·rename_i e;subst e;rw[←hg];exact this
  ·rw[if_pos rfl]at this;rw[←hg];exact this
 ·by_cases h2:i=a
  ·have:=key n hn
   rw[lq hn ha,if_pos rfl]at this;subst h2;rw[←hg];exact this
  ·have:=key i hi
   rw[lq hn ha,if_neg h1,if_neg h2]at this;rw[←hg];exact this
end Go.Eng.ElG
namespace Go.Eng.YtmkagljofpddpaaGreatDoor
open Go.Proofs
set_option linter.unusedSimpArgs false
set_option linter.unusedVariables false
set_option maxHeartbeats 0
set_option maxRecDepth 100000
theorem aic:te3.bytes=8:=by rfl
theorem aie:te4.bytes=1:=by rfl
theorem zi:te3.size=1:=by rfl
theorem aif:te4.size=1:=by rfl
theorem af0:qD.size=1:=by rfl
theorem af2:qD.bytes=8:=by rfl
theorem vn:(∀(cs:List PV),CL.cnt (.pv cs)=cs.length)∧(∀(cs:List PV),CL.ncell (.pv cs)=cs.length)∧(∀(k:IntKind) (xs:List Int),CL.cnt (.ints k xs)=xs.length)∧(∀(k:IntKind) (xs:List Int),CL.ncell (.ints k xs)=xs.length)∧(∀(xs:List Bool),CL.cnt (.bools xs)=xs.length)∧(∀(xs:List Bool),CL.ncell (.bools xs)=xs.length)∧(∀(xs:List ByteArray),CL.cnt (.strs xs)=xs.length)∧(∀(xs:List ByteArray),CL.ncell (.strs xs)=xs.length)∧(∀(k:IntKind) (xss:List (List Int)),CL.cnt (.rows k xss)=xss.length)∧(∀(k:IntKind) (xss:List (List Int)),CL.ncell (.rows k xss)=xss.length)∧(∀(m:Nat) (rs:List (List PV)),CL.cnt (.recs m rs)=rs.length)∧(∀(m:Nat) (rs:List (List PV)),CL.ncell (.recs m rs)=rs.length*m)∧(∀(n:Nat) (f:Nat→PV),CL.cnt (.gen n f)=n)∧(∀(n:Nat) (f:Nat→PV),CL.ncell (.gen n f)=n)∧(∀(m n:Nat) (f:Nat→List PV),CL.cnt (.genr m n f)=n)∧(∀(m n:Nat) (f:Nat→List PV),CL.ncell (.genr m n f)=n*m):=
 ⟨fun _=>rfl,fun _=>rfl,fun _ _=>rfl,fun _ _=>rfl,fun _=>rfl,fun _=>rfl,fun _=>rfl,fun _=>rfl,fun _ _=>rfl,fun _ _=>rfl,fun _ _=>rfl,fun _ _=>rfl,fun _ _=>rfl,fun _ _=>rfl,fun _ _ _=>rfl,fun _ _ _=>rfl⟩
theorem vp:((∀(cs:List PV),CL.cnt (.pv cs)=cs.length)∧(∀(cs:List PV),CL.ncell (.pv cs)=cs.length)∧(∀(k:IntKind) (xs:List Int),CL.cnt (.ints k xs)=xs.length)∧(∀(k:IntKind) (xs:List Int),CL.ncell (.ints k xs)=xs.length)∧(∀(xs:List Bool),CL.cnt (.bools xs)=xs.length)∧(∀(xs:List Bool),CL.ncell (.bools xs)=xs.length)∧(∀(xs:List ByteArray),CL.cnt (.strs xs)=xs.length)∧(∀(xs:List ByteArray),CL.ncell (.strs xs)=xs.length)∧(∀(k:IntKind) (xss:List (List Int)),CL.cnt (.rows k xss)=xss.length)∧(∀(k:IntKind) (xss:List (List Int)),CL.ncell (.rows k xss)=xss.length)∧(∀(m:Nat) (rs:List (List PV)),CL.cnt (.recs m rs)=rs.length)∧(∀(m:Nat) (rs:List (List PV)),CL.ncell (.recs m rs)=rs.length*m)∧(∀(n:Nat) (f:Nat→PV),CL.cnt (.gen n f)=n)∧(∀(n:Nat) (f:Nat→PV),CL.ncell (.gen n f)=n)∧(∀(m n:Nat) (f:Nat→List PV),CL.cnt (.genr m n f)=n)∧(∀(m n:Nat) (f:Nat→List PV),CL.ncell (.genr m n f)=n*m))∧qD.size=1∧qD.bytes=8∧(∀n:Nat,((n:Int)).toNat=n)∧te3.bytes=8∧te4.bytes=1∧te3.size=1∧te4.size=1∧(∀n:Nat,n*1=n)∧(∀n:Nat,0+n=n)∧((false=true)=False)∧((true=false)=False):=
 ⟨vn,af0,af2,alR,aic,aie,zi,aif,aj9,aj2,by simp,by simp⟩
theorem vq:(∀(p:Prop) [Decidable p],(decide p=true)=p)∧(∀(p:Prop) [Decidable p],(decide p=false)=¬p)∧(∀b:Bool,(¬b=true)=(b=false))∧((!false)=true)∧((!true)=false)∧(∀p:Prop,(p∧p)=p)∧(∀p:Prop,(p∧True)=p)∧(∀p:Prop,(True∧p)=p)∧(∀(α:Type) (a:α) (l:List α),(a::l).length=l.length+1)∧(∀α:Type,([]:List α).length=0)∧((∀(cs:List PV),CL.cnt (.pv cs)=cs.length)∧(∀(cs:List PV),CL.ncell (.pv cs)=cs.length)∧(∀(k:IntKind) (xs:List Int),CL.cnt (.ints k xs)=xs.length)∧(∀(k:IntKind) (xs:List Int),CL.ncell (.ints k xs)=xs.length)∧(∀(xs:List Bool),CL.cnt (.bools xs)=xs.length)∧(∀(xs:List Bool),CL.ncell (.bools xs)=xs.length)∧(∀(xs:List ByteArray),CL.cnt (.strs xs)=xs.length)∧(∀(xs:List ByteArray),CL.ncell (.strs xs)=xs.length)∧(∀(k:IntKind) (xss:List (List Int)),CL.cnt (.rows k xss)=xss.length)∧(∀(k:IntKind) (xss:List (List Int)),CL.ncell (.rows k xss)=xss.length)∧(∀(m:Nat) (rs:List (List PV)),CL.cnt (.recs m rs)=rs.length)∧(∀(m:Nat) (rs:List (List PV)),CL.ncell (.recs m rs)=rs.length*m)∧(∀(n:Nat) (f:Nat→PV),CL.cnt (.gen n f)=n)∧(∀(n:Nat) (f:Nat→PV),CL.ncell (.gen n f)=n)∧(∀(m n:Nat) (f:Nat→List PV),CL.cnt (.genr m n f)=n)∧(∀(m n:Nat) (f:Nat→List PV),CL.ncell (.genr m n f)=n*m))∧qD.size=1∧qD.bytes=8∧(∀n:Nat,((n:Int)).toNat=n)∧te3.bytes=8∧te4.bytes=1∧te3.size=1∧te4.size=1∧(∀n:Nat,n*1=n)∧(∀n:Nat,0+n=n)∧((false=true)=False)∧((true=false)=False):=
 ⟨fun p _=>decide_eq_true_eq,fun p _=>propext decide_eq_false_iff_not,fun b=>by simp,rfl,rfl,and_self,and_true,true_and,fun _ _ _=>rfl,fun _=>rfl,vp⟩
def jZ:PSp:=fun xs K=>match xs with
 | [.bp h,.int .i64 e]=>K (.int .i64 (if h then e else 0))
 | [.bool h,.int .i64 e]=>K (.int .i64 (if h then e else 0))
 |_=>False
def bV:List Int→Int
 | []=>0
 |x::r=>if x=0 then bV r else x
theorem I4:∀(l:List Int),(∀i,i<l.length→l.getD i 0=0)→bV l=0:=by
 intro l;induction l with
 |nil=>intro _;rfl
 |cons x r ih=>
  intro h;have h0:=h 0 (by simp)
  simp at h0;subst h0;exact ih fun i hi=>by simpa using h (i+1) (by simpa using hi)
theorem Qe:∀(l:List Int) (k:Nat),k<l.length→(∀i,i<k→l.getD i 0=0)→l.getD k 0≠0→bV l=l.getD k 0:=by
 intro l;induction l with
 |nil=>intro k hk;simp at hk
 |cons x r ih=>
  intro k hk h hne;cases k with
  |zero=>simp at hne;simp[bV,hne]
  |succ k=>
   have h0:=h 0 (by omega)
   simp at h0;subst h0;have:=ih k (by simpa using hk) (fun i hi=>by simpa using h (i+1) (by omega)) (by simpa using hne)
   simp[bV,this]
theorem af3 {go:List PV→Bool} {L:List PV} {i:Nat} {x:PV} (h:L[i]? =some x) (hg:GoTo go L i):Nxt go L (L.take i) x:=⟨i,(List.getElem?_eq_some_iff.1 h).1,rfl,h,hg⟩
end Go.Eng.YtmkagljofpddpaaGreatDoor
namespace Go.Eng.YtmkagljofpddpaaGreatDoor
open Go.Proofs Go.Eng.Dig
set_option linter.unusedSimpArgs false
set_option linter.unusedVariables false
set_option maxHeartbeats 0
set_option maxRecDepth 100000
abbrev W:Nat:=18446744073709551616
theorem W2:2≤W:=by decide
abbrev wd (x:Nat):CL:=.ints .u64 (dl W x)
theorem af4 {S:Imm} {w:World} {ι:Ix} {p q r:PV} {vs:Array Value} (h:bH S w ι [p,q,r] vs):∃u v t,vs= #[u,v,t]∧Rep S w ι p u∧Rep S w ι q v∧Rep S w ι r t:=by
 have h0:=h.2 0 (by simp)
 have h1:=h.2 1 (by simp)
 have h2:=h.2 2 (by simp)
 have hsz:vs.size=3:=h.1.symm;refine⟨vs.getD 0 undef,vs.getD 1 undef,vs.getD 2 undef,?_,h0,h1,h2⟩;apply Array.ext (by simp[hsz])
 intro i g1 g2;have:i=0∨i=1∨i=2:=by omega
 rcases this with rfl|rfl|rfl<;>simp[Array.getD_eq_getD_getElem?,g1]
def wG:PSp:=fun xs K=>match xs with
 | [.int .u64 x,.int .u64 y,.int .u64 c]=>VC (0≤x∧0≤y∧0≤c∧c≤1)∧K (.tup [.int .u64 ((x+y+c) % 18446744073709551616),.int .u64 ((x+y+c) / 18446744073709551616)])
 |_=>False
theorem zk:IJ Tryz.prog 231 wG:=by
 intro xs K hk;unfold wG at hk;split at hk
 ·refine⟨_,hk.2,fun S w vs h=>?_⟩
  rename_i x y c;obtain⟨h1,h2,h3,h4⟩:=hk.1.get;obtain⟨u,v,t,rfl,r1,r2,r3⟩:=af4 h;cases r1;cases r2;cases r3
  refine⟨_,?_,.tup _ _ #[.int .u64 ((x+y+c) % 18446744073709551616),.int .u64 ((x+y+c) / 18446744073709551616)] rfl fun i hi=>?_⟩
  ·rw[run_callFunc_extern (e:=add64Entry) Tryz.func231 (by rfl) (by rfl) (by rfl) (by rfl),run_add64 _ _ _ h1 h2 h3 h4]
   rfl
  ·have:i=0∨i=1:=by simp at hi;omega
   rcases this with rfl|rfl<;>exact .int _ _ _
 ·exact hk.elim
def Tk:Array Value→Sem Value:=fun args=>do
 let(x,y,b)←Extern.MathBitsCarry.three "Sub64" args
 pure (Extern.MathBitsCarry.pair ((x+Extern.MathBitsCarry.m64-y-b) % Extern.MathBitsCarry.m64) (if x<y+b then 1 else 0))
theorem Qf {P:Program} (x y b:Nat) (hb:b≤1) (w:World):
 (Tk #[.int .u64 x,.int .u64 y,.int .u64 b]).run P w=
  .ok (.tuple #[.int .u64 (((x+18446744073709551616-y-b) % 18446744073709551616:Nat):Int),.int .u64 ((if x<y+b then 1 else 0:Nat):Int)]) w:=by
 have:b=0∨b=1:=by omega
 rcases this with rfl|rfl<;>rfl
def Bt:PSp:=fun xs K=>match xs with
 | [.int .u64 x,.int .u64 y,.int .u64 c]=>VC (0≤x∧x<18446744073709551616∧0≤y∧y<18446744073709551616∧0≤c∧c≤1)∧K (.tup [.int .u64 ((x-y-c) % 18446744073709551616),.int .u64 (if x<y+c then 1 else 0)])
 |_=>False
theorem I5:IJ Tryz.prog 233 Bt:=by
 intro xs K hk;unfold Bt at hk;split at hk
 ·refine⟨_,hk.2,fun S w vs h=>?_⟩
  rename_i x y c;obtain⟨h1,h1',h2,h2',h3,h4⟩:=hk.1.get;obtain⟨u,v,t,rfl,r1,r2,r3⟩:=af4 h;cases r1;cases r2;cases r3
  obtain⟨X,rfl⟩:=amd h1;obtain⟨Y,rfl⟩:=amd h2;obtain⟨C,rfl⟩:=amd h3;refine⟨_,?_,.tup _ _ #[.int .u64 (((X:Int)-Y-C) % 18446744073709551616),.int .u64 (if(X:Int)<Y+C then 1 else 0)] rfl fun i hi=>?_⟩
  ·rw[run_callFunc_extern (e:=Tk) Tryz.func233 (by rfl) (by rfl) (by rfl) (by rfl),Qf X Y C (by omega)]
   have e1:(((X+18446744073709551616-Y-C) % 18446744073709551616:Nat):Int)=((X:Int)-Y-C) % 18446744073709551616:=by omega
   have e2:((if X<Y+C then 1 else 0:Nat):Int)=if(X:Int)<Y+C then 1 else 0:=by split<;>split<;>omega
   rw[e1,e2];rfl
  ·have:i=0∨i=1:=by simp at hi;omega
   rcases this with rfl|rfl<;>exact .int _ _ _
 ·exact hk.elim
theorem Tn (l:List Int) (hl:l.length≤1000000000000):aD Tryz.prog 232 [.isl (.ints .u64 l) .none] (.isl (.ints .u64 (trm l)) .none):=by
 have t0:∀k,k<l.length→l.getD k 0=0→trm (l.take (k+1))=trm (l.take k):=fun k h h0=>IW h h0;have t1:∀k,k<l.length→l.getD k 0≠0→trm (l.take (k+1))=l.take (k+1):=fun k h h0=>IX h h0;have t2:trm (l.take 0)=l.take 0:=rfl;have t3:trm l=trm (l.take l.length):=by rw[alS]
 rw[t3];generalize trm=T at*
 refine ay (md:=1) (rf:=[]) mixed av aF Tryz.func232 (by rfl) (by rfl) (by rfl) ?_
 repeat'((conv=>whnf);first|(intro hq;(try simp only[vw]at hq);try exact ak hq)|apply aI|exact aj|apply nM|apply fM)
 all_goals((try apply vM);(try simp only[vq]at*);try omega)
 conv=>whnf
 refine aU (X:=Nat) (fun k=>k≤l.length∧T (l.take l.length)=T (l.take k)) (fun k=>[(3,.int .i64 k)]) (fun k=>[]) (fun k=>k) l.length ⟨aJ,mixed,av,aF,aR⟩ (by rfl) ⟨by omega,rfl⟩ ?_ ?_
 ·all_goals exact aW
 intro k ⟨hk,hT⟩;rw[hT];have hk1:((k:Int)-1).toNat=k-1:=by omega
 cases k with
 |zero=>
  repeat'((conv=>whnf);first|(intro hq;(try simp only[vw]at hq);try exact ak hq)|apply aI|exact aj|apply nM|apply fM)
  all_goals((try apply vM);(try simp only[vq]at*);try omega)
  all_goals(refine Sup.of ?_;rw[t2];simp[dH,CL.sub])
 |succ k=>
  rw[show((k+1:Nat):Int)=(k:Int)+1 by omega]at*
  have e:((k:Int)+1-1).toNat=k:=by omega
  repeat'((conv=>whnf);first|(intro hq;(try simp only[vw]at hq);try exact ak hq)|apply aI|exact aj|apply nM|apply fM)
  all_goals((try apply vM);(try simp only[vq]at*);try omega)
  ·rw[e]at hq
   refine⟨k,[],⟨⟨by omega,t0 k (by omega) hq⟩,by omega⟩,?_⟩
   rw[show(k:Int)=(k:Int)+1-1 by omega]
   all_goals exact aW
  ·rw[e]at hq
   refine Sup.of ?_;rw[t1 k (by omega) hq]
   simp[dH,CL.sub];try omega
def tZ:PSp:=fun xs K=>match xs with
 | [.isl (.ints .u64 l) .none]=>VC (l.length≤1000000000000)∧K (.isl (.ints .u64 (trm l)) .none)
 |_=>False
theorem rJ:POK Tryz.prog 232 tZ:=by
 intro xs K h;unfold tZ at h;split at h
 ·exact⟨_,h.2,Tn _ h.1.get⟩
 ·exact h.elim
abbrev vw (l:List Int):Nat:=vl W l
abbrev Dw (l:List Int):Prop:=Dg W l
theorem dN (x:Nat):vw (dl W x)=x:=xP W2 x
theorem bW (x:Nat):Dw (dl W x):=ahy W2 x
def iR (x y:Nat):Int:=if x<y then-1 else if y<x then 1 else 0
theorem Xg (x y:Nat) (hx:(dl W x).length≤1000000000000) (hy:(dl W y).length≤1000000000000):aD Tryz.prog 187 [.isl (wd x) .none,.isl (wd y) .none] (.int .i64 (iR x y)):=by
 have g1:=dz W2 x;have g2:=dz W2 y;have c1:(dl W x).length<(dl W y).length→iR x y= -1:=fun h=>by have:=Mr W2 h;unfold iR;rw[if_pos this]
 have c2:(dl W y).length<(dl W x).length→iR x y=1:=fun h=>by have:=Mr W2 h;unfold iR;rw[if_neg (by omega),if_pos this]
 have c3:∀i,x / W ^ (i+1)=y / W ^ (i+1)→(dl W x).getD i 0<(dl W y).getD i 0→iR x y= -1:=fun i h hd=>by
  rw[g1,g2]at hd;have:=Td W2 h (by omega)
  unfold iR;rw[if_pos this]
 have c4:∀i,x / W ^ (i+1)=y / W ^ (i+1)→(dl W y).getD i 0<(dl W x).getD i 0→iR x y=1:=fun i h hd=>by
  rw[g1,g2]at hd;have:=Td W2 h.symm (by omega)
  unfold iR;rw[if_neg (by omega),if_pos this]
 have c5:∀i,x / W ^ (i+1)=y / W ^ (i+1)→(dl W x).getD i 0=(dl W y).getD i 0→x / W ^ i=y / W ^ i:=fun i h hd=>by
  rw[g1,g2]at hd;exact cmp_eq h (by omega)
 have c6:x / W ^ 0=y / W ^ 0→iR x y=0:=fun h=>by
  simp at h;unfold iR;rw[if_neg (by omega),if_neg (by omega)]
 have c7:(dl W x).length=(dl W y).length→x / W ^ (dl W x).length=y / W ^ (dl W x).length:=fun h=>by
  rw[aj5 (fP W2 x),aj5 (by rw[h];exact fP W2 y)]
 unfold wd;generalize(fun i=>x / W ^ i)=X at*
 generalize dl W x=l at*
 generalize dl W y=m at*
 generalize iR x y=r at*
 refine ay (md:=1) (rf:=[]) mixed av aF Tryz.func187 (by rfl) (by rfl) (by rfl) ?_
 repeat'((conv=>whnf);first|(intro hq;(try simp only[vw]at hq);try exact ak hq)|apply aI|exact aj|apply nM|apply fM)
 all_goals((try apply vM);(try simp only[vq]at*);try omega)
 all_goals(try(first|(rw[c1 (by omega)];exact Sup.of rfl)|(rw[c2 (by omega)];exact Sup.of rfl)))
 conv=>whnf
 refine aU (X:=Nat) (fun k=>k≤l.length∧x / W ^ k=y / W ^ k) (fun k=>[(5,.int .i64 ((k:Int)-1))]) (fun k=>[]) (fun k=>k) l.length ⟨aJ,mixed,av,aF,aR⟩ (by rfl) ⟨by omega,c7 (by omega)⟩ ?_ ?_
 ·all_goals exact aW
 intro k ⟨hk,hT⟩;cases k with
 |zero=>
  rw[c6 hT];all_goals exact vU
 |succ k=>
  rw[show((k+1:Nat):Int)-1=(k:Int) by omega]
  repeat'((conv=>whnf);first|(intro hq;(try simp only[vw]at hq);try exact ak hq)|apply aI|exact aj|apply nM|apply fM)
  all_goals((try apply vM);(try simp only[vq]at*);try omega)
  all_goals first
   |(rw[c3 k hT (by assumption)];exact Sup.of rfl)
   |(rw[c4 k hT (by omega)];exact Sup.of rfl)
   |(refine⟨k,[],⟨⟨by omega,c5 k hT (by omega)⟩,by omega⟩,?_⟩
     repeat'((conv=>whnf);first|intro _|apply aI|exact aj|apply nM|apply fM)
     all_goals((try apply vM);(try simp only[vq]at*);try omega))
   |omega
def Bu:PSp:=fun xs K=>match xs with
 | [.isl (.ints .u64 l) .none,.isl (.ints .u64 m) .none]=>VC (Dw l∧Dw m∧l.length≤1000000000000∧m.length≤1000000000000)∧K (.int .i64 (iR (vw l) (vw m)))
 |_=>False
theorem CX:POK Tryz.prog 187 Bu:=by
 intro xs K hk;unfold Bu at hk;split at hk
 ·obtain⟨h1,h2,h3,h4⟩:=hk.1.get
  rename_i l m;obtain⟨x,rfl⟩:=jY h1;obtain⟨y,rfl⟩:=jY h2;refine⟨_,hk.2,?_⟩;rw[dN,dN];exact Xg x y h3 h4
 ·exact hk.elim
noncomputable def cpA:CPT:=aB 231 (aP wG) (aB 232 (tL tZ) noC)
theorem I6:bC Tryz.prog cpA:=au (nO zk) (au (pF rJ) aF)
theorem Tp (n x:Nat) (k:Nat) (h:k=n):ajZ k 0=dm W n 0 x 0:=by rw[h,xO,rH]
theorem iW {α:Type} (l:List α) (k:Nat) (h:k=l.length):(l.drop 0).take (k-0)=l:=by rw[h];simp
theorem af5 (x y i:Nat):((dl W x).getD i 0+(dl W y).getD i 0+(ca W x y i:Nat)) % 18446744073709551616=(((x+y) / W ^ i % W:Nat):Int)∧((dl W x).getD i 0+(dl W y).getD i 0+(ca W x y i:Nat)) / 18446744073709551616=(ca W x y (i+1):Nat):=by
 rw[dz W2,dz W2,←IY W2,←Mt W2];generalize x / W ^ i % W=a
 generalize y / W ^ i % W=b
 generalize ca W x y i=c
 unfold W;omega
theorem af6 (x y:Nat) (h:(dl W y).length≤(dl W x).length):trm ((dm W ((dl W x).length+1) (dl W x).length (x+y) 0).set (dl W x).length (ca W x y (dl W x).length:Nat))=dl W (x+y):=by
 have h1:=fP W2 x;have h2:y<W ^ (dl W x).length:=ajF (fP W2 y) (alW (by decide) h)
 have h3:=GA W2 x y (dl W x).length;rw[pK (by omega),Bq _ _ (ajE _),pO W2]
 ·rw[alH]
  unfold W at*;omega
 ·rw[←afW h1 h2,aj7 (by unfold W at*;omega)]
theorem Tq (x y:Nat) (hx:(dl W x).length≤900000000000) (hy:(dl W y).length≤900000000000):aD Tryz.prog 186 [.isl (wd x) .none,.isl (wd y) .none] (.isl (wd (x+y)) .none):=by
 by_cases hlt:(dl W x).length<(dl W y).length
 ·rw[ame]
  refine ay (md:=1) (rf:=[]) mixed av I6 Tryz.func186 (by rfl) (by rfl) (by rfl) ?_
  repeat'((conv=>whnf);first|(intro hq;(try simp only[vw]at hq);try exact ak hq)|apply aI|exact aj|apply nM|apply fM)
  all_goals((try apply vM);(try simp only[vq]at*);try omega)
  ·exact .inl trivial
  conv=>whnf
  refine aU (X:=Nat) (fun i=>i≤(dl W y).length) (fun i=>[(22,.int .i64 i),(6,.int .u64 (ca W y x i:Nat)),(7,.any),(8,.any)]) (fun i=>[(0,.cells (.ints .u64 (dm W ((dl W y).length+1) i (y+x) 0)) false)]) (fun i=>(dl W y).length-i) 0 ⟨aJ,mixed,av,I6,aR⟩ (by rfl) (by omega) ?_ ?_
  ·all_goals exact Es
  intro i hi;have hc:=GA W2 y x i;have hr1:=dz W2 y i;have hr2:=dz W2 x i;obtain⟨hA,hB⟩:=af5 y x i;have hz:(dl W x).length≤i→(dl W x).getD i 0=0:=fun h=>by rw[ajQ,alM h];rfl
  have hA0:(dl W x).length≤i→((dl W y).getD i 0+0+(ca W y x i:Nat)) % 18446744073709551616=(((y+x) / W ^ i % W:Nat):Int):=fun h=>by rw[hz h]at hA;exact hA
  have hB0:(dl W x).length≤i→((dl W y).getD i 0+0+(ca W y x i:Nat)) / 18446744073709551616=(ca W y x (i+1):Nat):=fun h=>by rw[hz h]at hB;exact hB
  have hm:=jP W ((dl W y).length+1) i (y+x) 0;by_cases e:i=(dl W y).length
  ·subst e
   repeat'((conv=>whnf);first|(intro hq;(try simp only[vw]at hq);try exact ak hq)|apply aI|exact aj|apply nM|apply fM)
   all_goals((try apply vM);(try simp only[vq]at*);try omega)
   all_goals first
    |(rw[iW _ _ (by rw[ake,hm];omega),af6 _ _ (by omega)]
      exact Sup.of rfl)
    |(rw[iW _ _ (by rw[ake,hm];omega),ake,hm];omega)
    |(rw[ake,hm];omega)
    |(rw[hm];omega)
  ·all_goals exact Et
 ·skip
  refine ay (md:=1) (rf:=[]) mixed av I6 Tryz.func186 (by rfl) (by rfl) (by rfl) ?_
  repeat'((conv=>whnf);first|(intro hq;(try simp only[vw]at hq);try exact ak hq)|apply aI|exact aj|apply nM|apply fM)
  all_goals((try apply vM);(try simp only[vq]at*);try omega)
  ·exact .inl trivial
  conv=>whnf
  refine aU (X:=Nat) (fun i=>i≤(dl W x).length) (fun i=>[(22,.int .i64 i),(6,.int .u64 (ca W x y i:Nat)),(7,.any),(8,.any)]) (fun i=>[(0,.cells (.ints .u64 (dm W ((dl W x).length+1) i (x+y) 0)) false)]) (fun i=>(dl W x).length-i) 0 ⟨aJ,mixed,av,I6,aR⟩ (by rfl) (by omega) ?_ ?_
  ·all_goals exact Es
  intro i hi;have hc:=GA W2 x y i;have hr1:=dz W2 x i;have hr2:=dz W2 y i;obtain⟨hA,hB⟩:=af5 x y i;have hz:(dl W y).length≤i→(dl W y).getD i 0=0:=fun h=>by rw[ajQ,alM h];rfl
  have hA0:(dl W y).length≤i→((dl W x).getD i 0+0+(ca W x y i:Nat)) % 18446744073709551616=(((x+y) / W ^ i % W:Nat):Int):=fun h=>by rw[hz h]at hA;exact hA
  have hB0:(dl W y).length≤i→((dl W x).getD i 0+0+(ca W x y i:Nat)) / 18446744073709551616=(ca W x y (i+1):Nat):=fun h=>by rw[hz h]at hB;exact hB
  have hm:=jP W ((dl W x).length+1) i (x+y) 0;by_cases e:i=(dl W x).length
  ·subst e
   repeat'((conv=>whnf);first|(intro hq;(try simp only[vw]at hq);try exact ak hq)|apply aI|exact aj|apply nM|apply fM)
   all_goals((try apply vM);(try simp only[vq]at*);try omega)
   all_goals first
    |(rw[iW _ _ (by rw[ake,hm];omega),af6 _ _ (by omega)]
      exact Sup.of rfl)
    |(rw[iW _ _ (by rw[ake,hm];omega),ake,hm];omega)
    |(rw[ake,hm];omega)
    |(rw[hm];omega)
  ·all_goals exact Et
def aod:PSp:=fun xs K=>match xs with
 | [.isl (.ints .u64 l) .none,.isl (.ints .u64 m) .none]=>VC (Dw l∧Dw m∧l.length≤900000000000∧m.length≤900000000000)∧K (.isl (wd (vw l+vw m)) .none)
 |_=>False
theorem acM:POK Tryz.prog 186 aod:=by
 intro xs K hk;unfold aod at hk;split at hk
 ·obtain⟨h1,h2,h3,h4⟩:=hk.1.get
  rename_i l m;obtain⟨x,rfl⟩:=jY h1;obtain⟨y,rfl⟩:=jY h2;refine⟨_,hk.2,?_⟩;rw[dN,dN];exact Tq x y h3 h4
 ·exact hk.elim
noncomputable def cpS:CPT:=aB 233 (aP Bt) (aB 232 (tL tZ) noC)
theorem Tt:bC Tryz.prog cpS:=au (nO I5) (au (pF rJ) aF)
theorem aii {x y:Nat} (h:y≤x) (i:Nat):((dl W x).getD i 0-(dl W y).getD i 0-(bo W x y i:Nat)) % 18446744073709551616=(((x-y) / W ^ i % W:Nat):Int)∧(if(dl W x).getD i 0<(dl W y).getD i 0+(bo W x y i:Nat)then(1:Int)else 0)=(bo W x y (i+1):Nat):=by
 rw[dz W2,dz W2,←Tf W2 h,CW W2];generalize x / W ^ i % W=a
 generalize y / W ^ i % W=b
 generalize bo W x y i=c
 refine⟨rfl,?_⟩;split<;>split<;>omega
theorem qY (x i:Nat):0≤(dl W x).getD i 0∧(dl W x).getD i 0<18446744073709551616:=by
 rw[dz W2];have:=akn (x / W ^ i) (by decide:W>0)
 unfold W at*;omega
theorem Tv (x y:Nat) (hx:(dl W x).length≤900000000000) (h:y≤x):aD Tryz.prog 188 [.isl (wd x) .none,.isl (wd y) .none] (.isl (wd (x-y)) .none):=by
 have hyx:(dl W y).length≤(dl W x).length:=lg W2 (amf h (fP W2 x));have hend:trm (dm W (dl W x).length (dl W x).length (x-y) 0)=dl W (x-y):=by
  rw[Bq _ _ (ajE _),pO W2];have:=fP W2 x;omega
 refine ay (md:=1) (rf:=[]) mixed av Tt Tryz.func188 (by rfl) (by rfl) (by rfl) ?_
 repeat'((conv=>whnf);first|(intro hq;(try simp only[vw]at hq);try exact ak hq)|apply aI|exact aj|apply nM|apply fM)
 all_goals((try apply vM);(try simp only[vq]at*);try omega)
 ·exact .inl trivial
 conv=>whnf
 refine aU (X:=Nat) (fun i=>i≤(dl W x).length) (fun i=>[(14,.int .i64 i),(6,.int .u64 (bo W x y i:Nat)),(7,.any),(8,.any)]) (fun i=>[(0,.cells (.ints .u64 (dm W (dl W x).length i (x-y) 0)) false)]) (fun i=>(dl W x).length-i) 0 ⟨aJ,mixed,av,Tt,aR⟩ (by rfl) (by omega) ?_ ?_
 ·repeat'((conv=>whnf);first|intro _|apply aI|exact aj|apply nM|apply fM)
  all_goals((try apply vM);(try simp only[vq]at*);try omega)
  ·rw[Mv];rfl
  ·exact Tp _ _ _ (by omega)
 intro i hi;have hc:=Qa W x y i;have hr1:=qY x i;have hr2:=qY y i;obtain⟨hA,hB⟩:=aii h i;have hz:(dl W y).length≤i→(dl W y).getD i 0=0:=fun h=>by rw[ajQ,alM h];rfl
 have hA0:(dl W y).length≤i→((dl W x).getD i 0-0-(bo W x y i:Nat)) % 18446744073709551616=(((x-y) / W ^ i % W:Nat):Int):=fun h=>by rw[hz h]at hA;exact hA
 have hB0:(dl W y).length≤i→(if(dl W x).getD i 0<0+(bo W x y i:Nat)then(1:Int)else 0)=(bo W x y (i+1):Nat):=fun h=>by rw[hz h]at hB;exact hB
 have hm:=jP W (dl W x).length i (x-y) 0;by_cases e:i=(dl W x).length
 ·subst e
  repeat'((conv=>whnf);first|(intro hq;(try simp only[vw]at hq);try exact ak hq)|apply aI|exact aj|apply nM|apply fM)
  all_goals((try apply vM);(try simp only[vq]at*);try omega)
  all_goals first
   |(rw[iW _ _ (by omega),hend]
     exact Sup.of rfl)
   |(rw[iW _ _ (by omega),hm];omega)
   |(rw[hm];omega)
 ·repeat'((conv=>whnf);first|(intro hq;(try simp only[vw]at hq);try exact ak hq)|apply aI|exact aj|apply nM|apply fM)
  all_goals((try apply vM);(try simp only[vq]at*);try omega)
  all_goals first
   |(rw[hm];omega)
   |(refine⟨by omega,by omega,by omega,by omega,by omega,by omega⟩)
   |(first|rw[hA,hB]|rw[hA0 (by omega),hB0 (by omega)]
     rw[pK (by omega) rfl]
     refine⟨i+1,[],⟨by omega,by omega⟩,?_⟩
     rw[show((i+1:Nat):Int)=(i:Int)+1 by omega]
     all_goals exact aW)
def Qg:PSp:=fun xs K=>match xs with
 | [.isl (.ints .u64 l) .none,.isl (.ints .u64 m) .none]=>VC (Dw l∧Dw m∧l.length≤900000000000∧vw m≤vw l)∧K (.isl (wd (vw l-vw m)) .none)
 |_=>False
theorem acN:POK Tryz.prog 188 Qg:=by
 intro xs K hk;unfold Qg at hk;split at hk
 ·obtain⟨h1,h2,h3,h4⟩:=hk.1.get
  rename_i l m;obtain⟨x,rfl⟩:=jY h1;obtain⟨y,rfl⟩:=jY h2;refine⟨_,hk.2,?_⟩;rw[dN,dN]at*;exact Tv x y h3 h4
 ·exact hk.elim
theorem dG (n:Nat) (h:n<18446744073709551616):IntKind.u64.wrap (n:Int)=n:=by
 simp only[IntKind.wrap,IntKind.bits,IntKind.signed];simp;omega
theorem xR (n:Nat):IntKind.u64.wrap (n:Int)=((n % 18446744073709551616:Nat):Int):=by
 simp only[IntKind.wrap,IntKind.bits,IntKind.signed];simp
theorem nE (m i:Nat) (h:m<18446744073709551616):(ajY IntKind.u64.bits (m:Int)).getLsbD i=(decide (i<64)&&m.testBit i):=by
 show(ajY 64 (m:Int)).getLsbD i=_;rw[BitVec.ofInt_natCast,BitVec.getLsbD_ofNat]
theorem acO {m n k:Nat} (hm:m<18446744073709551616) (hn:n<18446744073709551616) (h:∀i,i<64→k.testBit i=(m.testBit i&&n.testBit i)) (hk:k<18446744073709551616):
 IntKind.u64.wrap ((ajY IntKind.u64.bits (m:Int)&&& ajY IntKind.u64.bits (n:Int)).toNat:Int)=k:=by
 have e:(ajY IntKind.u64.bits (m:Int)&&& ajY IntKind.u64.bits (n:Int)).toNat=k:=by
  apply amg;intro i;rw[amh,BitVec.getLsbD_and,nE m i hm,nE n i hn];by_cases hi:i<64
  ·rw[h i hi];simp[hi]
  ·rw[ami (x:=k) (i:=i) (by have:=alW (n:=2) (by omega) (show 64≤i by omega);omega)];simp[hi]
 rw[e,dG _ hk]
theorem I7 {m n k:Nat} (hm:m<18446744073709551616) (hn:n<18446744073709551616) (h:∀i,i<64→k.testBit i=(m.testBit i||n.testBit i)) (hk:k<18446744073709551616):
 IntKind.u64.wrap ((ajY IntKind.u64.bits (m:Int)|||ajY IntKind.u64.bits (n:Int)).toNat:Int)=k:=by
 have e:(ajY IntKind.u64.bits (m:Int)|||ajY IntKind.u64.bits (n:Int)).toNat=k:=by
  apply amg;intro i;rw[amh,BitVec.getLsbD_or,nE m i hm,nE n i hn];by_cases hi:i<64
  ·rw[h i hi];simp[hi]
  ·rw[ami (x:=k) (i:=i) (by have:=alW (n:=2) (by omega) (show 64≤i by omega);omega)];simp[hi]
 rw[e,dG _ hk]
theorem rM (n:Nat) (h:n<18446744073709551616):IntKind.u64.wrap ((ajY IntKind.u64.bits (n:Int)&&& ajY IntKind.u64.bits 4294967295).toNat:Int)=((n % 4294967296:Nat):Int):=by
 refine acO (n:=4294967295) h (by omega) (fun i hi=>?_) (by omega)
 rw[show(4294967296:Nat)=2 ^ 32 from rfl,Nat.testBit_mod_two_pow,show(4294967295:Nat)=2 ^ 32-1 from rfl,Nat.testBit_two_pow_sub_one,Bool.and_comm]
theorem I8 (a:Int):0≤IntKind.u64.wrap a:=by
 simp only[IntKind.wrap,IntKind.bits,IntKind.signed];simp;omega
theorem p32:(2:Int) ^ amj 32=((4294967296:Nat):Int):=by decide
theorem Qh (x y:Nat) (hx:x<18446744073709551616) (hy:y<18446744073709551616):aD Tryz.prog 189 [.int .u64 x,.int .u64 y] (.tup [.int .u64 ((x*y / 18446744073709551616:Nat):Int),.int .u64 ((x*y % 18446744073709551616:Nat):Int)]):=by
 have d32:amj 32≤IntKind.u64.bits:=by decide
 obtain⟨bd,bt,bw,hhi⟩:=Lib.mul64_hi x y hx hy;have ba:=Lib.half_mul_le (a:=x / 4294967296) (b:=y / 4294967296) (by omega) (by omega)
 have bb:=Lib.half_mul_le (a:=x / 4294967296) (b:=y % 4294967296) (by omega) (by omega)
 have bc:=Lib.half_mul_le (a:=x % 4294967296) (b:=y / 4294967296) (by omega) (by omega)
 have e1:=rM x hx;have e2:=rM y hy;have e3:(x:Int) / 2 ^ amj 32=((x / 4294967296:Nat):Int):=by rw[p32];omega
 have e4:(y:Int) / 2 ^ amj 32=((y / 4294967296:Nat):Int):=by rw[p32];omega
 have dv:∀a:Nat,(a:Int) / 2 ^ amj 32=((a / 4294967296:Nat):Int):=fun a=>by rw[p32];omega
 have ml:∀a b:Nat,(a:Int)*(b:Int)=((a*b:Nat):Int):=fun a b=>(amk a b).symm;have ad:∀a b:Nat,(a:Int)+(b:Int)=((a+b:Nat):Int):=fun a b=>(aml a b).symm;have ba':x / 4294967296*(y / 4294967296)<18446744073709551616:=by omega
 have bb':x / 4294967296*(y % 4294967296)<18446744073709551616:=by omega
 have bc':x % 4294967296*(y / 4294967296)<18446744073709551616:=by omega
 have bh1:x / 4294967296*(y / 4294967296)+(x / 4294967296*(y % 4294967296)+x % 4294967296*(y % 4294967296) / 4294967296) / 4294967296<18446744073709551616:=by omega
 have bq:x*y / 18446744073709551616<18446744073709551616:=by rw[←hhi];omega
 have bh:x / 4294967296*(y / 4294967296)+(x / 4294967296*(y % 4294967296)+x % 4294967296*(y % 4294967296) / 4294967296) / 4294967296+((x / 4294967296*(y % 4294967296)+x % 4294967296*(y % 4294967296) / 4294967296) % 4294967296+x % 4294967296*(y / 4294967296)) / 4294967296<18446744073709551616:=by omega
 refine ay (md:=2) (rf:=[]) mixed av aF Tryz.func189 (by rfl) (by rfl) (by rfl) ?_
 repeat'((conv=>whnf);first|(intro hq;(try simp only[vw]at hq);try exact ak hq)|apply aI|exact aj|apply nM|apply fM)
 all_goals((try apply vM);(try simp only[vq]at*);try omega)
 all_goals first
  |exact I8 _
  |(simp only[e1,e2,dv,ml,ad,dG _ bd,dG _ bb',dG _ bt,rM _ bt,dG _ bc',dG _ bw,dG _ ba',dG _ bh1,dG _ bh,xR (x*y),hhi,dG _ bq]
    exact Sup.of rfl)
def rO:PSp:=fun xs K=>match xs with
 | [.int .u64 x,.int .u64 y]=>VC (0≤x∧x<18446744073709551616∧0≤y∧y<18446744073709551616)∧K (.tup [.int .u64 (x*y / 18446744073709551616),.int .u64 (x*y % 18446744073709551616)])
 |_=>False
theorem uf:POK Tryz.prog 189 rO:=by
 intro xs K hk;unfold rO at hk;split at hk
 ·obtain⟨h1,h2,h3,h4⟩:=hk.1.get
  rename_i x y;obtain⟨X,rfl⟩:=amd h1;obtain⟨Y,rfl⟩:=amd h3;refine⟨_,hk.2,?_⟩;have:=Qh X Y (by omega) (by omega)
  have e1:((X*Y / 18446744073709551616:Nat):Int)=(X:Int)*Y / 18446744073709551616:=by rw[←amk];omega
  have e2:((X*Y % 18446744073709551616:Nat):Int)=(X:Int)*Y % 18446744073709551616:=by rw[←amk];omega
  rw[e1,e2]at this;exact this
 ·exact hk.elim
noncomputable def cpM:CPT:=aB 189 (aP rO) (aB 231 (aP wG) (aB 232 (tL tZ) noC))
theorem I9:bC Tryz.prog cpM:=au (aC uf) (au (nO zk) (au (pF rJ) aF))
theorem acP {n x y i j:Nat} (h:i+j<n) {d:Int} (hd:d=((tj W x y i (j+1) / W ^ (i+j) % W:Nat):Int)):(dm W n (i+j) (tj W x y i j) (x % W ^ i*y)).set (i+j) d=dm W n (i+(j+1)) (tj W x y i (j+1)) (x % W ^ i*y):=by
 rw[IU (x':=tj W x y i (j+1)) (z':=x % W ^ i*y) (fun k hk _=>(afY W2 x y i j k hk).symm) (fun _ _ _=>rfl),pK h hd];rfl
theorem MN (n i x:Nat):dm W n i x x=dn W n x:=by
 unfold dm dn;refine alN fun k hk=>?_;split<;>rfl
theorem af7 {n x y i m:Nat} (hy:y<W ^ m) (h:i+m<n):(dm W n (i+m) (tj W x y i m) (x % W ^ i*y)).set (i+m) (cm W x y i m:Nat)=dn W n (x % W ^ (i+1)*y):=by
 have hl:=aaD W2 x y i m;have e:=acK W2 x i hy;have o1:=IZ W2 x i hy;have hT:x % W ^ (i+1)*y<W ^ (i+m+1):=by
  have:=IZ W2 x (i+1) hy;rw[show i+1+m=i+m+1 by omega]at this
  exact(amm (pw W2 _)).1 this
 have hd:((cm W x y i m:Nat):Int)=((x % W ^ (i+1)*y / W ^ (i+m) % W:Nat):Int):=by
  rw[e]at hl⊢;rw[aj7 hl]
 rw[Tg x i hy,pK h hd];rw[←MN n (i+m+1)];refine IU (fun _ _ _=>rfl) fun k hk _=>?_;have g1:x % W ^ i*y<W ^ (i+m):=(amm (pw W2 _)).1 o1;have g2:W ^ (i+m)≤W ^ k:=alW (by decide) (by omega)
 have g3:W ^ (i+m+1)≤W ^ k:=alW (by decide) hk
 rw[aj5 (by omega),aj5 (by omega)]
theorem aij (x y i j n:Nat) (h:i+j<n):∃P O:Int,(dl W x).getD i 0*(dl W y).getD j 0=P∧(dm W n (i+j) (tj W x y i j) (x % W ^ i*y)).getD (i+j) 0=O∧0≤P∧P≤340282366920938463426481119284349108225∧0≤O∧O<18446744073709551616∧
 P / 18446744073709551616+(P % 18446744073709551616+O+0) / 18446744073709551616+((P % 18446744073709551616+O+0) % 18446744073709551616+(cm W x y i j:Nat)+0) / 18446744073709551616=(cm W x y i (j+1):Nat)∧
 ((P % 18446744073709551616+O+0) % 18446744073709551616+(cm W x y i j:Nat)+0) % 18446744073709551616=((tj W x y i (j+1) / W ^ (i+j) % W:Nat):Int):=by
 refine⟨((x / W ^ i % W*(y / W ^ j % W):Nat):Int),((x % W ^ i*y / W ^ (i+j) % W:Nat):Int),?_,?_,?_⟩
 ·rw[dz W2,dz W2,amk]
 ·rw[oK _ _ _ _ _ _ h,if_neg (by omega)]
 ·rw[←ME W2,←afX W2]
  have h1:=akn (x / W ^ i) (by decide:W>0)
  have h2:=akn (y / W ^ j) (by decide:W>0)
  have h3:=akn (x % W ^ i*y / W ^ (i+j)) (by decide:W>0)
  have h4:=akM (show x / W ^ i % W≤18446744073709551615 by unfold W at*;omega) (show y / W ^ j % W≤18446744073709551615 by unfold W at*;omega)
  generalize x / W ^ i % W*(y / W ^ j % W)=a at*
  generalize x % W ^ i*y / W ^ (i+j) % W=b at*
  generalize cm W x y i j=c at*
  unfold W at*;refine⟨by omega,by omega,by omega,by omega,by omega,by omega⟩
theorem Tw (x y:Nat) (hx:(dl W x).length≤400000000000) (hy:(dl W y).length≤400000000000):aD Tryz.prog 191 [.isl (wd x) .none,.isl (wd y) .none] (.isl (wd (x*y)) .none):=by
 have hly:=fP W2 y;have hend:trm (dn W ((dl W x).length+(dl W y).length) (x % W ^ (dl W x).length*y))=dl W (x*y):=by
  rw[aj7 (fP W2 x),pO W2];rw[alT];exact amn (fP W2 x) hly
 refine ay (md:=1) (rf:=[]) mixed av I9 Tryz.func191 (by rfl) (by rfl) (by rfl) ?_
 repeat'((conv=>whnf);first|(intro hq;(try simp only[vw]at hq);try exact ak hq)|apply aI|exact aj|apply nM|apply fM)
 all_goals((try apply vM);(try simp only[vq]at*);try omega)
 ·exact .inl trivial
 conv=>whnf
 refine aU (X:=Nat) (fun i=>i≤(dl W x).length) (fun i=>[(22,.int .i64 i)]) (fun i=>[(0,.cells (.ints .u64 (dn W ((dl W x).length+(dl W y).length) (x % W ^ i*y))) false)]) (fun i=>(dl W x).length-i) 0 ⟨aJ,mixed,av,I9,aR⟩ (by rfl) (by omega) ?_ ?_
 ·repeat'((conv=>whnf);first|intro _|apply aI|exact aj|apply nM|apply fM)
  all_goals((try apply vM);(try simp only[vq]at*);try omega)
  rw[show x % W ^ 0*y=0 by rw[amo,akr,akD],rH,show(((dl W x).length:Int)+((dl W y).length:Int)).toNat=(dl W x).length+(dl W y).length by omega]
 intro i hi;have hm0:=fQ W ((dl W x).length+(dl W y).length) (x % W ^ i*y);by_cases e:i=(dl W x).length
 ·subst e
  repeat'((conv=>whnf);first|(intro hq;(try simp only[vw]at hq);try exact ak hq)|apply aI|exact aj|apply nM|apply fM)
  all_goals((try apply vM);(try simp only[vq]at*);try omega)
  ·rw[iW _ _ (by omega)];omega
  ·rw[iW _ _ (by omega),hend]
   exact Sup.of rfl
 ·have hr1:=qY x i
  repeat'((conv=>whnf);first|(intro hq;(try simp only[vw]at hq);try exact ak hq)|apply aI|exact aj|apply nM|apply fM)
  all_goals((try apply vM);(try simp only[vq]at*);try omega)
  conv=>whnf
  refine aU (X:=Nat) (fun j=>j≤(dl W y).length) (fun j=>[(29,.int .i64 j),(8,.int .u64 (cm W x y i j:Nat))]) (fun j=>[(0,.cells (.ints .u64 (dm W ((dl W x).length+(dl W y).length) (i+j) (tj W x y i j) (x % W ^ i*y))) false)]) (fun j=>(dl W y).length-j) 0 ⟨aJ,mixed,av,I9,aR⟩ (by rfl) (by omega) ?_ ?_
  ·repeat'((conv=>whnf);first|intro _|apply aI|exact aj|apply nM|apply fM)
   all_goals((try apply vM);(try simp only[vq]at*);try omega)
   ·rw[MC];rfl
   ·rw[Mx,MN]
  intro j hj;have hm:=jP W ((dl W x).length+(dl W y).length) (i+j) (tj W x y i j) (x % W ^ i*y);have hc:cm W x y i j<18446744073709551616:=aaD W2 x y i j;have hij:((i:Int)+(j:Int)).toNat=i+j:=by omega
  by_cases e:j=(dl W y).length
  ·subst e
   repeat'((conv=>whnf);first|(intro hq;(try simp only[vw]at hq);try exact ak hq)|apply aI|exact aj|apply nM|apply fM)
   all_goals((try apply vM);(try simp only[vq]at*);try omega)
   rw[hij,af7 hly (by omega)]
   refine⟨i+1,[],⟨by omega,by omega⟩,?_⟩
   rw[show((i+1:Nat):Int)=(i:Int)+1 by omega]
   all_goals exact aW
  ·have hr2:=qY y j
   obtain⟨P,O,eP,eO,p0,p1,o0,o1,E1,E2⟩:=aij x y i j ((dl W x).length+(dl W y).length) (by omega)
   repeat'((conv=>whnf);first|(intro hq;(try simp only[vw]at hq);try exact ak hq)|apply aI|exact aj|apply nM|apply fM)
   all_goals((try apply vM);(try simp only[vq]at*);try omega)
   all_goals(try rw[hij])
   all_goals(try rw[eP,eO])
   all_goals(try omega)
   all_goals first
    |(rw[E2,acP (by omega) rfl,E1]
      refine⟨j+1,[],⟨by omega,by omega⟩,?_⟩
      rw[show((j+1:Nat):Int)=(j:Int)+1 by omega]
      all_goals exact aW)
    |skip
def Qi:PSp:=fun xs K=>match xs with
 | [.isl (.ints .u64 l) .none,.isl (.ints .u64 m) .none]=>VC (Dw l∧Dw m∧l.length≤400000000000∧m.length≤400000000000)∧K (.isl (wd (vw l*vw m)) .none)
 |_=>False
theorem acQ:POK Tryz.prog 191 Qi:=by
 intro xs K hk;unfold Qi at hk;split at hk
 ·obtain⟨h1,h2,h3,h4⟩:=hk.1.get
  rename_i l m;obtain⟨x,rfl⟩:=jY h1;obtain⟨y,rfl⟩:=jY h2;refine⟨_,hk.2,?_⟩;rw[dN,dN];exact Tw x y h3 h4
 ·exact hk.elim
theorem Tx (n:Int) (h: -9223372036854775808≤n∧n≤9223372036854775807):aD Tryz.prog 190 [.int .i64 n] (.int .u64 (n.natAbs:Nat)):=by
 refine ay (md:=2) (rf:=[]) mixed av aF Tryz.func190 (by rfl) (by rfl) (by rfl) ?_
 repeat'((conv=>whnf);first|(intro hq;(try simp only[vw]at hq);try exact ak hq)|apply aI|exact aj|apply nM|apply fM)
 all_goals((try apply vM);(try simp only[vq]at*);try omega)
 all_goals(refine Sup.of (congrArg (PV.int .u64) ?_);simp only[IntKind.wrap,IntKind.bits,IntKind.signed];simp;omega)
def GD:PSp:=fun xs K=>match xs with
 | [.int .i64 n]=>VC (-9223372036854775808≤n∧n≤9223372036854775807)∧K (.int .u64 (n.natAbs:Nat))
 |_=>False
theorem MO:POK Tryz.prog 190 GD:=by
 intro xs K h;unfold GD at h;split at h
 ·exact⟨_,h.2,Tx _ h.1.get⟩
 ·exact h.elim
def smI (n:Int):Prop:= -9223372036854775808≤n∧n≤9223372036854775807
instance (n:Int):Decidable (smI n):=by unfold smI;infer_instance
def ivl (s:Int) (w:List Int):Int:=match w with| []=>s|_=>if s<0 then-(vw w:Int)else(vw w:Int)
theorem cB {P:Program} {g:FuncId} {xs ys:List PV} {u:PV} (h:∀(S:Imm) (w:World) (vs:Array Value),bH S w noI xs vs→bH S w noI ys vs) (hp:aD P g ys u):aD P g xs u:=
 ⟨hp.1,fun S w vs hg hi hA=>hp.2 S w vs hg hi (h S w vs hA)⟩
theorem acR {S:Imm} {w:World} {ι:Ix} {c:CL} {v:Value} (h:Rep S w ι (.nnl c) v):(c.cnt=0→Rep S w ι .nils v)∧(c.cnt≠0→Rep S w ι (.isl c .none) v):=by
 cases h with
 |nnl0 _ _ h=>exact⟨fun _=>.nils _,fun h'=>absurd h h'⟩
 |nnl1 _ _ b off cap h0 hc hs h=>exact⟨fun h'=>absurd h' (by omega),fun _=>.isl _ _ _ b off cap hc hs h (fun h=>by cases h) (fun k h=>by cases h)⟩
noncomputable def aik:CPT:=aB 190 (aP GD) noC
theorem CY:bC Tryz.prog aik:=au (aC MO) aF
theorem CZ {S:Imm} {w:World} {p q:PV} (h:∀v,Rep S w noI p v→Rep S w noI q v) {vs:Array Value} (hA:bH S w noI [p] vs):bH S w noI [q] vs:=
 ⟨hA.1,fun i hi=>by
  have:i=0:=by simp at hi;omega
  subst this;exact h _ (hA.2 0 (by simp))⟩
theorem Xh (n:Int) (h:smI n):aD Tryz.prog 184 [.agg [.int .i64 n,.nils]] (.tup [.bp (decide (n<0)),.isl (wd n.natAbs) .none]):=by
 unfold smI at h;by_cases h0:n=0
 ·subst h0
  refine ay (md:=1) (rf:=[]) mixed av CY Tryz.func184 (by rfl) (by rfl) (by rfl) ?_
  repeat'((conv=>whnf);first|(intro hq;(try simp only[vw]at hq);try exact ak hq)|apply aI|exact aj|apply nM|apply fM)
  all_goals((try apply vM);(try simp only[vq]at*);try omega)
  refine Sup.via ?_;all_goals exact mM
 ·
  refine ay (md:=1) (rf:=[]) mixed av CY Tryz.func184 (by rfl) (by rfl) (by rfl) ?_
  repeat'((conv=>whnf);first|(intro hq;(try simp only[vw]at hq);try exact ak hq)|apply aI|exact aj|apply nM|apply fM)
  all_goals((try apply vM);(try simp only[vq]at*);try omega)
  have e:wd n.natAbs=.ints .u64 [(n.natAbs:Int)]:=by
   unfold wd;rw[nQ W2 (x:=n.natAbs) (by omega) (show n.natAbs<W by unfold W;omega)]
  rw[e];refine Sup.via ?_;all_goals exact mM
theorem Tz (s:Int) (x:Nat) (h:x≠0):aD Tryz.prog 184 [.agg [.int .i64 s,.isl (wd x) .none]] (.tup [.bp (decide (s<0)),.isl (wd x) .none]):=by
 have:0<(dl W x).length:=akk fun h'=>h ((gL W2).1 (ak6.1 h'));refine ay (md:=1) (rf:=[]) mixed av CY Tryz.func184 (by rfl) (by rfl) (by rfl) ?_
 all_goals exact vV
structure NI where
 s:Int
 w:List Int
abbrev niV (a:NI):PV:=.agg [.int .i64 a.s,.nnl (.ints .u64 a.w)]
def NI.val (a:NI):Int:=ivl a.s a.w
def NI.OK (a:NI):Prop:=(a.w=[]∧smI a.s)∨∃x,a.w=dl W x∧9223372036854775808≤x∧(a.s=1∨a.s= -1)
theorem NI.val_sm {s:Int}:NI.val ⟨s,[]⟩=s:=rfl
theorem NI.val_big {s:Int} {x:Nat} (hx:x≠0):NI.val ⟨s,dl W x⟩=if s<0 then-(x:Int)else x:=by
 have hv:=dN x;cases e:dl W x with
 |nil=>exact absurd ((gL W2).1 e) hx
 |cons d l=>
  rw[e]at hv;unfold NI.val ivl;simp only[hv]
theorem NI.neg_iff {a:NI} (h:a.OK):a.s<0↔a.val<0:=by
 obtain⟨s,w⟩:=a;rcases h with⟨h1,h2⟩|⟨x,h1,h2,h3⟩
 ·simp only at h1;subst h1;exact Iff.rfl
 ·simp only at h1 h3;subst h1
  rw[NI.val_big (by omega)]
  simp only;split<;>omega
def mdN (neg:Bool) (x:Nat):NI:=if x<9223372036854775808 then⟨if neg then-x else x,[]⟩else⟨if neg then-1 else 1,dl W x⟩
theorem acS (neg:Bool) (x:Nat):(mdN neg x).val=if neg then-(x:Int)else x:=by
 unfold mdN;split
 ·rw[NI.val_sm]
 ·rw[NI.val_big (by omega)]
  cases neg<;>simp
theorem Bv (neg:Bool) (x:Nat):(mdN neg x).OK:=by
 unfold mdN NI.OK smI;split
 ·left;cases neg<;>simp<;>omega
 ·right;exact⟨x,rfl,by omega,by cases neg<;>simp⟩
theorem pQ {S:Imm} {w:World} {ι:Ix} {a:NI} {v:Value} (h:Rep S w ι (niV a) v):(a.w=[]→Rep S w ι (.agg [.int .i64 a.s,.nils]) v)∧(a.w≠[]→Rep S w ι (.agg [.int .i64 a.s,.isl (.ints .u64 a.w) .none]) v):=by
 cases h with
 |agg _ _ vs hl h=>
  have h0:=h 0 (by simp)
  have h1:=acR (h 1 (by simp))
  constructor
  ·intro hs
   refine .agg _ _ vs hl fun i hi=>?_;have:i=0∨i=1:=by simp at hi;omega
   rcases this with rfl|rfl
   ·exact h0
   ·exact h1.1 (by rw[hs];rfl)
  ·intro hs
   refine .agg _ _ vs hl fun i hi=>?_;have:i=0∨i=1:=by simp at hi;omega
   rcases this with rfl|rfl
   ·exact h0
   ·exact h1.2 (by simp only[CL.cnt];exact fun h=>hs (ak6.1 h))
theorem Xi (a:NI) (h:a.OK):aD Tryz.prog 184 [niV a] (.tup [.bp (decide (a.s<0)),.isl (wd a.val.natAbs) .none]):=by
 obtain⟨s,w⟩:=a;rcases h with⟨h1,h2⟩|⟨x,h1,h2,h3⟩
 ·simp only at h1;subst h1
  exact cB (fun S w vs hA=>CZ (fun v hv=>(pQ hv).1 rfl) hA) (Xh s h2)
 ·simp only at h1;subst h1
  have e:(NI.val ⟨s,dl W x⟩).natAbs=x:=by
   rw[NI.val_big (by omega)];split<;>omega
  rw[e];exact cB (fun S w vs hA=>CZ (fun v hv=>(pQ hv).2 (fun h0=>by have:=(gL W2).1 h0;omega)) hA) (Tz s x (by omega))
theorem E5 (neg:Bool) (x:Nat) (hl:(dl W x).length≤1000000000000):aD Tryz.prog 185 [.bp neg,.isl (wd x) .none] (niV (mdN neg x)):=by
 by_cases h0:x=0
 ·subst h0
  refine ay (md:=1) (rf:=[]) mixed av aF Tryz.func185 (by rfl) (by rfl) (by rfl) ?_
  repeat'((conv=>whnf);first|(intro hq;(try simp only[vw]at hq);try exact ak hq)|apply aI|exact aj|apply nM|apply fM)
  all_goals((try apply vM);(try simp only[vq]at*);try omega)
  all_goals
   have em:mdN neg 0=⟨0,[]⟩:=by unfold mdN;rw[if_pos (by omega)];cases neg<;>rfl
   rw[em];refine Sup.via ?_;all_goals exact aW
 by_cases h1:x<18446744073709551616
 ·have e:wd x=.ints .u64 [(x:Int)]:=by
   unfold wd;rw[nQ W2 h0 h1]
  have ew:dl W x=[(x:Int)]:=nQ W2 h0 h1;rw[e];refine ay (md:=1) (rf:=[]) mixed av aF Tryz.func185 (by rfl) (by rfl) (by rfl) ?_
  repeat'((conv=>whnf);first|(intro hq;(try simp only[vw]at hq);try exact ak hq)|apply aI|exact aj|apply nM|apply fM)
  all_goals((try apply vM);(try simp only[vq]at*);try omega)
  all_goals(rw[show([(x:Int)].getD (amj 0) 0)=(x:Int)from rfl]at*)
  all_goals(try omega)
  all_goals(cases neg)
  all_goals(try(exfalso;simp_all;done))
  all_goals
   by_cases hs:x<9223372036854775808
  all_goals(try(exfalso;omega))
  all_goals(unfold mdN;first|rw[if_pos hs]|rw[if_neg hs,ew])
  all_goals(refine Sup.via ?_;repeat'((conv=>whnf);first|intro _|apply aI|exact aj|apply nM|apply fM);all_goals((try apply vM);(try simp only[vq]at*);try omega))
  all_goals(try simp)
 ·have hlen:=wB W2 (x:=x) (k:=1) (by unfold W;omega)
  refine ay (md:=1) (rf:=[]) mixed av aF Tryz.func185 (by rfl) (by rfl) (by rfl) ?_
  repeat'((conv=>whnf);first|(intro hq;(try simp only[vw]at hq);try exact ak hq)|apply aI|exact aj|apply nM|apply fM)
  all_goals((try apply vM);(try simp only[vq]at*);try omega)
  all_goals(cases neg)
  all_goals(try(exfalso;simp_all;done))
  all_goals(unfold mdN;rw[if_neg (by omega)])
  all_goals(refine Sup.via ?_;repeat'((conv=>whnf);first|intro _|apply aI|exact aj|apply nM|apply fM);all_goals((try apply vM);(try simp only[vq]at*);try omega))
  all_goals(try simp)
def xS:PSp:=fun xs K=>match xs with
 | [.bp neg,.isl (.ints .u64 l) .none]=>VC (Dw l∧l.length≤1000000000000)∧K (niV (mdN neg (vw l)))
 | [.bool neg,.isl (.ints .u64 l) .none]=>VC (Dw l∧l.length≤1000000000000)∧K (niV (mdN neg (vw l)))
 |_=>False
theorem xU:POK Tryz.prog 185 xS:=by
 intro xs K hk;unfold xS at hk;split at hk
 ·obtain⟨h1,h2⟩:=hk.1.get
  rename_i neg l;obtain⟨x,rfl⟩:=jY h1;refine⟨_,hk.2,?_⟩;rw[dN];exact E5 neg x h2
 ·obtain⟨h1,h2⟩:=hk.1.get
  rename_i neg l;obtain⟨x,rfl⟩:=jY h1;refine⟨_,hk.2,?_⟩;rw[dN];exact cB (ys:=[.bp neg,.isl (wd x) .none]) (fun S w vs hA=>⟨hA.1,fun i hi=>by
   have:i=0∨i=1:=by simp at hi;omega
   rcases this with rfl|rfl
   ·have:=hA.2 0 (by simp)
    generalize vs.getD 0 undef=v at this⊢
    simp only[aH]at this⊢;cases this
    exact .bp _ _
   ·exact hA.2 1 (by simp)⟩) (E5 neg x h2)
 ·exact hk.elim
def nrm (v:Int):NI:=mdN (decide (v<0)) v.natAbs
theorem bA (v:Int):(nrm v).val=v:=by
 unfold nrm;rw[acS];by_cases h:v<0
 ·rw[decide_eq_true h,if_pos rfl];omega
 ·rw[decide_eq_false h,if_neg (by simp)];omega
theorem bO (v:Int):(nrm v).OK:=Bv _ _
theorem Ja (b:Bool):mdN b 0=⟨0,[]⟩:=by unfold mdN;rw[if_pos (by omega)];cases b<;>rfl
theorem mP {b:Bool} {x:Nat} {v:Int} (h:v=if b then-(x:Int)else x):mdN b x=nrm v:=by
 unfold nrm;by_cases h0:x=0
 ·subst h0
  have:v=0:=by cases b<;>simpa using h
  subst this;rw[Ja,Int.natAbs_zero,Ja]
 ·cases b
  ·rw[if_neg (by simp)]at h
   rw[decide_eq_false (by omega),show v.natAbs=x by omega]
  ·rw[if_pos rfl]at h
   rw[decide_eq_true (by omega),show v.natAbs=x by omega]
theorem iJ {v:Int} (h: -9223372036854775808<v∧v≤9223372036854775807):nrm v=⟨v,[]⟩:=by
 unfold nrm mdN;rw[if_pos (by omega)]
 by_cases h0:v<0
 ·rw[decide_eq_true h0,if_pos rfl];congr 1;omega
 ·rw[decide_eq_false h0,if_neg (by simp)];congr 1;omega
theorem Jb {a:NI} (h:a.OK) (hv:a.val≠ -9223372036854775808):a=nrm a.val:=by
 obtain⟨s,w⟩:=a;rcases h with⟨h1,h2⟩|⟨x,h1,h2,h3⟩
 ·simp only at h1;subst h1
  rw[NI.val_sm]at hv⊢;unfold smI at h2;simp only at h2;rw[iJ (by omega)]
 ·simp only at h1 h3;subst h1
  rw[NI.val_big (by omega)]at hv⊢
  unfold nrm mdN;rcases h3 with rfl|rfl
  ·have e:(if(1:Int)<0 then-(x:Int)else(x:Int))=x:=if_neg (by omega)
   rw[e]at hv⊢;rw[if_neg (by omega),decide_eq_false (by omega),if_neg (by simp),show(amq (x:Int))=x by omega]
  ·have e:(if(-1:Int)<0 then-(x:Int)else(x:Int))= -x:=if_pos (by omega)
   rw[e]at hv⊢;rw[if_neg (by omega),decide_eq_true (by omega),if_pos rfl,show(amq (-(x:Int)))=x by omega]
def Lw (x:Nat):Nat:=(dl W x).length
def NI.L (a:NI):Nat:=Lw a.val.natAbs
theorem qM {x k:Nat} (h:x<W ^ k):Lw x≤k:=lg W2 h
theorem qN (x:Nat):x<W ^ Lw x:=fP W2 x
theorem eZ {x y:Nat} (h:x≤y):Lw x≤Lw y:=qM (amf h (qN y))
theorem nR (x y:Nat):Lw (x*y)≤Lw x+Lw y:=qM (by rw[alT];exact amn (qN x) (qN y))
theorem TA (x y:Nat):Lw (x+y)≤max (Lw x) (Lw y)+1:=by
 refine qM ?_;have h1:x<W ^ max (Lw x) (Lw y):=ajF (qN x) (alW (by decide) (by omega))
 have h2:y<W ^ max (Lw x) (Lw y):=ajF (qN y) (alW (by decide) (by omega))
 rw[alH];unfold W at*;omega
theorem nS {x:Nat} (h:x<18446744073709551616):Lw x≤1:=qM (by rw[amr];exact h)
def ni1 (p:PV) (K:NI→Prop):Prop:=match p with
 |.agg [.int .i64 s,.nnl (.ints .u64 l)]=>K ⟨s,l⟩
 |.agg [.int .i64 s,.nils]=>K ⟨s,[]⟩
 |.agg [.int .i64 s,.isl (.ints .u64 l) .none]=>VC (l≠[])∧K ⟨s,l⟩
 |_=>False
theorem af8 {S:Imm} {w:World} {ι:Ix} {p q r t:PV} {v:Value} (h1:∀v,Rep S w ι p v→Rep S w ι r v) (h2:∀v,Rep S w ι q v→Rep S w ι t v) (h:Rep S w ι (.agg [p,q]) v):Rep S w ι (.agg [r,t]) v:=by
 cases h with
 |agg _ _ vs hl h=>
  refine .agg _ _ vs hl fun i hi=>?_;have:i=0∨i=1:=by simp at hi;omega
  rcases this with rfl|rfl
  ·exact h1 _ (h 0 (by simp))
  ·exact h2 _ (h 1 (by simp))
theorem C8 {p:PV} {K:NI→Prop} (h:ni1 p K):∃a,K a∧∀(S:Imm) (w:World) (v:Value),Rep S w noI p v→Rep S w noI (niV a) v:=by
 unfold ni1 at h;split at h
 ·exact⟨_,h,fun _ _ _ h=>h⟩
 ·exact⟨_,h,fun _ _ _ h=>af8 (fun _ h=>h) (fun _ h=>by cases h;exact .nnl0 _ _ rfl) h⟩
 ·rename_i s l
  refine⟨_,h.2,fun S w v hr=>af8 (fun _ h=>h) (fun v hv=>?_) hr⟩;have hne:=h.1.get;have h0:0<l.length:=akk fun h'=>hne (ak6.1 h');cases hv with
  |islnil _ _ _ h=>exact absurd h (Nat.ne_of_gt h0)
  |isl _ _ _ b off cap hc hs hh hf ho=>exact .nnl1 _ _ b off cap h0 hc hs hh
 ·exact h.elim
theorem Jc {g:FuncId} {a:NI} {u:PV} (h:a.OK) (h1:a.w=[]→smI a.s→aD Tryz.prog g [.agg [.int .i64 a.s,.nils]] u)
 (h2:∀x,a.w=dl W x→9223372036854775808≤x→(a.s=1∨a.s= -1)→a.val=(if a.s<0 then-(x:Int)else x)→aD Tryz.prog g [.agg [.int .i64 a.s,.isl (wd x) .none]] u):aD Tryz.prog g [niV a] u:=by
 rcases h with⟨g1,g2⟩|⟨x,g1,g2,g3⟩
 ·exact cB (fun S w vs hA=>CZ (fun v hv=>(pQ hv).1 g1) hA) (h1 g1 g2)
 ·have hv:a.val=(if a.s<0 then-(x:Int)else x):=by
   obtain⟨s,w⟩:=a;simp only at g1;subst g1;exact NI.val_big (by omega)
  refine cB (fun S w vs hA=>CZ (fun v hv=>?_) hA) (h2 x g1 g2 g3 hv);have:=(pQ hv).2 (fun h0=>by rw[g1]at h0;have:=(gL W2).1 h0;omega)
  rw[g1]at this;exact this
theorem MP {g:FuncId} {p q u:PV} (h:∀(S:Imm) (w:World) (v:Value),Rep S w noI p v→Rep S w noI q v) (hp:aD Tryz.prog g [q] u):aD Tryz.prog g [p] u:=
 cB (fun S w vs hA=>CZ (fun v hv=>h S w v hv) hA) hp
theorem C9 {g:FuncId} {p q p' q' u:PV} (h:∀(S:Imm) (w:World) (v:Value),Rep S w noI p v→Rep S w noI q v) (h':∀(S:Imm) (w:World) (v:Value),Rep S w noI p' v→Rep S w noI q' v) (hp:aD Tryz.prog g [q,q'] u):aD Tryz.prog g [p,p'] u:=
 cB (ys:=[q,q']) (fun S w vs hA=>⟨hA.1,fun i hi=>by
  have:i=0∨i=1:=by simp at hi;omega
  rcases this with rfl|rfl
  ·exact h _ _ _ (hA.2 0 (by simp))
  ·exact h' _ _ _ (hA.2 1 (by simp))⟩) hp
theorem ug {g:FuncId} {C:NI→Prop} {r:NI→PV} (h:∀a,C a→aD Tryz.prog g [niV a] (r a)):POK Tryz.prog g (fun xs K=>match xs with| [p]=>ni1 p fun a=>VC (C a)∧K (r a)|_=>False):=by
 intro xs K hk;split at hk
 ·obtain⟨a,⟨h1,h2⟩,h3⟩:=C8 hk
  exact⟨_,h2,MP h3 (h a h1.get)⟩
 ·exact hk.elim
theorem wH {g:FuncId} {C:NI→NI→Prop} {r:NI→NI→PV} (h:∀a b,C a b→aD Tryz.prog g [niV a,niV b] (r a b)):POK Tryz.prog g (fun xs K=>match xs with| [p,q]=>ni1 p fun a=>ni1 q fun b=>VC (C a b)∧K (r a b)|_=>False):=by
 intro xs K hk;split at hk
 ·obtain⟨a,hk,h3⟩:=C8 hk
  obtain⟨b,⟨h1,h2⟩,h4⟩:=C8 hk;exact⟨_,h2,C9 h3 h4 (h a b h1.get)⟩
 ·exact hk.elim
def mQ:PSp:=fun xs K=>match xs with| [p]=>ni1 p fun a=>VC a.OK∧K (.tup [.bp (decide (a.s<0)),.isl (wd a.val.natAbs) .none])|_=>False
theorem lu:POK Tryz.prog 184 mQ:=ug (C:=NI.OK) (r:=fun a=>.tup [.bp (decide (a.s<0)),.isl (wd a.val.natAbs) .none]) fun a h=>Xi a h
def eG (v:Int):Int:=max (-1) (min 1 v)
theorem af9 {a:NI} (h:a.OK):eG a.s=eG a.val:=by
 obtain⟨s,w⟩:=a;rcases h with⟨h1,h2⟩|⟨x,h1,h2,h3⟩
 ·simp only at h1;subst h1;rfl
 ·simp only at h1 h3;subst h1
  rw[NI.val_big (by omega)]
  unfold eG;rcases h3 with rfl|rfl<;>simp<;>omega
theorem TD (a:NI) (h:a.OK):aD Tryz.prog 194 [niV a] (.int .i64 (eG a.val)):=by
 rw[←af9 h];unfold eG;have hs:=h;refine Jc h (fun h1 h2=>?_) (fun x h1 h2 h3 h4=>?_)
 ·unfold smI at h2
  generalize a.s=s at*
  refine ay (md:=1) (rf:=[]) mixed av aF Tryz.func194 (by rfl) (by rfl) (by rfl) ?_
  all_goals exact Eu
 ·generalize a.s=s at*
  refine ay (md:=1) (rf:=[]) mixed av aF Tryz.func194 (by rfl) (by rfl) (by rfl) ?_
  all_goals exact Eu
def uh:PSp:=fun xs K=>match xs with| [p]=>ni1 p fun a=>VC a.OK∧K (.int .i64 (eG a.val))|_=>False
theorem oL:POK Tryz.prog 194 uh:=ug TD
noncomputable def ail:CPT:=aB 184 (aV mQ) (aB 185 (aP xS) noC)
theorem Da:bC Tryz.prog ail:=au (aG lu) (au (aC xU) aF)
theorem Xj (a:NI) (h:a.OK) (hL:a.L≤1000000000000):aD Tryz.prog 201 [niV a] (niV (nrm (-a.val))):=by
 have hs:=h;refine Jc h (fun h1 h2=>?_) (fun x h1 h2 h3 h4=>?_)
 ·obtain⟨s,w⟩:=a
  simp only at h1 h2⊢;subst h1;have hv:NI.val ⟨s,[]⟩=s:=rfl;rw[hv];unfold NI.L at hL;rw[hv]at hL;by_cases hm:s= -9223372036854775808
  ·have e:mdN (!decide (s<0)) s.natAbs=nrm (-s):=mP (by subst hm;simp)
   rw[←e];refine ay (md:=1) (rf:=[]) mixed av Da Tryz.func201 (by rfl) (by rfl) (by rfl) ?_
   repeat'((conv=>whnf);first|(intro hq;(try simp only[vw]at hq);try exact ak hq)|apply aI|exact aj|apply nM|apply fM)
   all_goals((try apply vM);(try simp only[vq]at*);try omega)
   all_goals(try simp only[dN])
   all_goals first
    |exact hs
    |exact⟨bW _,hL⟩
    |exact Sup.of rfl
  ·unfold smI at h2
   rw[iJ (by omega)]
   refine ay (md:=1) (rf:=[]) mixed av Da Tryz.func201 (by rfl) (by rfl) (by rfl) ?_
   repeat'((conv=>whnf);first|(intro hq;(try simp only[vw]at hq);try exact ak hq)|apply aI|exact aj|apply nM|apply fM)
   all_goals((try apply vM);(try simp only[vq]at*);try omega)
   all_goals first
    |(rw[Int.zero_sub];exact Sup.via (by repeat'((conv=>whnf);first|intro _|apply aI|exact aj|apply nM|apply fM);all_goals((try apply vM);(try simp only[vq]at*);try omega)))
 ·have e:nrm (-a.val)=mdN (!decide (a.s<0)) x:=by
   rw[mP (v:= -a.val)];rw[h4];by_cases hn:a.s<0
   ·rw[if_pos hn];simp[hn]
   ·rw[if_neg hn];simp[hn]
  rw[e];have hne:dl W x≠[]:=fun h0=>by have:=(gL W2).1 h0;omega
  have hl0:0<(dl W x).length:=ams.2 hne;have ea:(⟨a.s,dl W x⟩:NI)=a:=by rw[←h1]
  have en:(NI.val a).natAbs=x:=by rw[h4];split<;>omega
  have hL':(dl W x).length≤1000000000000:=by unfold NI.L Lw at hL;rw[en]at hL;exact hL
  refine ay (md:=1) (rf:=[]) mixed av Da Tryz.func201 (by rfl) (by rfl) (by rfl) ?_
  repeat'((conv=>whnf);first|(intro hq;(try simp only[vw]at hq);try exact ak hq)|apply aI|exact aj|apply nM|apply fM)
  all_goals((try apply vM);(try simp only[vq]at*);try omega)
  all_goals(try simp only[ea,en,dN])
  all_goals first
   |omega
   |exact hne
   |exact hs
   |exact⟨bW _,hL'⟩
   |exact Sup.of rfl
def zl:PSp:=fun xs K=>match xs with| [p]=>ni1 p fun a=>VC (a.OK∧a.L≤1000000000000)∧K (niV (nrm (-a.val)))|_=>False
theorem rP:POK Tryz.prog 201 zl:=ug (C:=fun a=>a.OK∧a.L≤1000000000000) fun a h=>Xj a h.1 h.2
theorem xV {g:FuncId} {a b:NI} {u:PV} (ha:a.OK) (hb:b.OK)
 (h1:∀p q:PV,(p=.agg [.int .i64 a.s,.nils]∧a.w=[]∧smI a.s∨∃x,p=.agg [.int .i64 a.s,.isl (wd x) .none]∧a.w=dl W x∧9223372036854775808≤x)→(q=.agg [.int .i64 b.s,.nils]∧b.w=[]∧smI b.s∨∃x,q=.agg [.int .i64 b.s,.isl (wd x) .none]∧b.w=dl W x∧9223372036854775808≤x)→aD Tryz.prog g [p,q] u):aD Tryz.prog g [niV a,niV b] u:=by
 have two:∀a:NI,a.OK→∃p,(p=.agg [.int .i64 a.s,.nils]∧a.w=[]∧smI a.s∨∃x,p=.agg [.int .i64 a.s,.isl (wd x) .none]∧a.w=dl W x∧9223372036854775808≤x)∧∀(S:Imm) (w:World) (v:Value),Rep S w noI (niV a) v→Rep S w noI p v:=by
  intro a h;rcases h with⟨g1,g2⟩|⟨x,g1,g2,g3⟩
  ·exact⟨_,.inl ⟨rfl,g1,g2⟩,fun S w v hr=>(pQ hr).1 g1⟩
  ·refine⟨_,.inr ⟨x,rfl,g1,g2⟩,fun S w v hr=>?_⟩
   have:=(pQ hr).2 (fun h0=>by rw[g1]at h0;have:=(gL W2).1 h0;omega)
   rw[g1]at this;exact this
 obtain⟨p,hp,hp'⟩:=two a ha;obtain⟨q,hq,hq'⟩:=two b hb;exact C9 hp' hq' (h1 p q hp hq)
theorem gD {a:NI} {x:Nat} (h:a.w=dl W x):(⟨a.s,dl W x⟩:NI)=a:=by rw[←h]
theorem fF {a:NI} (h:a.w=[]):(⟨a.s,[]⟩:NI)=a:=by rw[←h]
theorem eU {x:Nat} (h:9223372036854775808≤x):dl W x≠[]∧0<(dl W x).length:=by
 have:dl W x≠[]:=fun h0=>by have:=(gL W2).1 h0;omega
 exact⟨this,ams.2 this⟩
theorem gF {a:NI} (h:a.w=[]):a.val=a.s:=by rw[←fF h];rfl
def addN (a b:NI):NI:=if a.w=[]∧b.w=[]∧a.s+b.s= -9223372036854775808 then⟨-9223372036854775808,[]⟩else nrm (a.val+b.val)
theorem uj (a b:NI):(addN a b).val=a.val+b.val:=by
 unfold addN;split
 ·rename_i h;rw[gF h.1,gF h.2.1,h.2.2];rfl
 ·exact bA _
theorem Db (a b:NI):(addN a b).OK:=by
 unfold addN;split
 ·exact .inl ⟨rfl,by unfold smI;simp⟩
 ·exact bO _
theorem add_same {a b:NI} (ha:a.OK) (hb:b.OK) (h:(a.s<0)=(b.s<0)):a.val+b.val=if decide (a.s<0)then-((a.val.natAbs+b.val.natAbs:Nat):Int)else((a.val.natAbs+b.val.natAbs:Nat):Int):=by
 have h1:=NI.neg_iff ha;have h2:=NI.neg_iff hb;rw[←h]at h2;by_cases hn:a.s<0
 ·rw[decide_eq_true hn,if_pos rfl];have:=h1.1 hn;have:=h2.1 hn;omega
 ·rw[decide_eq_false hn,if_neg (by simp)]
  have e1:¬a.val<0:=fun h=>hn (h1.2 h);have e2:¬b.val<0:=fun h=>hn (h2.2 h);omega
theorem Jd {a b:NI} (ha:a.OK) (hb:b.OK) (h:¬(a.s<0)=(b.s<0)) (hle:b.val.natAbs≤a.val.natAbs):a.val+b.val=if decide (a.s<0)then-((a.val.natAbs-b.val.natAbs:Nat):Int)else((a.val.natAbs-b.val.natAbs:Nat):Int):=by
 have h1:=NI.neg_iff ha;have h2:=NI.neg_iff hb;by_cases hn:a.s<0
 ·have hb:¬b.s<0:=fun h'=>h (by simp[hn,h'])
  rw[decide_eq_true hn,if_pos rfl];have:=h1.1 hn;have e2:¬b.val<0:=fun h=>hb (h2.2 h);omega
 ·have hb:b.s<0:=Decidable.byContradiction fun h'=>h (by simp[hn,h'])
  rw[decide_eq_false hn,if_neg (by simp)]
  have e1:¬a.val<0:=fun h=>hn (h1.2 h);have:=h2.1 hb;omega
noncomputable def ain:CPT:=aB 184 (aV mQ) (aB 185 (aP xS) (aB 186 (aP aod) (aB 187 (aP Bu) (aB 188 (aP Qg) noC))))
theorem rQ:bC Tryz.prog ain:=au (aG lu) (au (aC xU) (au (aC acM) (au (aC CX) (au (aC acN) aF))))
theorem wrap_i64 (n:Int):IntKind.i64.wrap n=(n+9223372036854775808) % 18446744073709551616-9223372036854775808:=by
 simp only[IntKind.wrap,IntKind.bits,IntKind.signed];simp;omega
theorem xW {x y:Nat}:0≤iR x y↔y≤x:=by
 unfold iR;split
 ·constructor<;>intro h<;>omega
 ·split<;>constructor<;>intro h<;>omega
theorem Dc {a b:NI} (h:¬(a.w=[]∧b.w=[]∧a.s+b.s= -9223372036854775808)):addN a b=nrm (a.val+b.val):=by unfold addN;rw[if_neg h]
theorem aga {a b:NI} (ha:a.OK) (hb:b.OK) (hx:¬(a.w=[]∧b.w=[]∧a.s+b.s= -9223372036854775808)) (h:(a.s<0)=(b.s<0)):mdN (decide (a.s<0)) (a.val.natAbs+b.val.natAbs)=addN a b:=by
 rw[Dc hx];exact mP (add_same ha hb h)
theorem agb {a b:NI} (ha:a.OK) (hb:b.OK) (hx:¬(a.w=[]∧b.w=[]∧a.s+b.s= -9223372036854775808)) (h:¬(a.s<0)=(b.s<0)) (hle:b.val.natAbs≤a.val.natAbs):mdN (decide (a.s<0)) (a.val.natAbs-b.val.natAbs)=addN a b:=by
 rw[Dc hx];exact mP (Jd ha hb h hle)
theorem agc {a b:NI} (ha:a.OK) (hb:b.OK) (hx:¬(a.w=[]∧b.w=[]∧a.s+b.s= -9223372036854775808)) (h:¬(a.s<0)=(b.s<0)) (hle:¬b.val.natAbs≤a.val.natAbs):mdN (decide (b.s<0)) (b.val.natAbs-a.val.natAbs)=addN a b:=by
 rw[Dc hx,Int.add_comm];exact mP (Jd hb ha (fun h'=>h h'.symm) (by omega))
theorem bq1:(∀(p q:Prop) [Decidable p] [Decidable q],((decide p==decide q)=true)=(p=q))∧(∀(p q:Prop) [Decidable p] [Decidable q],((decide p==decide q)=false)=¬(p=q)):=
 ⟨fun p q _ _=>by simp,fun p q _ _=>by simp⟩
theorem zm {s t:Int} (h1:smI s) (h2:smI t):((decide (s<IntKind.i64.wrap (s+t))==decide (0<t))=true)=smI (s+t):=by
 rw[bq1.1,wrap_i64];unfold smI at*;apply propext;constructor
 ·intro h
  have h:=iff_of_eq h;by_cases h0:0<t
  ·have:=h.2 h0;omega
  ·have:¬s<(s+t+9223372036854775808) % 18446744073709551616-9223372036854775808:=fun h'=>h0 (h.1 h')
   omega
 ·intro h
  apply propext;constructor<;>intro h'<;>omega
theorem TG {s t:Int} (h1:smI s) (h2:smI t):((decide (s<IntKind.i64.wrap (s+t))==decide (0<t))=false)=¬smI (s+t):=by
 rw[←zm h1 h2];simp
theorem i64_in {n:Int} (h:smI n):IntKind.i64.wrap n=n:=by rw[wrap_i64];unfold smI at h;omega
theorem Xk (a b:NI) (ha:a.OK) (hb:b.OK) (hLa:a.L≤100000000000) (hLb:b.L≤100000000000):aD Tryz.prog 109 [niV a,niV b] (niV (addN a b)):=by
 have L1:(dl W a.val.natAbs).length≤100000000000:=hLa;have L2:(dl W b.val.natAbs).length≤100000000000:=hLb;have L3:(dl W (a.val.natAbs+b.val.natAbs)).length≤1000000000000:=by have:=TA a.val.natAbs b.val.natAbs;unfold NI.L at*;unfold Lw at*;omega
 have L4:(dl W (a.val.natAbs-b.val.natAbs)).length≤1000000000000:=by have:=eZ (x:=a.val.natAbs-b.val.natAbs) (y:=a.val.natAbs) (by omega);unfold NI.L at*;unfold Lw at*;omega
 have L5:(dl W (b.val.natAbs-a.val.natAbs)).length≤1000000000000:=by have:=eZ (x:=b.val.natAbs-a.val.natAbs) (y:=b.val.natAbs) (by omega);unfold NI.L at*;unfold Lw at*;omega
 have F1:=fun hx=>aga ha hb hx;have F2:=fun hx=>agb ha hb hx;have F3:=fun hx=>agc ha hb hx;refine xV ha hb fun p q hp hq=>?_;rcases hp with⟨rfl,hp,hps⟩|⟨x,rfl,hp,hpx⟩<;>rcases hq with⟨rfl,hq,hqs⟩|⟨y,rfl,hq,hqy⟩
 ·have ea:=fF hp
  have eb:=fF hq;have na:True:=trivial;have nb:True:=trivial;by_cases hsm:smI (a.s+b.s)
  ·have hx:addN a b=⟨a.s+b.s,[]⟩:=by
    unfold addN;split
    ·rename_i h1;rw[h1.2.2]
    ·rename_i h1
     rw[gF hp,gF hq,iJ];have:a.s+b.s≠ -9223372036854775808:=fun h2=>h1 ⟨hp,hq,h2⟩;unfold smI at hsm;omega
   rw[hx];have h1:=zm hps hqs;have h2:=TG hps hqs;have h3:=i64_in hsm;clear F1 F2 F3 L1 L2 L3 L4 L5;generalize a.s=s at*
   generalize b.s=t at*
   refine ay (md:=2) (rf:=[]) mixed av rQ Tryz.func109 (by rfl) (by rfl) (by rfl) ?_
   repeat'((conv=>whnf);first|(intro hq;(try simp only[vw]at hq);try exact ak hq)|apply aI|exact aj|apply nM|apply fM)
   all_goals((try apply vM);(try simp only[vq]at*);try omega)
   all_goals first
    |(exfalso;rename_i hq;rw[h2]at hq;exact hq hsm)
    |(rw[h3];refine Sup.via ?_;repeat'((conv=>whnf);first|intro _|apply aI|exact aj|apply nM|apply fM);all_goals((try apply vM);(try simp only[vq]at*);try omega))
    |(exfalso;rw[h2]at*;contradiction)
  ·have hbig:¬(a.w=[]∧b.w=[]∧a.s+b.s= -9223372036854775808):=fun h2=>hsm (by unfold smI;omega)
   have h1:=zm hps hqs;have E1:=F1 hbig;have E2:=F2 hbig;have E3:=F3 hbig;clear hbig F1 F2 F3;generalize addN a b=r at*
   generalize a.s=s at*
   generalize b.s=t at*
   refine ay (md:=2) (rf:=[]) mixed av rQ Tryz.func109 (by rfl) (by rfl) (by rfl) ?_
   repeat'((conv=>whnf);first|(intro hq;(try simp only[vw]at hq);try exact ak hq)|apply aI|exact aj|apply nM|apply fM)
   all_goals((try apply vM);(try simp only[vq]at*);try omega)
   all_goals(try simp only[ea,eb,dN])
   all_goals(try simp only[bq1,xW,dN,amt]at*)
   all_goals(try simp only[ea,eb]at hq)
   all_goals first
    |exact absurd (Eq.mp h1 hq) hsm
    |exact ha
    |exact hb
    |exact na
    |exact nb
    |exact⟨bW _,bW _,by omega,by omega⟩
    |exact⟨bW _,bW _,by omega,by assumption⟩
    |exact⟨bW _,by omega⟩
    |(rw[E1 (by assumption)];exact Sup.of rfl)
    |(rw[E2 (by assumption) (by assumption)];exact Sup.of rfl)
    |(rw[E3 (by assumption) (by assumption)];exact Sup.of rfl)
    |omega
 ·have hbig:¬(a.w=[]∧b.w=[]∧a.s+b.s= -9223372036854775808):=fun h=>by rw[hq]at h;exact(eU hqy).1 h.2.1
  have ea:=fF hp;have eb:=gD hq;have na:True:=trivial;obtain⟨nb,nb'⟩:=eU hqy;have E1:=F1 hbig;have E2:=F2 hbig;have E3:=F3 hbig;clear hbig F1 F2 F3;generalize addN a b=r at*
  generalize a.s=s at*
  generalize b.s=t at*
  refine ay (md:=2) (rf:=[]) mixed av rQ Tryz.func109 (by rfl) (by rfl) (by rfl) ?_
  repeat'((conv=>whnf);first|(intro hq;(try simp only[vw]at hq);try exact ak hq)|apply aI|exact aj|apply nM|apply fM)
  all_goals((try apply vM);(try simp only[vq]at*);try omega)
  all_goals(try simp only[ea,eb,dN])
  all_goals(try simp only[bq1,xW,dN,amt]at*)
  all_goals(try simp only[ea,eb]at hq)
  all_goals first
   |exact absurd (Eq.mp h1 hq) hsm
   |exact ha
   |exact hb
   |exact na
   |exact nb
   |exact⟨bW _,bW _,by omega,by omega⟩
   |exact⟨bW _,bW _,by omega,by assumption⟩
   |exact⟨bW _,by omega⟩
   |(rw[E1 (by assumption)];exact Sup.of rfl)
   |(rw[E2 (by assumption) (by assumption)];exact Sup.of rfl)
   |(rw[E3 (by assumption) (by assumption)];exact Sup.of rfl)
   |omega
 ·have hbig:¬(a.w=[]∧b.w=[]∧a.s+b.s= -9223372036854775808):=fun h=>by rw[hp]at h;exact(eU hpx).1 h.1
  have ea:=gD hp;have eb:=fF hq;have nb:True:=trivial;obtain⟨na,na'⟩:=eU hpx;have E1:=F1 hbig;have E2:=F2 hbig;have E3:=F3 hbig;clear hbig F1 F2 F3;generalize addN a b=r at*
  generalize a.s=s at*
  generalize b.s=t at*
  refine ay (md:=2) (rf:=[]) mixed av rQ Tryz.func109 (by rfl) (by rfl) (by rfl) ?_
  repeat'((conv=>whnf);first|(intro hq;(try simp only[vw]at hq);try exact ak hq)|apply aI|exact aj|apply nM|apply fM)
  all_goals((try apply vM);(try simp only[vq]at*);try omega)
  all_goals(try simp only[ea,eb,dN])
  all_goals(try simp only[bq1,xW,dN,amt]at*)
  all_goals(try simp only[ea,eb]at hq)
  all_goals first
   |exact absurd (Eq.mp h1 hq) hsm
   |exact ha
   |exact hb
   |exact na
   |exact nb
   |exact⟨bW _,bW _,by omega,by omega⟩
   |exact⟨bW _,bW _,by omega,by assumption⟩
   |exact⟨bW _,by omega⟩
   |(rw[E1 (by assumption)];exact Sup.of rfl)
   |(rw[E2 (by assumption) (by assumption)];exact Sup.of rfl)
   |(rw[E3 (by assumption) (by assumption)];exact Sup.of rfl)
   |omega
 ·have hbig:¬(a.w=[]∧b.w=[]∧a.s+b.s= -9223372036854775808):=fun h=>by rw[hp]at h;exact(eU hpx).1 h.1
  have ea:=gD hp;have eb:=gD hq;obtain⟨nb,nb'⟩:=eU hqy;obtain⟨na,na'⟩:=eU hpx;have E1:=F1 hbig;have E2:=F2 hbig;have E3:=F3 hbig;clear hbig F1 F2 F3;generalize addN a b=r at*
  generalize a.s=s at*
  generalize b.s=t at*
  refine ay (md:=2) (rf:=[]) mixed av rQ Tryz.func109 (by rfl) (by rfl) (by rfl) ?_
  repeat'((conv=>whnf);first|(intro hq;(try simp only[vw]at hq);try exact ak hq)|apply aI|exact aj|apply nM|apply fM)
  all_goals((try apply vM);(try simp only[vq]at*);try omega)
  all_goals(try simp only[ea,eb,dN])
  all_goals(try simp only[bq1,xW,dN,amt]at*)
  all_goals(try simp only[ea,eb]at hq)
  all_goals first
   |exact absurd (Eq.mp h1 hq) hsm
   |exact ha
   |exact hb
   |exact na
   |exact nb
   |exact⟨bW _,bW _,by omega,by omega⟩
   |exact⟨bW _,bW _,by omega,by assumption⟩
   |exact⟨bW _,by omega⟩
   |(rw[E1 (by assumption)];exact Sup.of rfl)
   |(rw[E2 (by assumption) (by assumption)];exact Sup.of rfl)
   |(rw[E3 (by assumption) (by assumption)];exact Sup.of rfl)
   |omega
theorem dJ (a:NI):(⟨a.s,a.w⟩:NI)=a:=rfl
theorem NI.L_nrm (v:Int):(nrm v).L=Lw v.natAbs:=by unfold NI.L;rw[bA]
def Df:PSp:=fun xs K=>match xs with| [p,q]=>ni1 p fun a=>ni1 q fun b=>VC (a.OK∧b.OK∧a.L≤100000000000∧b.L≤100000000000)∧K (niV (addN a b))|_=>False
theorem wI:POK Tryz.prog 109 Df:=wH (C:=fun a b=>a.OK∧b.OK∧a.L≤100000000000∧b.L≤100000000000) fun a b h=>Xk a b h.1 h.2.1 h.2.2.1 h.2.2.2
def zn (a b:NI):NI:=addN a (nrm (-b.val))
theorem Xl (a b:NI):(zn a b).val=a.val-b.val:=by unfold zn;rw[uj,bA];omega
theorem acT (a b:NI):(zn a b).OK:=Db _ _
noncomputable def aio:CPT:=aB 201 (aV zl) (aB 109 (aV Df) noC)
theorem acU:bC Tryz.prog aio:=au (aG rP) (au (aG wI) aF)
theorem Xm (a b:NI) (ha:a.OK) (hb:b.OK) (hLa:a.L≤100000000000) (hLb:b.L≤100000000000):aD Tryz.prog 195 [niV a,niV b] (niV (zn a b)):=by
 have h1:(nrm (-b.val)).L≤100000000000:=by rw[NI.L_nrm,amu];exact hLb
 refine ay (md:=1) (rf:=[]) mixed av acU Tryz.func195 (by rfl) (by rfl) (by rfl) ?_
 repeat'((conv=>whnf);first|(intro hq;(try simp only[vw]at hq);try exact ak hq)|apply aI|exact aj|apply nM|apply fM)
 all_goals((try apply vM);(try simp only[vq]at*);try omega)
 all_goals first
  |exact⟨hb,ajI hLb (by decide)⟩
  |exact⟨ha,bO _,hLa,h1⟩
  |exact Sup.of rfl
def Xn:PSp:=fun xs K=>match xs with| [p,q]=>ni1 p fun a=>ni1 q fun b=>VC (a.OK∧b.OK∧a.L≤100000000000∧b.L≤100000000000)∧K (niV (zn a b))|_=>False
theorem TH:POK Tryz.prog 195 Xn:=wH (C:=fun a b=>a.OK∧b.OK∧a.L≤100000000000∧b.L≤100000000000) fun a b h=>Xm a b h.1 h.2.1 h.2.2.1 h.2.2.2
def mR (x y:Int):Int:=if x<y then-1 else if y<x then 1 else 0
theorem Xo (x y:Int):eG (x-y)=mR x y:=by
 unfold eG mR;split
 ·omega
 ·split<;>omega
noncomputable def aip:CPT:=aB 195 (aV Xn) (aB 194 (aV uh) noC)
theorem xX:bC Tryz.prog aip:=au (aG TH) (au (aG oL) aF)
theorem TI (a b:NI) (ha:a.OK) (hb:b.OK) (hLa:a.L≤100000000000) (hLb:b.L≤100000000000):aD Tryz.prog 118 [niV a,niV b] (.int .i64 (mR a.val b.val)):=by
 refine xV ha hb fun p q hp hq=>?_;rcases hp with⟨rfl,hp,hps⟩|⟨x,rfl,hp,hpx⟩<;>rcases hq with⟨rfl,hq,hqs⟩|⟨y,rfl,hq,hqy⟩
 ·have ea:=fF hp
  have eb:=fF hq;have na:True:=trivial;have nb:True:=trivial;have es:=gF hp;have et:=gF hq;generalize a.s=s at*
  generalize b.s=t at*
  refine ay (md:=1) (rf:=[]) mixed av xX Tryz.func118 (by rfl) (by rfl) (by rfl) ?_
  all_goals exact qE
 ·have ea:=fF hp
  have eb:=gD hq;have na:True:=trivial;obtain⟨nb,nb'⟩:=eU hqy;have es:=gF hp;have et:True:=trivial;generalize a.s=s at*
  generalize b.s=t at*
  refine ay (md:=1) (rf:=[]) mixed av xX Tryz.func118 (by rfl) (by rfl) (by rfl) ?_
  all_goals exact qE
 ·have ea:=gD hp
  have eb:=fF hq;have nb:True:=trivial;obtain⟨na,na'⟩:=eU hpx;have es:True:=trivial;have et:True:=trivial;generalize a.s=s at*
  generalize b.s=t at*
  refine ay (md:=1) (rf:=[]) mixed av xX Tryz.func118 (by rfl) (by rfl) (by rfl) ?_
  all_goals exact qE
 ·have ea:=gD hp
  have eb:=gD hq;obtain⟨nb,nb'⟩:=eU hqy;obtain⟨na,na'⟩:=eU hpx;have es:True:=trivial;have et:True:=trivial;generalize a.s=s at*
  generalize b.s=t at*
  refine ay (md:=1) (rf:=[]) mixed av xX Tryz.func118 (by rfl) (by rfl) (by rfl) ?_
  all_goals exact qE
def GH:PSp:=fun xs K=>match xs with| [p,q]=>ni1 p fun a=>ni1 q fun b=>VC (a.OK∧b.OK∧a.L≤100000000000∧b.L≤100000000000)∧K (.int .i64 (mR a.val b.val))|_=>False
theorem Dh:POK Tryz.prog 118 GH:=wH (C:=fun a b=>a.OK∧b.OK∧a.L≤100000000000∧b.L≤100000000000) fun a b h=>TI a b h.1 h.2.1 h.2.2.1 h.2.2.2
theorem agd {a b:NI} (ha:a.OK) (hb:b.OK):mdN (!(decide (a.s<0)==decide (b.s<0))) (a.val.natAbs*b.val.natAbs)=nrm (a.val*b.val):=by
 have h1:=NI.neg_iff ha;have h2:=NI.neg_iff hb;refine mP ?_;rw[amk];rw[show decide (a.s<0)=decide (a.val<0) by simp[h1],show decide (b.s<0)=decide (b.val<0) by simp[h2]]
 generalize a.val=x
 generalize b.val=y
 by_cases hx:x<0<;>by_cases hy:y<0<;>simp only[hx,hy,decide_true,decide_false]<;>simp
 ·rw[show((x.natAbs:Nat):Int)= -x by omega,show((y.natAbs:Nat):Int)= -y by omega,Int.neg_mul_neg]
 ·rw[show((x.natAbs:Nat):Int)= -x by omega,show((y.natAbs:Nat):Int)=y by omega,Int.neg_mul,amv]
 ·rw[show((x.natAbs:Nat):Int)=x by omega,show((y.natAbs:Nat):Int)= -y by omega,amw,amv]
 ·rw[show((x.natAbs:Nat):Int)=x by omega,show((y.natAbs:Nat):Int)=y by omega]
noncomputable def aiq:CPT:=aB 184 (aV mQ) (aB 185 (aP xS) (aB 191 (aP Qi) (aB 190 (aP GD) (aB 189 (aP rO) noC))))
theorem xY:bC Tryz.prog aiq:=au (aG lu) (au (aC xU) (au (aC acQ) (au (aC MO) (au (aC uf) aF))))
theorem Xp (a b:NI) (ha:a.OK) (hb:b.OK) (hLa:a.L≤100000000000) (hLb:b.L≤100000000000):aD Tryz.prog 110 [niV a,niV b] (niV (nrm (a.val*b.val))):=by
 have L1:(dl W a.val.natAbs).length≤100000000000:=hLa;have L2:(dl W b.val.natAbs).length≤100000000000:=hLb;have L3:(dl W (a.val.natAbs*b.val.natAbs)).length≤1000000000000:=by have:=nR a.val.natAbs b.val.natAbs;unfold NI.L at*;unfold Lw at*;omega
 have E:=agd ha hb;refine xV ha hb fun p q hp hq=>?_;rcases hp with⟨rfl,hp,hps⟩|⟨x,rfl,hp,hpx⟩<;>rcases hq with⟨rfl,hq,hqs⟩|⟨y,rfl,hq,hqy⟩
 ·have ea:=fF hp
  have eb:=fF hq;have na:True:=trivial;have nb:True:=trivial;have es:=gF hp;have et:=gF hq;unfold smI at hps hqs;generalize a.s=s at*
  generalize b.s=t at*
  refine ay (md:=1) (rf:=[]) mixed av xY Tryz.func110 (by rfl) (by rfl) (by rfl) ?_
  repeat'((conv=>whnf);first|(intro hq;(try simp only[vw]at hq);try exact ak hq)|apply aI|exact aj|apply nM|apply fM)
  all_goals((try apply vM);(try simp only[vq]at*);try omega)
  all_goals(try simp only[ea,eb,dN])
  all_goals first
   |exact ha
   |exact hb
   |omega
   |exact⟨bW _,bW _,by omega,by omega⟩
   |exact⟨bW _,L3⟩
   |(rw[←E];exact Sup.of rfl)
   |(rename_i h1 h2
     obtain⟨P,hP⟩:∃P,P=s.natAbs*t.natAbs:=⟨_,rfl⟩;have hP':(s.natAbs:Int)*(t.natAbs:Int)=P:=by rw[hP,amk]
     rw[hP']at h2 hq⊢;rw[←E,es,et,←hP,h1];unfold mdN;rw[if_pos (by omega)]
     refine Sup.via ?_
     repeat'((conv=>whnf);first|intro _|apply aI|exact aj|apply nM|apply fM)
     all_goals((try apply vM);(try simp only[vq]at*);try omega)
     all_goals first|omega|(simp;omega))
 ·have ea:=fF hp
  have eb:=gD hq;have na:True:=trivial;obtain⟨nb,nb'⟩:=eU hqy;generalize a.s=s at*
  generalize b.s=t at*
  refine ay (md:=1) (rf:=[]) mixed av xY Tryz.func110 (by rfl) (by rfl) (by rfl) ?_
  all_goals exact vW
 ·have ea:=gD hp
  have eb:=fF hq;have nb:True:=trivial;obtain⟨na,na'⟩:=eU hpx;generalize a.s=s at*
  generalize b.s=t at*
  refine ay (md:=1) (rf:=[]) mixed av xY Tryz.func110 (by rfl) (by rfl) (by rfl) ?_
  all_goals exact vW
 ·have ea:=gD hp
  have eb:=gD hq;obtain⟨nb,nb'⟩:=eU hqy;obtain⟨na,na'⟩:=eU hpx;generalize a.s=s at*
  generalize b.s=t at*
  refine ay (md:=1) (rf:=[]) mixed av xY Tryz.func110 (by rfl) (by rfl) (by rfl) ?_
  all_goals exact vW
def uo:PSp:=fun xs K=>match xs with| [p,q]=>ni1 p fun a=>ni1 q fun b=>VC (a.OK∧b.OK∧a.L≤100000000000∧b.L≤100000000000)∧K (niV (nrm (a.val*b.val)))|_=>False
theorem oM:POK Tryz.prog 110 uo:=wH (C:=fun a b=>a.OK∧b.OK∧a.L≤100000000000∧b.L≤100000000000) fun a b h=>Xp a b h.1 h.2.1 h.2.2.1 h.2.2.2
def iq (m:Int):Int:=(Go.Lib.bitLen m.toNat:Nat)
theorem lC (T:Array UInt8) (hT:∀j,j<256→(T.getD j 0).toNat=Go.Lib.bitLen j) (x:Int) (h:0≤x∧x<256):((T.getD x.toNat 0).toNat:Int)=iq x:=by
 rw[hT _ (by omega)];rfl
theorem lD (x:Int) (h:0≤x∧x<256):0≤iq x∧iq x≤8:=by
 have:=Go.Lib.bitLen_le8 ⟨x.toNat,by omega⟩
 unfold iq;simp only at this;omega
theorem Di (k K:Nat) (hK:2 ^ k=K) (x:Int) (h0:(K:Int)≤x) (h:x<18446744073709551616):iq x=k+iq (x / K):=by
 obtain⟨n,rfl⟩:∃n:Nat,x=n:=⟨x.toNat,by omega⟩
 unfold iq;rw[alR,Go.Lib.bitLen_shift k n (by rw[hK];omega) (by omega),hK]
 rw[←amx,alR];omega
theorem Xq (m:Int) (h:0≤m∧m<18446744073709551616):aD Tryz.prog 266 [.int .u64 m] (.int .i64 (iq m)):=by
 have q32:(2:Int) ^ amj 32=4294967296:=by decide
 have q16:(2:Int) ^ amj 16=65536:=by decide
 have q8:(2:Int) ^ amj 8=256:=by decide
 have d32:amj 32≤IntKind.u64.bits:=by decide
 have d16:amj 16≤IntKind.u64.bits:=by decide
 have d8:amj 8≤IntKind.u64.bits:=by decide
 have a3:4294967296≤m→iq m=32+iq (m / 4294967296):=fun h1=>Di 32 4294967296 rfl m h1 h.2;have a1:∀x:Int,65536≤x→x<18446744073709551616→iq x=16+iq (x / 65536):=fun x h1 h2=>Di 16 65536 rfl x h1 h2;have a2:∀x:Int,256≤x→x<18446744073709551616→iq x=8+iq (x / 256):=fun x h1 h2=>Di 8 256 rfl x h1 h2;refine ay (md:=1) (rf:=[]) mixed av aF Tryz.func266 (by rfl) (by rfl) (by rfl) ?_
 repeat'((conv=>whnf);first|intro _|apply aI|exact aj|apply nM|apply fM)
 all_goals((try apply vM);(try simp only[vq]at*);try omega)
 all_goals(try simp only[q32,q16,q8]at*)
 all_goals(try first|exact d32|exact d16|exact d8|omega|(refine Int.lt_of_lt_of_le (b:=256) (by omega) (by decide+kernel)))
 all_goals(try(rw[lC _ ?_ (m / 4294967296 / 65536 / 256) (by omega)];rotate_left;(decide+kernel);(have:=lD (m / 4294967296 / 65536 / 256) (by omega));first|omega|((refine Sup.of (congrArg (PV.int .i64) ?_));rw[a3 (by omega),a1 (m / 4294967296) (by omega) (by omega),a2 (m / 4294967296 / 65536) (by omega) (by omega)];omega)))
 all_goals(try(rw[lC _ ?_ (m / 4294967296 / 65536) (by omega)];rotate_left;(decide+kernel);(have:=lD (m / 4294967296 / 65536) (by omega));first|omega|((refine Sup.of (congrArg (PV.int .i64) ?_));rw[a3 (by omega),a1 (m / 4294967296) (by omega) (by omega)];omega)))
 all_goals(try(rw[lC _ ?_ (m / 4294967296 / 256) (by omega)];rotate_left;(decide+kernel);(have:=lD (m / 4294967296 / 256) (by omega));first|omega|((refine Sup.of (congrArg (PV.int .i64) ?_));rw[a3 (by omega),a2 (m / 4294967296) (by omega) (by omega)];omega)))
 all_goals(try(rw[lC _ ?_ (m / 4294967296) (by omega)];rotate_left;(decide+kernel);(have:=lD (m / 4294967296) (by omega));first|omega|((refine Sup.of (congrArg (PV.int .i64) ?_));have:=a3 (by omega);omega)))
 all_goals(try(rw[lC _ ?_ (m / 65536 / 256) (by omega)];rotate_left;(decide+kernel);(have:=lD (m / 65536 / 256) (by omega));first|omega|((refine Sup.of (congrArg (PV.int .i64) ?_));rw[a1 m (by omega) (by omega),a2 (m / 65536) (by omega) (by omega)];omega)))
 all_goals(try(rw[lC _ ?_ (m / 65536) (by omega)];rotate_left;(decide+kernel);(have:=lD (m / 65536) (by omega));first|omega|((refine Sup.of (congrArg (PV.int .i64) ?_));rw[a1 m (by omega) (by omega)];omega)))
 all_goals(try(rw[lC _ ?_ (m / 256) (by omega)];rotate_left;(decide+kernel);(have:=lD (m / 256) (by omega));first|omega|((refine Sup.of (congrArg (PV.int .i64) ?_));rw[a2 m (by omega) (by omega)];omega)))
 all_goals(try(rw[lC _ ?_ (m) (by omega)];rotate_left;(decide+kernel);(have:=lD (m) (by omega));first|omega|((refine Sup.of (congrArg (PV.int .i64) ?_));omega)))
def Qj:PSp:=fun xs K=>match xs with
 | [.int .u64 m]=>VC (0≤m∧m<18446744073709551616)∧K (.int .i64 (iq m))
 |_=>False
theorem TJ:POK Tryz.prog 266 Qj:=by
 intro xs K h;unfold Qj at h;split at h
 ·exact⟨_,h.2,Xq _ h.1.get⟩
 ·exact h.elim
noncomputable def air:CPT:=aB 266 (aP Qj) noC
theorem acV:bC Tryz.prog air:=au (aC TJ) aF
theorem Dj (m:Int):0≤iq m∧iq m≤64:=by
 have:∀f x,Go.Lib.bitLenAux f x≤f:=by
  intro f;induction f with
  |zero=>intro x;simp[Go.Lib.bitLenAux]
  |succ f ih=>intro x;rw[Go.Lib.bitLenAux];(split;omega;(have:=ih (x / 2);omega))
 have h2:=this 64 m.toNat;have h3:iq m=((Go.Lib.bitLenAux 64 m.toNat:Nat):Int):=rfl;omega
def lzI (m:Int):Nat:=(64-iq m).toNat
theorem acW (m:Int) (h:0≤m∧m<18446744073709551616):aD Tryz.prog 237 [.int .u64 m] (.int .i64 (lzI m:Nat)):=by
 have:=Dj m;have e:((lzI m:Nat):Int)=64-iq m:=by unfold lzI;omega
 rw[e];refine ay (md:=1) (rf:=[]) mixed av acV Tryz.func237 (by rfl) (by rfl) (by rfl) ?_
 all_goals exact Ev
def lzP:PSp:=fun xs K=>match xs with
 | [.int .u64 m]=>VC (0≤m∧m<18446744073709551616)∧K (.int .i64 (lzI m:Nat))
 |_=>False
theorem aaE:POK Tryz.prog 237 lzP:=by
 intro xs K h;unfold lzP at h;split at h
 ·exact⟨_,h.2,acW _ h.1.get⟩
 ·exact h.elim
end Go.Eng.YtmkagljofpddpaaGreatDoor
namespace Go.Eng.Dig
set_option linter.unusedSimpArgs false
set_option linter.unusedVariables false
theorem agf {K u d a b q r:Nat} (hu:u<a*K+b) (hd:d<K) (hr:q*a+r=u) (h:K≤q∨K*r+d<q*b):(u*K+d) / (a*K+b)<q:=by
 rw[akl (by omega)]
 rcases h with h|h
 ·have h1:(u+1)*K≤(a*K+b)*K:=akh _ hu
  have h2:K*(a*K+b)≤q*(a*K+b):=akh _ h;have e1:(u+1)*K=u*K+K:=by grind
  have e2:K*(a*K+b)=(a*K+b)*K:=aj3 _ _;omega
 ·have e1:q*(a*K+b)=(q*a)*K+q*b:=by grind
  have e2:u*K=(q*a)*K+r*K:=by rw[←hr];grind
  have e3:r*K=K*r:=aj3 _ _;omega
theorem aaF {K u d a b q r:Nat} (hb:0<a*K+b) (hr:q*a+r=u) (h:q*b≤K*r+d):q≤(u*K+d) / (a*K+b):=by
 rw[ako hb];have e1:q*(a*K+b)=(q*a)*K+q*b:=by grind
 have e2:u*K=(q*a)*K+r*K:=by rw[←hr];grind
 have e3:r*K=K*r:=aj3 _ _;omega
theorem acX {K u d a b q r:Nat} (hu:u<a*K+b) (hb:b<K) (hr:q*a+r=u) (h:K≤r):q≤(u*K+d) / (a*K+b)∧q≤K:=by
 have hq:q≤K:=by
  refine amy fun hlt=>?_;have h1:(K+1)*a≤q*a:=akh _ hlt;have e1:(K+1)*a=a*K+a:=by grind
  omega
 refine⟨aaF (by omega) hr ?_,hq⟩
 have h1:q*b≤K*K:=akM hq (by omega)
 have h2:K*K≤K*r:=al3 _ h;omega
theorem aaG {K u d a b:Nat} (hK:0<K) (hu:u<a*K+b) (hd:d<K):(u*K+d) / (a*K+b)<K:=by
 rw[akl (by omega)]
 have h1:(u+1)*K≤(a*K+b)*K:=akh _ hu;have e1:(u+1)*K=u*K+K:=by grind
 have e2:K*(a*K+b)=(a*K+b)*K:=aj3 _ _;omega
theorem uq {K u d a b:Nat} (hK:0<K) (ha:0<a) (hd:d<K):(u*K+d) / (a*K+b)≤u / a:=by
 have h1:(u*K+d) / (a*K+b)≤(u*K+d) / (a*K):=Nat.div_le_div_left (by omega) (al8 ha hK)
 have h2:(u*K+d) / (a*K)=u / a:=by
  rw[aj3 a K,←alG,aj3 u K,Nat.mul_add_div hK,aj5 hd,ajx]
 omega
theorem TK {K U Y:Nat} (hK:0<K) (hY:0<Y):U / Y=(U / K / Y)*K+((U / K % Y)*K+U % K) / Y∧U % Y=((U / K % Y)*K+U % K) % Y:=by
 have h0:=akm U K;have h1:=akm (U / K) Y;have e:U=((U / K % Y)*K+U % K)+(U / K / Y*K)*Y:=by
  generalize U / K % Y=r at*
  generalize U / K / Y=q at*
  generalize U % K=d at*
  generalize U / K=t at*
  subst h1;rw[←h0]
  grind
 constructor
 ·conv=>lhs;rw[e,alX _ _ hY]
  rw[ame]
 ·conv=>lhs;rw[e,al2]
theorem Bw {x y p:Nat} (hp:0<p):(x*p) / (y*p)=x / y∧(x*p) % (y*p) / p=x % y:=by
 refine⟨Nat.mul_div_mul_right _ _ hp,?_⟩;rw[al5,akZ _ hp]
end Go.Eng.Dig
namespace Go.Eng.YtmkagljofpddpaaGreatDoor
open Go.Proofs Go.Eng.Dig
set_option linter.unusedSimpArgs false
set_option linter.unusedVariables false
set_option maxHeartbeats 0
set_option maxRecDepth 100000
noncomputable def ais:CPT:=aB 237 (aP lzP) noC
theorem rR:bC Tryz.prog ais:=au (aC aaE) aF
theorem TL (lo y:Nat) (hl:lo<W) (hy:0<y) (hy2:y<W):aD Tryz.prog 236 [.int .u64 0,.int .u64 lo,.int .u64 y] (.tup [.int .u64 ((lo / y:Nat):Int),.int .u64 ((lo % y:Nat):Int)]):=by
 have h1:lo / y<18446744073709551616:=amf (amA _ _) hl;refine ay (md:=2) (rf:=[]) mixed av aF Tryz.func236 (by rfl) (by rfl) (by rfl) ?_
 repeat'((conv=>whnf);first|(intro hq;(try simp only[vw]at hq);try exact ak hq)|apply aI|exact aj|apply nM|apply fM)
 all_goals((try apply vM);(try simp only[vq]at*);try omega)
 refine Sup.of ?_;rw[show((lo:Int).tdiv (y:Int))=((lo / y:Nat):Int)from rfl,show((lo:Int).tmod (y:Int))=((lo % y:Nat):Int)from rfl,dG _ h1];rfl
theorem TM:∀(f x:Nat),x<2 ^ f→x<2 ^ Go.Lib.bitLenAux f x∧(x≠0→2 ^ Go.Lib.bitLenAux f x≤2*x):=by
 intro f;induction f with
 |zero=>intro x h;simp at h;subst h;simp[Go.Lib.bitLenAux]
 |succ f ih=>
  intro x h;rw[Go.Lib.bitLenAux];split
  ·rename_i h0;subst h0;simp
  ·obtain⟨h1,h2⟩:=ih (x / 2) (by rw[alH]at h;omega)
   rw[ame,alH];refine⟨by omega,fun _=>?_⟩
   by_cases h3:x / 2=0
   ·rw[h3]
    have:∀g,Go.Lib.bitLenAux g 0=0:=fun g=>by cases g<;>simp[Go.Lib.bitLenAux]
    rw[this];omega
   ·have:=h2 h3;omega
theorem Xr (y:Nat) (h0:0<y) (h:y<W):∃s:Nat,lzI (y:Int)=s∧s≤63∧y*2 ^ s<18446744073709551616∧18446744073709551616≤2*(y*2 ^ s):=by
 obtain⟨h1,h2⟩:=TM 64 y h;have h2:=h2 (by omega)
 have h3:=Dj (y:Int);have e:iq (y:Int)=((Go.Lib.bitLenAux 64 y:Nat):Int):=rfl;have hp:Go.Lib.bitLenAux 64 y≠0:=fun h=>by rw[h]at h1;omega
 have hz:lzI (y:Int)+Go.Lib.bitLenAux 64 y=64:=by unfold lzI;omega
 refine⟨_,rfl,by omega,?_,?_⟩
 all_goals
  have hpw:2 ^ lzI (y:Int)*2 ^ Go.Lib.bitLenAux 64 y=18446744073709551616:=by rw[←alT,hz]
  generalize 2 ^ lzI (y:Int)=p at*
  generalize 2 ^ Go.Lib.bitLenAux 64 y=q at*
  have hp0:0<p:=akk fun h=>by subst h;omega
 ·have:=amB h1 hp0
  rw[aj3 y p];omega
 ·have:=al3 p h2
  have e2:p*(2*y)=2*(y*p):=by grind
  omega
theorem wu (x:Int):IntKind.u64.wrap x=x % 18446744073709551616:=by
 simp only[IntKind.wrap,IntKind.bits,IntKind.signed];simp
theorem st3 {a b u d q:Nat} (hb:b<4294967296) (ha:a<4294967296) (hd:d<4294967296) (hr:u-q*a<4294967296) (hq:q<18446744073709551616):
 IntKind.u64.wrap (IntKind.u64.wrap (4294967296*((u-q*a:Nat):Int))+(d:Int))=((4294967296*(u-q*a)+d:Nat):Int)∧(q<4294967296→IntKind.u64.wrap ((q:Int)*(b:Int))=((q*b:Nat):Int))∧
 IntKind.u64.wrap (((u-q*a:Nat):Int)+(a:Int))=((u-q*a+a:Nat):Int)∧(1≤q→IntKind.u64.wrap ((q:Int)-1)=((q-1:Nat):Int)):=by
 simp only[wu];refine⟨by omega,fun h=>?_,by omega,fun h=>by omega⟩
 rw[←amk];have:q*b≤4294967295*4294967295:=akM (by omega) (by omega)
 omega
theorem cs3 {a b u d q:Nat} (ha:0<a) (hu:u<a*4294967296+b) (hb:b<4294967296) (hd:d<4294967296) (hqu:q*a≤u) (hQ:(u*4294967296+d) / (a*4294967296+b)≤q):
 (q=(u*4294967296+d) / (a*4294967296+b)∧q<4294967296∧q*b≤4294967296*(u-q*a)+d)∨
 (1≤q∧(u*4294967296+d) / (a*4294967296+b)≤q-1∧(q<4294967296→4294967296*(u-q*a)+d<q*b)∧(q-1)*a≤u∧u-(q-1)*a=u-q*a+a∧(4294967296≤u-q*a+a→q-1=(u*4294967296+d) / (a*4294967296+b))):=by
 have hr:q*a+(u-q*a)=u:=by omega
 have big:=fun h=>agf (q:=q) hu hd hr h;have ok:=fun h=>aaF (K:=4294967296) (d:=d) (b:=b) (q:=q) (by omega) hr h
 have stop:=fun r h1 h2=>(acX (d:=d) (q:=q-1) (r:=r) hu hb h1 h2).1;generalize(u*4294967296+d) / (a*4294967296+b)=Q at*
 by_cases h:4294967296≤q∨4294967296*(u-q*a)+d<q*b
 ·right
  have hlt:=big h;have e:q*a=(q-1)*a+a:=by
   obtain⟨k,rfl⟩:∃k,q=k+1:=⟨q-1,by omega⟩
   rw[alJ];grind
  have hr':(q-1)*a+(u-q*a+a)=u:=by omega
  refine⟨by omega,by omega,fun h'=>?_,by omega,by omega,fun h'=>?_⟩
  ·rcases h with h|h
   ·omega
   ·exact h
  ·have:=stop _ hr' h'
   omega
 ·left
  have:=ok (amy fun h'=>h (.inr h'));exact⟨by omega,by omega,amy fun h'=>h (.inr h')⟩
theorem un3 {u d Y:Nat} (hY:Y<18446744073709551616) (h0:0<Y):IntKind.u64.wrap (IntKind.u64.wrap (IntKind.u64.wrap ((u:Int)*4294967296)+(d:Int))-IntKind.u64.wrap ((((u*4294967296+d) / Y:Nat):Int)*(Y:Int)))=(((u*4294967296+d) % Y:Nat):Int):=by
 have h1:=akm (u*4294967296+d) Y;have h2:=akn (u*4294967296+d) h0;have e:((((u*4294967296+d) / Y:Nat):Int)*(Y:Int))=((Y*((u*4294967296+d) / Y):Nat):Int):=by rw[amk,Int.mul_comm]
 rw[e];simp only[wu];omega
theorem TN (hi lo y:Nat) (h0:0<hi) (hl:lo<W) (hy:hi<y) (hy2:y<W):aD Tryz.prog 236 [.int .u64 hi,.int .u64 lo,.int .u64 y] (.tup [.int .u64 (((hi*W+lo) / y:Nat):Int),.int .u64 (((hi*W+lo) % y:Nat):Int)]):=by
 unfold W at*;obtain⟨s,hs,hs63,hY1,hY2⟩:=Xr y (by omega) hy2
 have E8:IntKind.u64.wrap ((lzI (y:Int):Nat):Int)=((s:Nat):Int):=by rw[hs,dG _ (by omega)]
 have E9:IntKind.u64.wrap (64-((s:Nat):Int))=((64-s:Nat):Int):=by rw[show(64:Int)-(s:Int)=((64-s:Nat):Int) by omega,dG _ (by omega)]
 have hpp:2 ^ s*2 ^ (64-s)=18446744073709551616:=by rw[←alT,show s+(64-s)=64 by omega]
 have hP:((2:Int) ^ s)=((2 ^ s:Nat):Int):=by norm_cast
 have hP2:((2:Int) ^ (64-s))=((2 ^ (64-s):Nat):Int):=by norm_cast
 have hp0:0<2 ^ s:=alK (by omega)
 have hlo:lo / 2 ^ (64-s)<2 ^ s:=by
  rw[akl (alK (by omega)),hpp];exact hl
 have hhi:hi*2 ^ s<18446744073709551616:=amf (akh _ (by omega)) hY1
 have hor:hi*2 ^ s|||lo / 2 ^ (64-s)=hi*2 ^ s+lo / 2 ^ (64-s):=by
  have:=amC hlo hi;rw[amD]at this;exact this.symm
 have hsum:hi*2 ^ s+lo / 2 ^ (64-s)<18446744073709551616:=by
  have h1:(hi+1)*2 ^ s≤y*2 ^ s:=akh _ hy;rw[aki]at h1;omega
 have hlw:lo / 2 ^ (64-s)<18446744073709551616:=amf (amA _ _) hl;have E11:IntKind.u64.wrap ((ajY IntKind.u64.bits ((hi*2 ^ s:Nat):Int)|||ajY IntKind.u64.bits ((lo / 2 ^ (64-s):Nat):Int)).toNat:Int)=((hi*2 ^ s+lo / 2 ^ (64-s):Nat):Int):=
  I7 hhi hlw (fun i _=>by rw[←hor,amE]) hsum
 have dv:∀a:Nat,(a:Int) / 2 ^ amj 32=((a / 4294967296:Nat):Int):=fun a=>by rw[p32];omega
 have dv2:∀a b:Nat,(a:Int) / (b:Int)=((a / b:Nat):Int):=fun a b=>(amx a b).symm;have ml:∀a b:Nat,(a:Int)*(b:Int)=((a*b:Nat):Int):=fun a b=>(amk a b).symm;have d32:amj 32≤IntKind.u64.bits:=by decide
 have b64:∀a:Nat,a≤64→a≤IntKind.u64.bits:=fun a h=>h;obtain⟨Y,hY⟩:∃Y,Y=y*2 ^ s:=⟨_,rfl⟩;obtain⟨u,hu⟩:∃u,u=hi*2 ^ s+lo / 2 ^ (64-s):=⟨_,rfl⟩;obtain⟨v,hv⟩:∃v,v=lo*2 ^ s % 18446744073709551616:=⟨_,rfl⟩;have hU:(hi*18446744073709551616+lo)*2 ^ s=u*18446744073709551616+v:=by
  have h1:=akm (lo*2 ^ s) 18446744073709551616;have h2:lo*2 ^ s / 18446744073709551616=lo / 2 ^ (64-s):=by
   rw[←hpp,←alG,akZ _ hp0]
  rw[hu,hv,←h2]
  grind
 have hw:v<18446744073709551616:=by rw[hv];exact akn _ (by omega)
 have huY:u<Y:=by
  have h1:(hi+1)*2 ^ s≤y*2 ^ s:=akh _ hy;rw[aki]at h1;omega
 rw[←hY]at hY1 hY2;have hsplit:=akm Y 4294967296;have ha:2147483648≤Y / 4294967296:=by omega
 have td:∀a b:Nat,(a:Int).tdiv (b:Int)=((a / b:Nat):Int):=fun _ _=>rfl;obtain⟨a,hea⟩:∃a,a=Y / 4294967296:=⟨_,rfl⟩;obtain⟨b,heb⟩:∃b,b=Y % 4294967296:=⟨_,rfl⟩;obtain⟨d1,hd1⟩:∃d1,d1=v / 4294967296:=⟨_,rfl⟩;obtain⟨d0,hd0⟩:∃d0,d0=v % 4294967296:=⟨_,rfl⟩;have hYab:a*4294967296+b=Y:=by omega
 have hb:b<4294967296:=by omega
 have hd1':d1<4294967296:=by omega
 have hd0':d0<4294967296:=by omega
 have haK:a<4294967296:=by omega
 have ha0:2147483648≤a:=by omega
 have hqb:u / a<18446744073709551616:=amf (amA _ _) (by omega)
 obtain⟨q1,hq1⟩:∃q1,q1=(u*4294967296+d1) / Y:=⟨_,rfl⟩;obtain⟨r1,hr1⟩:∃r1,r1=(u*4294967296+d1) % Y:=⟨_,rfl⟩;have sb:∀m n:Nat,n≤m→(m:Int)-(n:Int)=((m-n:Nat):Int):=fun m n h=>by omega
 have w1:∀n:Nat,n<18446744073709551616→IntKind.u64.wrap (n:Int)=n:=dG;have hdz:¬IntKind.u64.wrap ((y:Int)*2 ^ (IntKind.u64.wrap ((lzI (y:Int):Nat):Int)).toNat) / 2 ^ amj 32=0:=by
  simp only[E8,alR,hP,ml,←hY,dG _ hY1,dv];omega
 refine ay (md:=2) (rf:=[]) mixed av rR Tryz.func236 (by rfl) (by rfl) (by rfl) ?_
 repeat'((conv=>whnf);first|(intro hq;(try simp only[vw]at hq);try exact ak hq)|apply aI|exact aj|apply nM|apply fM)
 all_goals((try apply vM);(try simp only[vq]at*);try omega)
 all_goals(try exact hdz (by assumption))
 all_goals(try
  simp only[E8,E9,alR,hP,hP2,ml,dv,dv2,td,dG _ hhi,E11,←hY,←hu,dG _ hY1,rM _ hY1,xR,←hv,rM _ hw,←hea,←heb,←hd1,←hd0]
  )
 all_goals(try first|exact d32|exact b64 _ (by omega)|exact Int.natCast_nonneg _|omega)
 rw[←hYab]at hq1 hr1;have hr1Y:r1<Y:=by rw[hr1,hYab];exact akn _ (by omega)
 obtain⟨q0,hq0⟩:∃q0,q0=(r1*4294967296+d0) / (a*4294967296+b):=⟨_,rfl⟩;have hq1K:q1<4294967296:=by rw[hq1];exact aaG (by omega) (by omega) hd1'
 have hq0K:q0<4294967296:=by rw[hq0];exact aaG (by omega) (by omega) hd0'
 have U1:=un3 (u:=u) (d:=d1) hY1 (by omega)
 have U0:=un3 (u:=r1) (d:=d0) hY1 (by omega)
 rw[←hYab,←hq1,←hr1,hYab]at U1;rw[←hYab,←hq0,hYab]at U0;have hdiv:=TK (K:=4294967296) (U:=u*18446744073709551616+v) (Y:=Y) (by omega) (by omega)
 rw[show(u*18446744073709551616+v) / 4294967296=u*4294967296+d1 by omega,show(u*18446744073709551616+v) % 4294967296=d0 by omega,←hU]at hdiv
 have hback:=Bw (x:=hi*18446744073709551616+lo) (y:=y) hp0;rw[←hY,hdiv.1,hdiv.2]at hback;obtain⟨R1,R2⟩:=hback;rw[←hYab,←hq1,←hr1,←hq0]at R1;rw[←hYab,←hr1,hYab]at R2;have hs2:∀n:Nat,(n:Int) / 2 ^ ((s:Nat):Int).toNat=((n / 2 ^ s:Nat):Int):=fun n=>by rw[alR,hP,dv2]
 have R3:IntKind.u64.wrap (IntKind.u64.wrap ((q1:Int)*4294967296)+(q0:Int))=(((hi*18446744073709551616+lo) / y:Nat):Int):=by
  rw[←R1];simp only[wu];omega
 conv=>whnf
 refine jo (X:=Nat) (fun k=>btw 19 134 k) (fun q=>q1≤q∧q*a≤u∧u-q*a<4294967296∧q<18446744073709551616) (fun q=>[(15,.int .u64 q),(16,.int .u64 (u-q*a:Nat))]) (fun q=>[]) (fun q=>q) (u / a) ⟨aJ,mixed,av,rR,aR⟩ (by rfl) ?_ ?_ ?_
 ·have h1:=akm u a
  have h2:=akn u (show 0<a by omega)
  have e1:u / a*a=a*(u / a):=aj3 _ _;refine⟨?_,by omega,by omega,hqb⟩
  rw[hq1];exact uq (by omega) (by omega) hd1'
 ·have h1:=amF u a
  repeat'((conv=>whnf);first|intro _|apply aI|exact aj|apply nM|apply fM)
  all_goals((try apply vM);(try simp only[vq]at*);try omega)
  ·rw[aj7 hqb]
  ·rw[aj7 hqb,wu,wu,←amk]
   omega
 intro q ⟨hqQ,hqu,hqr,hqW⟩;obtain⟨F1,F2,F3,F4⟩:=st3 (b:=b) hb haK hd1' hqr hqW;rcases cs3 (d:=d1) (by omega) (by omega) hb hd1' hqu (hq1▸hqQ)with⟨c1,c2,c3⟩|⟨c1,c2,c3,c4,c5,c6⟩
 ·rw[←hq1]at c1
  have F2:=F2 c2;subst c1
  repeat'((conv=>whnf);first|(intro hq;(try simp only[vw]at hq);try exact ak hq)|apply aI|exact aj|apply nM|apply fM)
  all_goals((try apply vM);(try simp only[vq]at*);try omega)
  rw[U1];conv=>whnf
  refine jo (X:=Nat) (fun k=>btw 19 134 k) (fun t=>q0≤t∧t*a≤r1∧r1-t*a<4294967296∧t<18446744073709551616) (fun t=>[(18,.int .u64 t),(16,.int .u64 (r1-t*a:Nat))]) (fun t=>[]) (fun t=>t) (r1 / a) ⟨aJ,mixed,av,rR,aR⟩ (by rfl) ?_ ?_ ?_
  ·have h1:=akm r1 a
   have h2:=akn r1 (show 0<a by omega)
   have e1:r1 / a*a=a*(r1 / a):=aj3 _ _;have h3:=amA r1 a;refine⟨?_,by omega,by omega,by omega⟩
   rw[hq0];exact uq (by omega) (by omega) hd0'
  ·have h1:=amF r1 a
   have h3:=amA r1 a
   repeat'((conv=>whnf);first|intro _|apply aI|exact aj|apply nM|apply fM)
   all_goals((try apply vM);(try simp only[vq]at*);try omega)
   all_goals(try rw[td])
   all_goals(rw[dG (r1 / a) (by omega)])
   all_goals(try(rw[wu,wu,←amk];omega))
  intro t ⟨hqQ,hqu,hqr,hqW⟩;obtain⟨F1,F2,F3,F4⟩:=st3 (b:=b) hb haK hd0' hqr hqW;rcases cs3 (d:=d0) (by omega) (by omega) hb hd0' hqu (hq0▸hqQ)with⟨c1,c2,c3⟩|⟨c1,c2,c3,c4,c5,c6⟩
  ·rw[←hq0]at c1
   have F2:=F2 c2;subst c1;all_goals exact vX
  ·rw[←hq0]at c2 c6
   have F4:=F4 c1;have hnext:r1-t*a+a<4294967296→q0≤t-1∧(t-1)*a≤r1∧r1-(t-1)*a<4294967296∧t-1<18446744073709551616:=fun h=>⟨c2,c4,by omega,by omega⟩
   by_cases hK:t<4294967296
   ·have F2:=F2 hK
    have c3:=c3 hK;all_goals exact mO
   ·all_goals exact mO
 ·rw[←hq1]at c2 c6
  have F4:=F4 c1;have hnext:u-q*a+a<4294967296→q1≤q-1∧(q-1)*a≤u∧u-(q-1)*a<4294967296∧q-1<18446744073709551616:=fun h=>⟨c2,c4,by omega,by omega⟩
  by_cases hK:q<4294967296
  ·have F2:=F2 hK
   have c3:=c3 hK
   repeat'((conv=>whnf);first|(intro hq;(try simp only[vw]at hq);try exact ak hq)|apply aI|exact aj|apply nM|apply fM)
   all_goals((try apply vM);(try simp only[vq]at*);try omega)
   rotate_left
   all_goals first
    |(refine⟨q-1,[],⟨hnext (by omega),by omega⟩,?_⟩;rw[F3,F4,c5];repeat'((conv=>whnf);first|intro _|apply aI|exact aj|apply nM|apply fM);all_goals((try apply vM);(try simp only[vq]at*);try omega))
    |skip
   rw[F4,c6 (by omega),U1]
   conv=>whnf
   refine jo (X:=Nat) (fun k=>btw 19 134 k) (fun t=>q0≤t∧t*a≤r1∧r1-t*a<4294967296∧t<18446744073709551616) (fun t=>[(18,.int .u64 t),(16,.int .u64 (r1-t*a:Nat))]) (fun t=>[]) (fun t=>t) (r1 / a) ⟨aJ,mixed,av,rR,aR⟩ (by rfl) ?_ ?_ ?_
   ·have h1:=akm r1 a
    have h2:=akn r1 (show 0<a by omega)
    have e1:r1 / a*a=a*(r1 / a):=aj3 _ _;have h3:=amA r1 a;refine⟨?_,by omega,by omega,by omega⟩
    rw[hq0];exact uq (by omega) (by omega) hd0'
   ·have h1:=amF r1 a
    have h3:=amA r1 a
    repeat'((conv=>whnf);first|intro _|apply aI|exact aj|apply nM|apply fM)
    all_goals((try apply vM);(try simp only[vq]at*);try omega)
    all_goals(try rw[td])
    all_goals(rw[dG (r1 / a) (by omega)])
    all_goals(try(rw[wu,wu,←amk];omega))
   intro t ⟨hqQ,hqu,hqr,hqW⟩;obtain⟨F1,F2,F3,F4⟩:=st3 (b:=b) hb haK hd0' hqr hqW;rcases cs3 (d:=d0) (by omega) (by omega) hb hd0' hqu (hq0▸hqQ)with⟨c1,c2,c3⟩|⟨c1,c2,c3,c4,c5,c6⟩
   ·rw[←hq0]at c1
    have F2:=F2 c2;subst c1;all_goals exact vX
   ·rw[←hq0]at c2 c6
    have F4:=F4 c1;have hnext:r1-t*a+a<4294967296→q0≤t-1∧(t-1)*a≤r1∧r1-(t-1)*a<4294967296∧t-1<18446744073709551616:=fun h=>⟨c2,c4,by omega,by omega⟩
    by_cases hK:t<4294967296
    ·have F2:=F2 hK
     have c3:=c3 hK;all_goals exact mO
    ·all_goals exact mO
  ·repeat'((conv=>whnf);first|(intro hq;(try simp only[vw]at hq);try exact ak hq)|apply aI|exact aj|apply nM|apply fM)
   all_goals((try apply vM);(try simp only[vq]at*);try omega)
   rotate_left
   all_goals first
    |(refine⟨q-1,[],⟨hnext (by omega),by omega⟩,?_⟩;rw[F3,F4,c5];repeat'((conv=>whnf);first|intro _|apply aI|exact aj|apply nM|apply fM);all_goals((try apply vM);(try simp only[vq]at*);try omega))
    |skip
   rw[F4,c6 (by omega),U1]
   conv=>whnf
   refine jo (X:=Nat) (fun k=>btw 19 134 k) (fun t=>q0≤t∧t*a≤r1∧r1-t*a<4294967296∧t<18446744073709551616) (fun t=>[(18,.int .u64 t),(16,.int .u64 (r1-t*a:Nat))]) (fun t=>[]) (fun t=>t) (r1 / a) ⟨aJ,mixed,av,rR,aR⟩ (by rfl) ?_ ?_ ?_
   ·have h1:=akm r1 a
    have h2:=akn r1 (show 0<a by omega)
    have e1:r1 / a*a=a*(r1 / a):=aj3 _ _;have h3:=amA r1 a;refine⟨?_,by omega,by omega,by omega⟩
    rw[hq0];exact uq (by omega) (by omega) hd0'
   ·have h1:=amF r1 a
    have h3:=amA r1 a
    repeat'((conv=>whnf);first|intro _|apply aI|exact aj|apply nM|apply fM)
    all_goals((try apply vM);(try simp only[vq]at*);try omega)
    all_goals(try rw[td])
    all_goals(rw[dG (r1 / a) (by omega)])
    all_goals(try(rw[wu,wu,←amk];omega))
   intro t ⟨hqQ,hqu,hqr,hqW⟩;obtain⟨F1,F2,F3,F4⟩:=st3 (b:=b) hb haK hd0' hqr hqW;rcases cs3 (d:=d0) (by omega) (by omega) hb hd0' hqu (hq0▸hqQ)with⟨c1,c2,c3⟩|⟨c1,c2,c3,c4,c5,c6⟩
   ·rw[←hq0]at c1
    have F2:=F2 c2;subst c1;all_goals exact vX
   ·rw[←hq0]at c2 c6
    have F4:=F4 c1;have hnext:r1-t*a+a<4294967296→q0≤t-1∧(t-1)*a≤r1∧r1-(t-1)*a<4294967296∧t-1<18446744073709551616:=fun h=>⟨c2,c4,by omega,by omega⟩
    by_cases hK:t<4294967296
    ·have F2:=F2 hK
     have c3:=c3 hK;all_goals exact mO
    ·all_goals exact mO
def Bz:PSp:=fun xs K=>match xs with
 | [.int .u64 hi,.int .u64 lo,.int .u64 y]=>VC (0≤hi∧hi<y∧0≤lo∧lo<18446744073709551616∧y<18446744073709551616)∧K (.tup [.int .u64 ((hi*18446744073709551616+lo) / y),.int .u64 ((hi*18446744073709551616+lo) % y)])
 |_=>False
theorem Je:POK Tryz.prog 236 Bz:=by
 intro xs K hk;unfold Bz at hk;split at hk
 ·obtain⟨h1,h2,h3,h4,h5⟩:=hk.1.get
  rename_i hi lo y;obtain⟨X,rfl⟩:=amd h1;obtain⟨L,rfl⟩:=amd h3;obtain⟨Y,rfl⟩:=amd (show 0≤y by omega)
  refine⟨_,hk.2,?_⟩;have e1:(((X:Int)*18446744073709551616+(L:Int)) / (Y:Int))=(((X*W+L) / Y:Nat):Int):=by rw[amx];rfl
  have e2:(((X:Int)*18446744073709551616+(L:Int)) % (Y:Int))=(((X*W+L) % Y:Nat):Int):=by rw[al0];rfl
  rw[e1,e2];by_cases h0:X=0
  ·subst h0
   have:=TL L Y (by unfold W;omega) (by omega) (by unfold W;omega)
   simpa using this
  ·exact TN X L Y (by omega) (by unfold W;omega) (by omega) (by unfold W;omega)
 ·exact hk.elim
theorem acY {n i x z:Nat} {d e:Int} (hi:i<n) (h1:∀k,k<i→z / W ^ k % W=x / W ^ k % W) (h2:d=((z / W ^ i % W:Nat):Int)) (h3:e=((z / W ^ (i+1) % W:Nat):Int)) (hx:x<W ^ (i+1)) (hz:z<W ^ (i+2)):((dn W n x).set i d).set (i+1) e=dn W n z:=by
 apply alL
 ·simp[fQ]
 ·intro k g1 g2
  rw[alO,alO];simp only[dn,alP,alQ];split
  ·rename_i h;rw[h3,h]
  ·split
   ·rename_i h;rw[h2,h]
   ·by_cases hk:k<i
    ·rw[h1 k hk]
    ·have hp1:W ^ (i+1)≤W ^ k:=alW (by decide) (by omega)
     have hp2:W ^ (i+2)≤W ^ k:=alW (by decide) (by omega)
     rw[aj5 (by omega),aj5 (by omega)]
theorem acZ {n i x z:Nat} {d:Int} (hi:i<n) (h1:∀k,k<i→z / W ^ k % W=x / W ^ k % W) (h2:d=((z / W ^ i % W:Nat):Int)) (hx:x<W ^ (i+1)) (hz:z<W ^ (i+1)):(dn W n x).set i d=dn W n z:=by
 apply alL
 ·simp[fQ]
 ·intro k g1 g2
  rw[alO];simp only[dn,alP,alQ];split
  ·rename_i h;rw[h2,h]
  ·by_cases hk:k<i
   ·rw[h1 k hk]
   ·have hp1:W ^ (i+1)≤W ^ k:=alW (by decide) (by omega)
    rw[aj5 (by omega),aj5 (by omega)]
theorem shV {x i s:Nat} (hs:s≤63) {n:Nat} (hi:i<n):
 IntKind.u64.wrap ((ajY IntKind.u64.bits ((dn W n (x % W ^ i*2 ^ s)).getD i 0)|||ajY IntKind.u64.bits (IntKind.u64.wrap ((dl W x).getD i 0*2 ^ s))).toNat:Int)=((x % W ^ (i+1)*2 ^ s / W ^ i % W:Nat):Int)∧
 (dl W x).getD i 0 / 2 ^ (64-(s:Int)).toNat=((x % W ^ (i+1)*2 ^ s / W ^ (i+1) % W:Nat):Int):=by
 have hpr:2 ^ s*2 ^ (64-s)=W:=by rw[←alT,show s+(64-s)=64 by omega]
 obtain⟨g1,g2,g3,g4,g5⟩:=MF W2 x i hpr;have hp0:0<2 ^ s:=alK (by omega)
 have hxi:=akn (x / W ^ i) (by decide:W>0)
 have hpW:2 ^ s≤W:=by rw[←hpr];exact akE _ (alK (by omega))
 rw[CV _ _ _ _ hi,dz W2,aj7 (a:=x % W ^ i*2 ^ s / W ^ i) (by omega),g2,g3]
 generalize x % W ^ i*2 ^ s / W ^ i=o at*
 generalize x / W ^ i % W=t at*
 have eP:((t:Int)*2 ^ s)=((t*2 ^ s:Nat):Int):=by norm_cast
 have em:t*2 ^ s % W=(t % 2 ^ (64-s))*2 ^ s:=by rw[←hpr,aj3 (2 ^ s) (2 ^ (64-s)),al5]
 constructor
 ·rw[eP,show IntKind.u64.wrap ((t*2 ^ s:Nat):Int)=((t*2 ^ s % W:Nat):Int)from xR _]
  have:=amC g1 (t % 2 ^ (64-s));rw[amD,←em]at this;have hm:=akn (t*2 ^ s) (by decide:W>0)
  generalize t*2 ^ s % W=m at*
  change m<18446744073709551616 at hm;change IntKind.u64.wrap ((ajY IntKind.u64.bits (o:Int)|||ajY IntKind.u64.bits (m:Int)).toNat:Int)=_;have ho:o<18446744073709551616:=by unfold W at*;omega
  refine I7 ho hm (fun k _=>?_) g5;rw[ame,this,amE,amG]
 ·rw[show((64:Int)-(s:Int)).toNat=64-s by omega]
  have e3:t*2 ^ s / W=t / 2 ^ (64-s):=by rw[←hpr,←alG,akZ _ hp0]
  rw[e3,aj7 (amf (amA _ _) hxi),amx]
  norm_cast
theorem shL {x i s:Nat} (hs:s≤63):x % W ^ i*2 ^ s<W ^ (i+1):=by
 rw[alH];have h1:=akn x (pw W2 i);have h2:2 ^ s<W:=Nat.pow_lt_pow_right (by omega) (show s<64 by omega)
 exact amn h1 h2
theorem Xt (x s:Nat) (hx:(dl W x).length≤400000000000) (hs:s≤63):dI Tryz.prog 238 [.isl (wd x) .none,.int .i64 s] [] [.rsl 0 0 ((dl W x).length+1)] [.cells (.ints .u64 (dn W ((dl W x).length+1) (x*2 ^ s))) false]:=by
 refine dW (md:=3) (rf:=[]) mixed av aF 0 [(0,0)] Tryz.func238 (by rfl) (by rfl) (by rfl) ?_
 repeat'((conv=>whnf);first|(intro hq;(try simp only[vw]at hq);try exact ak hq)|apply aI|exact aj|apply nM|apply fM)
 all_goals((try apply vM);(try simp only[vq]at*);try omega)
 ·exact .inl trivial
 conv=>whnf
 refine aU (X:=Nat) (fun i=>i≤(dl W x).length) (fun i=>[(14,.int .i64 i)]) (fun i=>[(0,.cells (.ints .u64 (dn W ((dl W x).length+1) (x % W ^ i*2 ^ s))) false)]) (fun i=>(dl W x).length-i) 0 ⟨aJ,mixed,av,aF,aR⟩ (by rfl) (by omega) ?_ ?_
 ·repeat'((conv=>whnf);first|intro _|apply aI|exact aj|apply nM|apply fM)
  all_goals((try apply vM);(try simp only[vq]at*);try omega)
  rw[show x % W ^ 0*2 ^ s=0 by rw[amo,akr,akD],rH,show(((dl W x).length:Int)+1).toNat=(dl W x).length+1 by omega]
 intro i hi;have hm0:=fQ W ((dl W x).length+1) (x % W ^ i*2 ^ s);by_cases e:i=(dl W x).length
 ·subst e
  repeat'((conv=>whnf);first|(intro hq;(try simp only[vw]at hq);try exact ak hq)|apply aI|exact aj|apply nM|apply fM)
  all_goals((try apply vM);(try simp only[vq]at*);try omega)
  rw[aj7 (fP W2 x)]
 ·have hr1:=qY x i
  obtain⟨V1,V2⟩:=shV (x:=x) (i:=i) (n:=(dl W x).length+1) hs (by omega)
  have low:∀k,k<i→x % W ^ (i+1)*2 ^ s / W ^ k % W=x % W ^ i*2 ^ s / W ^ k % W:=(MF W2 x i (p:=2 ^ s) (r:=2 ^ (64-s)) (by rw[←alT,show s+(64-s)=64 by omega])).2.2.2.1
  have b64:∀a:Nat,a≤64→a≤IntKind.u64.bits:=fun a h=>h;by_cases hs0:s=0
  ·subst hs0
   repeat'((conv=>whnf);first|(intro hq;(try simp only[vw]at hq);try exact ak hq)|apply aI|exact aj|apply nM|apply fM)
   all_goals((try apply vM);(try simp only[vq]at*);try omega)
   rw[V1,acZ (by omega) low rfl (shL (s:=0) (by omega)) (by rw[amo,aj9];exact akn _ (pw W2 _))]
   refine⟨i+1,[],⟨by omega,by omega⟩,?_⟩
   rw[show((i+1:Nat):Int)=(i:Int)+1 by omega]
   all_goals exact aW
  ·repeat'((conv=>whnf);first|(intro hq;(try simp only[vw]at hq);try exact ak hq)|apply aI|exact aj|apply nM|apply fM)
   all_goals((try apply vM);(try simp only[vq]at*);try omega)
   all_goals first
    |exact b64 _ (by omega)
    |(rw[ake,hm0];omega)
    |(rw[V1,V2,show((i:Int)+1).toNat=i+1 by omega,acY (by omega) low rfl rfl (shL hs) (shL hs)]
      refine⟨i+1,[],⟨by omega,by omega⟩,?_⟩
      rw[show((i+1:Nat):Int)=(i:Int)+1 by omega]
      all_goals exact aW)
def Xu:LSp:=fun xs objs K=>match xs,objs with
 | [.isl (.ints .u64 l) .none,.int .i64 s],[]=>VC (Dw l∧l.length≤400000000000∧0≤s∧s≤63)∧K [.rsl 0 0 (l.length+1)] [.cells (.ints .u64 (dn W (l.length+1) (vw l*2 ^ s.toNat))) false]
 |_,_=>False
end Go.Eng.YtmkagljofpddpaaGreatDoor
namespace Go.Eng.Dig
set_option linter.unusedSimpArgs false
set_option linter.unusedVariables false
def sg (B n j i d z:Nat):List Int:=(ajO n).map fun k=>if j≤k∧k<j+i then((d / B ^ (k-j) % B:Nat):Int)else((z / B ^ k % B:Nat):Int)
theorem Jf (B n j i d z:Nat):(sg B n j i d z).length=n:=by simp[sg]
theorem Dk (B n j i d z k:Nat) (h:k<n):(sg B n j i d z).getD k 0=if j≤k∧k<j+i then((d / B ^ (k-j) % B:Nat):Int)else((z / B ^ k % B:Nat):Int):=by
 simp[sg,ajQ,h]
theorem MQ (B n j d z:Nat):sg B n j 0 d z=dn B n z:=by
 unfold sg dn;refine alN fun k hk=>?_;rw[if_neg (by omega)]
theorem wJ {B n j i d z:Nat} (h:j+i<n) {x:Int} (hx:x=((d / B ^ i % B:Nat):Int)):(sg B n j i d z).set (j+i) x=sg B n j (i+1) d z:=by
 apply alL
 ·simp[Jf]
 ·intro k h1 h2
  rw[alO];simp only[sg,alP,alQ];split
  ·subst_vars;rw[if_pos (by omega),show j+i-j=i by omega]
  ·split<;>split<;>first|rfl|omega
theorem Jg {B n j i z r:Nat} (hB:2≤B) (hr:r<B ^ i) (hz:z / B ^ (j+i)=0) {d:Nat} (hd:∀k,k<i→d / B ^ k % B=r / B ^ k % B):sg B n j i d z=dn B n (z % B ^ j+r*B ^ j):=by
 have hp:=pw hB j;have hm:=akn z hp;unfold sg dn;refine alN fun k hk=>?_;congr 1;by_cases h1:k<j
 ·rw[if_neg (by omega)]
  congr 1
  obtain⟨t,rfl⟩:∃t,j=k+(t+1):=⟨j-k-1,by omega⟩
  have e:z % B ^ (k+(t+1))+r*B ^ (k+(t+1))=z % B ^ (k+(t+1))+(r*B ^ t*B)*B ^ k:=by rw[alT B k (t+1),alH];grind
  rw[e,alX _ _ (pw hB k),al2,Tc B z (k+(t+1)) k (by omega)]
 ·obtain⟨t,rfl⟩:∃t,k=j+t:=⟨k-j,by omega⟩
  have e:(z % B ^ j+r*B ^ j) / B ^ (j+t)=r / B ^ t:=by
   rw[alT,←alG,alX _ _ hp,aj5 hm,aj2]
  rw[e];by_cases h2:t<i
  ·rw[if_pos (by omega),show j+t-j=t by omega,hd t h2]
  ·rw[if_neg (by omega)]
   congr 1
   have h3:z / B ^ (j+t)=0:=by
    obtain⟨s,rfl⟩:∃s,t=i+s:=⟨t-i,by omega⟩
    rw[←ajB,alT,←alG,hz,Nat.zero_div]
   have h4:r / B ^ t=0:=aj5 (ajF hr (alW (by omega) (by omega)))
   rw[h3,h4]
def qc (B q v i:Nat):Nat:=q*(v % B ^ i) / B ^ i
theorem ac0 (B q v:Nat):qc B q v 0=0:=by simp[qc,akr]
theorem TP {B:Nat} (hB:2≤B) (q v i:Nat):q*(v % B ^ (i+1)) / B ^ i=q*(v / B ^ i % B)+qc B q v i:=by
 rw[nD,Nat.mul_add,←al7,alX _ _ (pw hB i)];unfold qc;omega
theorem ac1 {B:Nat} (hB:2≤B) (q v i:Nat):(q*(v / B ^ i % B)+qc B q v i) / B=qc B q v (i+1):=by
 rw[←TP hB,alG];rfl
theorem agh {B:Nat} (hB:2≤B) (q v i:Nat):(q*(v / B ^ i % B)+qc B q v i) % B=q*v / B ^ i % B:=by
 rw[←TP hB,←alU,←alU,←alH,al6,alZ,←al6]
theorem Qk {B:Nat} (hB:2≤B) {q:Nat} (hq:q<B) (v i:Nat):qc B q v i<B:=by
 unfold qc;rw[akl (pw hB i)];have h1:=akn v (pw hB i);by_cases h0:q=0
 ·subst h0;rw[akD];exact al8 (by omega) (pw hB i)
 ·exact ajF (amB h1 (by omega)) (akh _ (by omega))
theorem agi {B q v n:Nat} (hv:v<B ^ n):qc B q v n=q*v / B ^ n:=by unfold qc;rw[aj7 hv]
theorem Jh {B:Nat} (hB:2≤B) (t m i:Nat) (h:i<m):(t+B ^ m) / B ^ i % B=t / B ^ i % B:=by
 obtain⟨s,rfl⟩:∃s,m=i+(s+1):=⟨m-i-1,by omega⟩
 rw[show t+B ^ (i+(s+1))=t+(B ^ s*B)*B ^ i by rw[alT,alH];grind,alX _ _ (pw hB i),al2]
theorem ahz {B:Nat} (hB:2≤B) (t m y i:Nat) (h:i≤m):bo B (t+B ^ m) y i=bo B t y i:=by
 obtain⟨s,rfl⟩:∃s,m=i+s:=⟨m-i,by omega⟩
 unfold bo;rw[show t+B ^ (i+s)=t+B ^ s*B ^ i by rw[alT];grind,al2]
theorem MR {B:Nat} (hB:2≤B) {t m y:Nat} (hy:y≤t+B ^ m) {i:Nat} (hi:i<m):(((t / B ^ i % B:Nat):Int)-((y / B ^ i % B:Nat):Int)-(bo B t y i:Int)) % B=(((t+B ^ m-y) / B ^ i % B:Nat):Int):=by
 rw[←Tf hB hy,Jh hB t m i hi,ahz hB t m y i (by omega)]
end Go.Eng.Dig
namespace Go.Eng.YtmkagljofpddpaaGreatDoor
open Go.Proofs Go.Eng.Dig
set_option linter.unusedSimpArgs false
set_option linter.unusedVariables false
set_option maxHeartbeats 0
set_option maxRecDepth 100000
theorem agj:LOK Tryz.prog 238 Xu:=by
 intro xs objs K hk;unfold Xu at hk;split at hk
 ·rename_i l s
  obtain⟨h1,h2,h3,h4⟩:=hk.1.get;obtain⟨x,rfl⟩:=jY h1;obtain⟨t,rfl⟩:=amd h3;refine⟨_,_,hk.2,?_⟩;rw[dN];exact Xt x t h2 (by omega)
 ·exact hk.elim
noncomputable def ait:CPT:=aB 189 (aP rO) (aB 231 (aP wG) (aB 233 (aP Bt) (aB 236 (aP Bz) noC)))
theorem xZ:bC Tryz.prog ait:=au (aC uf) (au (nO zk) (au (nO I5) (au (aC Je) aF)))
theorem Ql {V T n:Nat} (hn:(dl W V).length=n) (hn2:2≤n) (hT:T<W*V):∃u0 u1 u2 v1 v2:Nat,T / W ^ n % W=u0∧T / W ^ (n-1) % W=u1∧T / W ^ (n-2) % W=u2∧V / W ^ (n-1) % W=v1∧V / W ^ (n-2) % W=v2∧
 u0<W∧u1<W∧u2<W∧v1<W∧v2<W∧1≤v1∧u0≤v1∧(∀q,u0*W+u1+1≤(q+1)*v1→T / V≤q)∧(∀q,(u0*W+u1)*W+u2<q*(v1*W+v2)→T / V<q)∧(∀q,q≤W→q*(v1*W+v2)≤(u0*W+u1)*W+u2→q≤T / V+1):=by
 obtain⟨m,rfl⟩:∃m,n=m+2:=⟨n-2,by omega⟩
 rw[show m+2-1=m+1 by omega,show m+2-2=m by omega]
 have hVl:=fP W2 V;rw[hn]at hVl;have hVg:=qL W2 V (m+1) hn;have hW:0<W:=by decide
 have p0:=pw W2 m;have p1:=pw W2 (m+1);have hTl:T<W ^ (m+3):=by
  have:W*V≤W*W ^ (m+2):=al3 _ (by omega)
  rw[alH W (m+2),aj3];omega
 have tU:=jv W T m;have tU1:=jv W T (m+1);have tU2:=jv W T (m+2);have tU3:T / W ^ (m+3)=0:=aj5 hTl;have tV:=jv W V m;have tV1:=jv W V (m+1);have tV2:V / W ^ (m+2)=0:=aj5 hVl;have l0:=akn (T / W ^ (m+2)) hW;have l1:=akn (T / W ^ (m+1)) hW;have l2:=akn (T / W ^ m) hW;have l3:=akn (V / W ^ (m+1)) hW;have l4:=akn (V / W ^ m) hW;have q1:1≤V / W ^ (m+1):=(ako p1).2 (by omega)
 have d0:=akm T (W ^ m);have m0:=akn T p0;have d1:=akm T (W ^ (m+1));have m1:=akn T p1;have e0:=akm V (W ^ m);have n0:=akn V p0;have e1:=akm V (W ^ (m+1));have n1:=akn V p1;rw[show m+2+1=m+3 from rfl,tU3,akD,aj2]at tU2;rw[show m+1+1=m+2 from rfl,tV2,akD,aj2]at tV1;rw[show m+1+1=m+2 from rfl]at tU1;rw[←tU2]at l0;rw[←tV1]at l3;have hu0:T / W ^ (m+2)≤V / W ^ (m+1):=by
  have:T / W ^ (m+2)=T / W / W ^ (m+1):=by rw[alG,alH W (m+1),aj3]
  rw[this];exact alV (ama ((akl hW).2 (by rw[aj3];exact hT)))
 refine⟨_,_,_,_,_,rfl,rfl,rfl,rfl,rfl,?_⟩;rw[←tU2,←tV1];refine⟨l0,l1,l2,l3,l4,q1,hu0,fun q hq=>?_,fun q hq=>?_,fun q hq h=>?_⟩
 ·rw[←tU1]at hq
  exact Xf (B:=W) (p:=W ^ (m+1)) (u1:=T / W ^ (m+1)) (v1:=V / W ^ (m+1)) (by rw[aj3];exact amH T p1) (amF _ _) hq
 ·rw[←tU1,←tU,←tV]at hq
  exact Qb (p:=W ^ m) (u2:=T / W ^ m) (v2:=V / W ^ m) (by rw[aj3];exact amH T p0) (amF _ _) hq
 ·rw[←tU1,←tU,←tV]at h
  refine Qc (B:=W) (p:=W ^ m) (u2:=T / W ^ m) (v2:=V / W ^ m) (w:=V % W ^ m) (amF _ _) (amI V (W ^ m)).symm n0 ?_ hq h;have h1:1*W≤V / W ^ (m+1)*W:=akh _ q1;rw[akj]at h1;rw[tV];exact ajI h1 (Nat.le_add_right _ _)
theorem ahA {V Z L j T q D:Nat} (hTT:Z / W ^ j=T) {n:Nat} (hD:D=T+W ^ (n+1)-q*V) (hqV:q*V≤T+W ^ (n+1)) (hq:q<W) {i:Nat} (hi:i≤n) (hj:j+n+1≤L):
 ∃P O:Int,(q:Int)*(dl W V).getD i 0=P∧(sg W L j i D Z).getD (j+i) 0=O∧0≤P∧P≤340282366920938463426481119284349108225∧0≤O∧O<18446744073709551616∧
 IntKind.u64.wrap (P / 18446744073709551616+(P % 18446744073709551616+(qc W q V i:Nat)+0) / 18446744073709551616)=(qc W q V (i+1):Nat)∧
 (O-(P % 18446744073709551616+(qc W q V i:Nat)+0) % 18446744073709551616-(bo W T (q*V) i:Nat)) % 18446744073709551616=((D / W ^ i % W:Nat):Int)∧
 (if O<(P % 18446744073709551616+(qc W q V i:Nat)+0) % 18446744073709551616+(bo W T (q*V) i:Nat)then(1:Int)else 0)=(bo W T (q*V) (i+1):Nat):=by
 refine⟨((q*(V / W ^ i % W):Nat):Int),((T / W ^ i % W:Nat):Int),?_,?_,?_⟩
 ·rw[dz W2,amk]
 ·rw[Dk _ _ _ _ _ _ _ (by omega),if_neg (by omega),alT,←alG,hTT]
 ·have e1:=ac1 W2 q V i
  have e2:=agh W2 q V i;have e3:=CW W2 T (q*V) i;have e4:=MR W2 hqV (i:=i) (by omega)
  rw[←hD]at e4;have h1:=akn (T / W ^ i) (by decide:W>0)
  have h2:=akn (V / W ^ i) (by decide:W>0)
  have h4:=akM (show q≤18446744073709551615 by unfold W at*;omega) (show V / W ^ i % W≤18446744073709551615 by unfold W at*;omega)
  have h5:=Qk W2 hq V i;have h6:=Qa W T (q*V) i;rw[←e4,e3,←e2,←e1];clear e1 e2 e3 e4;generalize q*(V / W ^ i % W)=a at*
  generalize T / W ^ i % W=b at*
  generalize qc W q V i=c at*
  generalize bo W T (q*V) i=g at*
  unfold W at*;refine⟨by omega,by omega,by omega,by omega,by rw[wu];omega,by omega,?_⟩
  split<;>split<;>omega
theorem ahB {V Z L j T q D:Nat} (hTT:Z / W ^ j=T) {n:Nat} (hV:V<W ^ n) (hD:D=T+W ^ (n+1)-q*V) (hqV:q*V≤T+W ^ (n+1)) (hq:q<W) (hj:j+n+1≤L):
 ∃O:Int,(sg W L j n D Z).getD (j+n) 0=O∧0≤O∧O<18446744073709551616∧(O-(qc W q V n:Nat)-(bo W T (q*V) n:Nat)) % 18446744073709551616=((D / W ^ n % W:Nat):Int)∧
 (if O<(qc W q V n:Nat)+(bo W T (q*V) n:Nat)then(1:Int)else 0)=(bo W T (q*V) (n+1):Nat):=by
 refine⟨((T / W ^ n % W:Nat):Int),?_,?_⟩
 ·rw[Dk _ _ _ _ _ _ _ (by omega),if_neg (by omega),alT,←alG,hTT]
 ·have e2:qc W q V n=q*V / W ^ n % W:=by
   have:=Qk W2 hq V n;rw[agi hV]at this⊢;exact(aj7 this).symm
  have e3:=CW W2 T (q*V) n;have e4:=MR W2 hqV (i:=n) (by omega)
  rw[←hD,←e2]at e4;rw[←e2]at e3;have h1:=akn (T / W ^ n) (by decide:W>0)
  rw[←e4,e3];generalize T / W ^ n % W=b at*
  generalize qc W q V n=c at*
  generalize bo W T (q*V) n=g at*
  unfold W at*;refine⟨by omega,by omega,rfl,?_⟩
  split<;>split<;>omega
theorem ahC {V D r n k:Nat} (hDV:D+V=r+W ^ (n+1)) (hk:k≤n):(((D / W ^ k % W:Nat):Int)+(dl W V).getD k 0+(ca W D V k:Nat)) % 18446744073709551616=((r / W ^ k % W:Nat):Int)∧(((D / W ^ k % W:Nat):Int)+(dl W V).getD k 0+(ca W D V k:Nat)) / 18446744073709551616=(ca W D V (k+1):Nat):=by
 have e1:=IY W2 D V k;have e2:=Mt W2 D V k;rw[hDV,Jh W2 r (n+1) k (by omega)]at e1
 rw[dz W2,←e1,←e2];generalize D / W ^ k % W=a
 generalize V / W ^ k % W=b
 generalize ca W D V k=c
 unfold W;omega
theorem TQ (V Z L j:Nat) (hn2:2≤(dl W V).length) (hj:j+(dl W V).length+1≤L) (hL:L≤900000000000) (hT:Z / W ^ j<W*V):
 dI Tryz.prog 239 [.rsl 0 j ((dl W V).length+1),.isl (wd V) .none] [.cells (.ints .u64 (dn W L Z)) false] [.int .u64 ((Z / W ^ j / V:Nat):Int)] [.cells (.ints .u64 (dn W L (Z % W ^ j+Z / W ^ j % V*W ^ j))) false]:=by
 have hU:∀k,k≤(dl W V).length→(dn W L Z).getD (j+k) 0=((Z / W ^ j / W ^ k % W:Nat):Int):=fun k hk=>by
  rw[CV _ _ _ _ (by omega),alT,alG]
 have hlen:=fQ W L Z;generalize hTT:Z / W ^ j=T at*
 obtain⟨u0,u1,u2,v1,v2,a0,a1,a2,b1,b2,l0,l1,l2,m1,m2,hv1,huv,gA,gB,gC⟩:=Ql rfl hn2 hT;have H0:(dn W L Z).getD (j+(dl W V).length) 0=(u0:Int):=by rw[hU _ (ajE _),a0]
 have H1:(dn W L Z).getD (j+(((dl W V).length:Int)-1).toNat) 0=(u1:Int):=by rw[show(((dl W V).length:Int)-1).toNat=(dl W V).length-1 by omega,hU _ (by omega),a1]
 have H2:(dn W L Z).getD (j+(((dl W V).length:Int)-2).toNat) 0=(u2:Int):=by rw[show(((dl W V).length:Int)-2).toNat=(dl W V).length-2 by omega,hU _ (by omega),a2]
 have G1:(dl W V).getD (((dl W V).length:Int)-1).toNat 0=(v1:Int):=by rw[show(((dl W V).length:Int)-1).toNat=(dl W V).length-1 by omega,dz W2,b1]
 have G2:(dl W V).getD (((dl W V).length:Int)-2).toNat 0=(v2:Int):=by rw[show(((dl W V).length:Int)-2).toNat=(dl W V).length-2 by omega,dz W2,b2]
 clear a0 a1 a2 b1 b2;have l0':u0<18446744073709551616:=l0;have l1':u1<18446744073709551616:=l1;have l2':u2<18446744073709551616:=l2;have m1':v1<18446744073709551616:=m1;have m2':v2<18446744073709551616:=m2;have gA':∀q,u0*18446744073709551616+u1+1≤(q+1)*v1→T / V≤q:=gA;have gB':∀q,(u0*18446744073709551616+u1)*18446744073709551616+u2<q*(v1*18446744073709551616+v2)→T / V<q:=gB;have gC':∀q,q≤18446744073709551616→q*(v1*18446744073709551616+v2)≤(u0*18446744073709551616+u1)*18446744073709551616+u2→q≤T / V+1:=gC;clear gA gB gC l0 l1 l2 m1 m2;obtain⟨t2,ht2⟩:∃t2,t2=u0*18446744073709551616+u1:=⟨_,rfl⟩;rw[←ht2]at gA' gB' gC';have hstart:∃Q0,(T / V≤Q0∧Q0<18446744073709551616∧Q0*v1≤t2∧t2-Q0*v1<36893488147419103232)∧(v1≤u0→Q0=18446744073709551615∧t2-Q0*v1=v1+u1)∧(u0<v1→Q0=t2 / v1∧t2-Q0*v1=t2 % v1):=by
  by_cases hb:v1≤u0
  ·have:u0=v1:=by omega
   refine⟨18446744073709551615,⟨by have:=Nat.div_lt_of_lt_mul (show T<V*18446744073709551616 by rw[aj3];exact hT);omega,by omega,by omega,by omega⟩,fun _=>⟨rfl,by omega⟩,fun h=>absurd h (by omega)⟩
  ·have hd:=akm t2 v1
   have hm:=akn t2 hv1;have hc:t2 / v1*v1=v1*(t2 / v1):=aj3 _ _;have hq1:t2 / v1<18446744073709551616:=by
    rw[akl hv1];omega
   refine⟨t2 / v1,⟨gA' _ (by rw[aki];omega),by omega,by omega,by omega⟩,fun h=>absurd h hb,fun _=>⟨rfl,by omega⟩⟩
 obtain⟨Q0,hI0,hs1,hs2⟩:=hstart;refine dW (md:=3) (rf:=[]) mixed av xZ 1 [] Tryz.func239 (by rfl) (by rfl) (by rfl) ?_
 repeat'((conv=>whnf);first|(intro hq;(try simp only[vw]at hq);try exact ak hq)|apply aI|exact aj|apply nM|apply fM)
 all_goals((try apply vM);(try simp only[vq]at*);try omega)
 all_goals(try(refine⟨by omega,by omega,by omega,by omega,by omega⟩))
 all_goals(try(refine⟨by omega,by omega,by omega,by omega⟩))
 all_goals(conv=>whnf)
 all_goals(refine jo (X:=Nat) (fun k=>btw 19 185 k) (fun q=>T / V≤q∧q<18446744073709551616∧q*v1≤t2∧t2-q*v1<36893488147419103232) (fun q=>[(6,.int .u64 q),(7,.int .u64 ((t2-q*v1) % 18446744073709551616:Nat)),(8,.int .u64 ((t2-q*v1) / 18446744073709551616:Nat)),(9,.any),(10,.any)]) (fun q=>[]) (fun q=>q) Q0 ⟨aJ,mixed,av,xZ,aR⟩ (by rfl) hI0 ?_ ?_)
 ·obtain⟨e1,e2⟩:=hs1 (by omega)
  repeat'((conv=>whnf);first|intro _|apply aI|exact aj|apply nM|apply fM)
  all_goals((try apply vM);(try simp only[vq]at*);try omega)
  all_goals first
   |(rw[e1];rfl)
   |(rw[e2];try omega)
 rotate_left
 ·obtain⟨e1,e2⟩:=hs2 (by omega)
  have hm:=akn t2 hv1;have t2I:(u0:Int)*18446744073709551616+(u1:Int)=((t2:Nat):Int):=by omega
  repeat'((conv=>whnf);first|intro _|apply aI|exact aj|apply nM|apply fM)
  all_goals((try apply vM);(try simp only[vq]at*);try omega)
  ·rw[H0,H1,G1,t2I,e1];try rfl
  ·rw[H0,H1,G1,t2I,e2,aj7 (by omega)];try rfl
  all_goals(rw[e2,aj5 (by omega)];try rfl)
 all_goals
  intro q ⟨hqQ,hqW,hqt,hqr⟩;have hF:(q:Int)*(dl W V).getD (((dl W V).length:Int)-2).toNat 0=((q*v2:Nat):Int):=by rw[G2,amk]
  have hqv:q*v2≤18446744073709551615*18446744073709551615:=akM (by omega) (by omega)
  have eV:q*(v1*18446744073709551616+v2)=q*v1*18446744073709551616+q*v2:=by grind
  have gB:=gB' q;have gC:=gC' q (by omega)
  rw[eV]at gB gC;have eq1:1≤q→(q-1)*v1=q*v1-v1:=fun h=>by rw[Nat.sub_mul,akj]
  have hq1v:1≤q→v1≤q*v1:=fun h=>amJ _ h;have hq0:(t2-q*v1)*18446744073709551616+u2<q*v2→1≤q:=fun h=>akk fun h0=>by subst h0;omega
  have hw1:1≤q→IntKind.u64.wrap ((q:Int)-1)=((q-1:Nat):Int):=fun h=>by rw[wu];omega
 all_goals
  by_cases hov:(t2-q*v1) / 18446744073709551616=0
 all_goals(try(
  by_cases hpass:q*v2≤(t2-q*v1)*18446744073709551616+u2))
 all_goals repeat'((conv=>whnf);first|(intro hq;(try simp only[vw]at hq);try exact ak hq)|apply aI|exact aj|apply nM|apply fM)
 all_goals all_goals((try apply vM);(try simp only[vq]at*);try omega)
 all_goals(try(
  refine⟨q-1,[],⟨⟨by omega,by omega,by omega,by omega⟩,by omega⟩,?_⟩
  rw[hw1 (by omega),G1]
  repeat'((conv=>whnf);first|intro _|apply aI|exact aj|apply nM|apply fM)
  all_goals((try apply vM);(try simp only[vq]at*);try omega)))
 all_goals
  have hqT:q≤T / V+1:=by
   by_cases hov':(t2-q*v1) / 18446744073709551616=0
   ·exact gC (by omega)
   ·exact gC (by omega)
  obtain⟨D,hD⟩:∃D,D=T+W ^ ((dl W V).length+1)-q*V:=⟨_,rfl⟩;have hVl:=fP W2 V;have hV0:0<V:=akk fun h=>by subst h;simp[kZ]at hn2
  have hTV:T / V*V≤T:=amF _ _;have hqV1:q*V≤(T / V+1)*V:=akh _ hqT;have hVW:V<W ^ ((dl W V).length+1):=ajF hVl (alW (by decide) (by omega))
  have hqV:q*V≤T+W ^ ((dl W V).length+1):=by rw[aki,akj]at hqV1;omega
  have hTl:T<W ^ ((dl W V).length+1):=ajF hT (by rw[alH,aj3];exact akh _ (ama hVl))
  have hql:q*V<W ^ ((dl W V).length+1):=by rw[alH,aj3];exact amn hVl hqW
  have hbl:bo W T (q*V) ((dl W V).length+1)=if T<q*V then 1 else 0:=by unfold bo;rw[aj7 hTl,aj7 hql]
  clear gA' gB' gC' gB gC eV eq1 hq1v hq0 hs1 hs2 hI0 hqt hqr H0 H1 H2 G1 G2 hF hqv hqV1 hTV;conv=>whnf
  refine jo (X:=Nat) (fun k=>btw 19 103 k||btw 106 185 k) (fun i=>i≤(dl W V).length) (fun i=>[(105,.int .i64 i),(11,.int .u64 (bo W T (q*V) i:Nat)),(12,.int .u64 (qc W q V i:Nat)),(13,.any),(14,.any),(15,.any),(16,.any)]) (fun i=>[(0,.cells (.ints .u64 (sg W L j i D Z)) false)]) (fun i=>(dl W V).length-i) 0 ⟨aJ,mixed,av,xZ,aR⟩ (by rfl) (by omega) ?_ ?_
  ·repeat'((conv=>whnf);first|intro _|apply aI|exact aj|apply nM|apply fM)
   all_goals((try apply vM);(try simp only[vq]at*);try omega)
   all_goals first|(rw[Mv];rfl)|(rw[ac0];rfl)|(rw[MQ])
  intro i hi;have hm:=Jf W L j i D Z;have hqc:qc W q V i<18446744073709551616:=Qk W2 hqW V i;have hbo:=Qa W T (q*V) i;have hv:=qY V i;by_cases e:i=(dl W V).length
  ·subst e
   obtain⟨O,e1,o0,o1,E1,E2⟩:=ahB hTT hVl hD hqV hqW hj;rw[←e1]at E2;by_cases hlt:T<q*V
   ·rw[hbl,if_pos hlt]at E2
    have hq1:q=T / V+1:=by
     have:¬q≤T / V:=fun h=>by
      have:=(ako hV0).1 h;omega
     omega
    have hwq:IntKind.u64.wrap ((q:Int)-1)=((T / V:Nat):Int):=by
     have:(q:Int)-1=((T / V:Nat):Int):=by rw[hq1];omega
     rw[this,dG _ (by omega)]
    have hqm:q*V=T / V*V+V:=by rw[hq1,aki,akj]
    have hdm:=amI T V;obtain⟨r,hr⟩:∃r,r=T % V:=⟨_,rfl⟩;rw[←hr]at hdm⊢;have hrV:r<V:=by rw[hr];exact akn _ hV0
    have hDV:D+V=r+W ^ ((dl W V).length+1):=by omega
    have hDl:D<W ^ ((dl W V).length+1):=by omega
    have hz0:Z / W ^ (j+((dl W V).length+1))=0:=by rw[alT,←alG,hTT];exact aj5 hTl
    obtain⟨Z2,hZ2⟩:∃Z2,Z2=Z % W ^ j+D*W ^ j:=⟨_,rfl⟩;have hZ2d:Z2 / W ^ j=D:=by rw[hZ2,alX _ _ (pw W2 j),aj5 (akn _ (pw W2 j)),aj2]
    have hZ2m:Z2 % W ^ j=Z % W ^ j:=by rw[hZ2,al2,alZ]
    have hz2:Z2 / W ^ (j+((dl W V).length+1))=0:=by rw[alT,←alG,hZ2d];exact aj5 hDl
    have hall:sg W L j ((dl W V).length+1) D Z=sg W L j 0 r Z2:=by rw[MQ,hZ2];exact Jg W2 hDl hz0 (fun _ _=>rfl)
    have hfin:sg W L j ((dl W V).length+1) r Z2=dn W L (Z % W ^ j+r*W ^ j):=by rw[←hZ2m];exact Jg W2 (by omega) hz2 (fun _ _=>rfl)
    have hg:∀k,k≤(dl W V).length→(sg W L j k r Z2).getD (j+k) 0=((D / W ^ k % W:Nat):Int):=fun k hk=>by
     rw[Dk _ _ _ _ _ _ _ (by omega),if_neg (by omega),alT,←alG,hZ2d]
    repeat'((conv=>whnf);first|(intro hq;(try simp only[vw]at hq);try exact ak hq)|apply aI|exact aj|apply nM|apply fM)
    all_goals((try apply vM);(try simp only[vq]at*);try omega)
    rw[e1,E1,wJ (by omega) rfl]
    conv=>whnf
    refine jo (X:=Nat) (fun k=>btw 19 103 k||btw 106 155 k||btw 158 185 k) (fun k=>k≤(dl W V).length) (fun k=>[(157,.int .i64 k),(17,.int .u64 (ca W D V k:Nat)),(18,.any)]) (fun k=>[(0,.cells (.ints .u64 (sg W L j k r Z2)) false)]) (fun k=>(dl W V).length-k) 0 ⟨aJ,mixed,av,xZ,aR⟩ (by rfl) (by omega) ?_ ?_
    ·repeat'((conv=>whnf);first|intro _|apply aI|exact aj|apply nM|apply fM)
     all_goals((try apply vM);(try simp only[vq]at*);try omega)
     all_goals first|(rw[Ms];rfl)|exact hall
    intro k hk;have hm2:=Jf W L j k r Z2;have hck:=GA W2 D V k;have hvk:=qY V k;have hgk:=hg k hk;obtain⟨A1,A2⟩:=ahC (k:=k) hDV hk;have hDk:D / W ^ k % W<18446744073709551616:=akn _ (by decide)
    by_cases e:k=(dl W V).length
    ·subst e
     have hv0:(dl W V).getD (dl W V).length 0=0:=by rw[ajQ,alM (ajE _)];rfl
     rw[hv0,Int.add_zero]at A1
     repeat'((conv=>whnf);first|(intro hq;(try simp only[vw]at hq);try exact ak hq)|apply aI|exact aj|apply nM|apply fM)
     all_goals((try apply vM);(try simp only[vq]at*);try omega)
     all_goals first
      |exact hwq
      |(rw[hwq])
      |(rw[hgk,wu,A1,wJ (by omega) rfl,hfin])
    ·repeat'((conv=>whnf);first|(intro hq;(try simp only[vw]at hq);try exact ak hq)|apply aI|exact aj|apply nM|apply fM)
     all_goals((try apply vM);(try simp only[vq]at*);try omega)
     all_goals(try rw[hgk])
     all_goals first
      |omega
      |(refine⟨by omega,by omega,by omega,by omega⟩)
      |(rw[A1,A2,wJ (by omega) rfl]
        refine⟨k+1,[],⟨by omega,by omega⟩,?_⟩
        rw[show((k+1:Nat):Int)=(k:Int)+1 by omega]
        all_goals exact aW)
   ·rw[hbl,if_neg hlt]at E2
    have hq':q=T / V:=by
     have:=(ako hV0).2 (amy hlt);omega
    have hdm:=amI T V;have hrV:T % V<V:=akn _ hV0;have hDr:D=T % V+W ^ ((dl W V).length+1):=by rw[hD,hq'];omega
    have hz0:Z / W ^ (j+((dl W V).length+1))=0:=by rw[alT,←alG,hTT];exact aj5 hTl
    have hfin0:sg W L j ((dl W V).length+1) D Z=dn W L (Z % W ^ j+T % V*W ^ j):=Jg W2 (by omega) hz0 (fun k hk=>by rw[hDr];exact Jh W2 _ _ _ hk)
    repeat'((conv=>whnf);first|(intro hq;(try simp only[vw]at hq);try exact ak hq)|apply aI|exact aj|apply nM|apply fM)
    all_goals((try apply vM);(try simp only[vq]at*);try omega)
    all_goals first
     |(rw[e1];refine⟨by omega,by omega,by omega,by omega,by omega,by omega⟩)
     |(rw[e1,E1,wJ (by omega) rfl];exact hfin0)
     |(rw[hq'])
  ·obtain⟨P,O,e1,e2,p0,p1,o0,o1,E1,E2,E3⟩:=ahA (i:=i) hTT hD hqV hqW (by omega) hj
   repeat'((conv=>whnf);first|(intro hq;(try simp only[vw]at hq);try exact ak hq)|apply aI|exact aj|apply nM|apply fM)
   all_goals((try apply vM);(try simp only[vq]at*);try omega)
   all_goals(try rw[e1])
   all_goals(try rw[e2])
   all_goals first
    |omega
    |(rw[E1,E2,E3,wJ (by omega) rfl]
      refine⟨i+1,[],⟨by omega,by omega⟩,?_⟩
      rw[show((i+1:Nat):Int)=(i:Int)+1 by omega]
      all_goals exact aW)
end Go.Eng.YtmkagljofpddpaaGreatDoor
namespace Go.Eng.Dig
set_option linter.unusedSimpArgs false
set_option linter.unusedVariables false
def zd (B X V k:Nat):Nat:=X % B ^ k+X / B ^ k % V*B ^ k
theorem Ji {B:Nat} (hB:2≤B) (X V j:Nat):zd B X V (j+1) / B ^ j=X / B ^ (j+1) % V*B+X / B ^ j % B:=by
 have hp:=pw hB j;have h1:=akn X hp;unfold zd;rw[nD,alH,show X % B ^ j+X / B ^ j % B*B ^ j+X / (B ^ j*B) % V*(B ^ j*B)=X % B ^ j+(X / (B ^ j*B) % V*B+X / B ^ j % B)*B ^ j by grind,alX _ _ hp,aj5 h1,aj2]
theorem agk {B:Nat} (hB:2≤B) (X V j:Nat):zd B X V (j+1) % B ^ j=X % B ^ j:=by
 unfold zd;rw[nD,alH,show X % B ^ j+X / B ^ j % B*B ^ j+X / (B ^ j*B) % V*(B ^ j*B)=X % B ^ j+(X / (B ^ j*B) % V*B+X / B ^ j % B)*B ^ j by grind,al2,alZ]
theorem ahD {B:Nat} (hB:2≤B) {V:Nat} (hV:0<V) (X j:Nat):zd B X V (j+1) / B ^ j<B*V:=by
 rw[Ji hB];have h1:=akn (X / B ^ (j+1)) hV;have h2:=akn (X / B ^ j) (by omega:B>0)
 have:(X / B ^ (j+1) % V+1)*B≤V*B:=akh _ (by omega)
 rw[aj3 B V]
 grind
theorem aiu {B:Nat} (hB:2≤B) {V:Nat} (hV:0<V) (X j:Nat):zd B X V (j+1) / B ^ j / V=X / V / B ^ j % B:=by
 rw[Ji hB];have e:X / V / B ^ j=X / B ^ j / V:=by rw[alG,alG,aj3]
 rw[e];have h0:=jv B X j;have h1:=akm (X / B ^ (j+1)) V;have h2:=akn (X / B ^ (j+1)) hV;have h3:=akn (X / B ^ j) (by omega:B>0)
 generalize X / B ^ j % B=d at*
 generalize X / B ^ (j+1) % V=r at*
 generalize X / B ^ (j+1) / V=q at*
 have e2:X / B ^ j=(r*B+d)+(q*B)*V:=by rw[h0,←h1];grind
 rw[e2,alX _ _ hV,al2,aj7];rw[akl hV];have:(r+1)*B≤V*B:=akh _ (by omega)
 grind
theorem aiv {B:Nat} (hB:2≤B) (X V j:Nat):zd B X V (j+1) / B ^ j % V=X / B ^ j % V:=by
 rw[Ji hB];exact MG B V X j
theorem ac2 {B:Nat} (hB:2≤B) (X V j:Nat):zd B X V (j+1) % B ^ j+zd B X V (j+1) / B ^ j % V*B ^ j=zd B X V j:=by
 rw[aiv hB,agk hB];rfl
theorem ac3 (B X V:Nat):zd B X V 0=X % V:=by
 unfold zd;rw[amo,akr,akq,aj9,aj2]
theorem Xv {B X V k:Nat} (h:X<V*B ^ k):zd B X V k=X:=by
 unfold zd;by_cases hp:B ^ k=0
 ·rw[hp]at h;simp at h
 rw[aj7 (a:=X / B ^ k) ((akl (by omega)).2 h)]
 have:=akm X (B ^ k);rw[aj3]at this;omega
theorem MS {B n i z:Nat} (h:i<n) {d:Int} (hd:d=((z / B ^ i % B:Nat):Int)):(dm B n (i+1) 0 z).set i d=dm B n i 0 z:=by
 apply alL
 ·simp[jP]
 ·intro k h1 h2
  rw[alO];simp only[dm,alP,alQ];split
  ·subst_vars;rw[if_neg (by omega)]
  ·split<;>split<;>first|rfl|omega
theorem Xw {B p r:Nat} (hB:2≤B) (hpr:p*r=B) (z i:Nat):z / p / B ^ i % B=z / B ^ i % B / p+z / B ^ (i+1) % B*r % B:=by
 have hp0:0<p:=akk fun h=>by subst h;omega
 have hr0:0<r:=akk fun h=>by subst h;omega
 rw[alG,aj3 p,←alG];have h0:=jv B z i;have hd:=jv B z (i+1);have h3:=akn (z / B ^ i) (by omega:B>0)
 generalize z / B ^ i % B=d at*
 generalize hb:z / B ^ (i+1)=t at*
 rw[h0];have e1:(t*B+d) / p=t*r+d / p:=by
  rw[←hpr,show t*(p*r)+d=d+(t*r)*p by grind,alX _ _ hp0,ame]
 have e2:d / p<r:=(akl hp0).2 (by rw[aj3,hpr];exact h3)
 have e3:t*r % B=(t % p)*r:=by rw[←hpr,al5]
 have e4:t % B*r % B=t*r % B:=by rw[al6,alZ,←al6]
 rw[e1,e4,e3];have h5:=akn t hp0;have h6:(t % p+1)*r≤p*r:=akh _ (by omega)
 have h7:t*r=(t % p)*r+(t / p)*(p*r):=by
  have:=akm t p;generalize t / p=a at*
  generalize t % p=b at*
  subst this
  grind
 rw[h7,hpr,show t % p*r+t / p*B+d / p=(t % p*r+d / p)+(t / p)*B by omega,al2,aj7 (by rw[hpr]at h6;grind)]
 omega
end Go.Eng.Dig
namespace Go.Eng.YtmkagljofpddpaaGreatDoor
open Go.Proofs Go.Eng.Dig
set_option linter.unusedSimpArgs false
set_option linter.unusedVariables false
set_option maxHeartbeats 0
set_option maxRecDepth 100000
def Jj (X V L:Nat):LSp:=fun xs objs K=>match xs,objs with
 | [.rsl 0 j m,.isl (.ints .u64 l) .none],[.cells (.ints .u64 d) false]=>VC (l=dl W V∧m=(dl W V).length+1∧d=dn W L (zd W X V (j+1))∧2≤(dl W V).length∧j+(dl W V).length+1≤L∧L≤900000000000)∧K [.int .u64 ((X / V / W ^ j % W:Nat):Int)] [.cells (.ints .u64 (dn W L (zd W X V j))) false]
 |_,_=>False
theorem Xx (X V L:Nat):LOK Tryz.prog 239 (Jj X V L):=by
 intro xs objs K hk;unfold Jj at hk;split at hk
 ·obtain⟨h1,h2,h3,h4,h5,h6⟩:=hk.1.get
  subst h1 h2 h3;refine⟨_,_,hk.2,?_⟩;rename_i j;have hV:0<V:=akk fun h=>by subst h;simp[kZ]at h4
  have:=TQ V (zd W X V (j+1)) L j h4 h5 h6 (ahD W2 hV X j);rw[aiu W2 hV,ac2 W2]at this;exact this
 ·exact hk.elim
noncomputable def aiw:CPT:=aB 187 (aP Bu) (aB 236 (aP Bz) (aB 232 (tL tZ) noC))
theorem Dl:bC Tryz.prog aiw:=au (aC CX) (au (aC Je) (au (pF rJ) aF))
theorem ac4 {r:Nat} (h:r<W):trm [(r:Int)]=dl W r:=by
 by_cases h0:r=0
 ·subst h0;rfl
 ·rw[nQ W2 h0 h]
  exact IV [] (by omega)
theorem ahE (x y:Nat) (hx:(dl W x).length≤400000000000) (hy:(dl W y).length≤400000000000) (h:x<y):aD Tryz.prog 196 [.isl (wd x) .none,.isl (wd y) .none] (.tup [.isl (wd (x / y)) .none,.isl (wd (x % y)) .none]):=by
 have hc:iR x y= -1:=by unfold iR;rw[if_pos h]
 rw[aj5 h,aj7 h];refine ay (md:=1) (rf:=[]) mixed av Dl Tryz.func196 (by rfl) (by rfl) (by rfl) ?_
 repeat'((conv=>whnf);first|(intro hq;(try simp only[vw]at hq);try exact ak hq)|apply aI|exact aj|apply nM|apply fM)
 all_goals((try apply vM);(try simp only[vq]at*);try omega)
 all_goals(try simp only[dN,hc]at*)
 all_goals first
  |exact⟨bW _,bW _,by omega,by omega⟩
  |(exfalso;omega)
  |refine Sup.via ?_
 all_goals repeat'((conv=>whnf);first|intro _|apply aI|exact aj|apply nM|apply fM)
 all_goals all_goals((try apply vM);(try simp only[vq]at*);try omega)
 all_goals exact rfl
theorem agl (x y:Nat) (hx:(dl W x).length≤400000000000) (hy0:y≠0) (hy:y<W) (h:y≤x):aD Tryz.prog 196 [.isl (wd x) .none,.isl (.ints .u64 [(y:Int)]) .none] (.tup [.isl (wd (x / y)) .none,.isl (wd (x % y)) .none]):=by
 have hd1:=nQ W2 hy0 hy;have hvy:vw [(y:Int)]=y:=by rw[←hd1];exact dN y
 have hdw:Dw [(y:Int)]:=by rw[←hd1];exact bW y
 have hc:0≤iR x y:=by unfold iR;split<;>(try split)<;>omega
 have hy':y<18446744073709551616:=hy;have hr:x % y<y:=akn _ (by omega)
 have hQl:x / y<W ^ (dl W x).length:=amf (amA _ _) (fP W2 x);have hg:([(y:Int)].getD (amj 0) 0)=(y:Int):=rfl;refine ay (md:=1) (rf:=[]) mixed av Dl Tryz.func196 (by rfl) (by rfl) (by rfl) ?_
 repeat'((conv=>whnf);first|(intro hq;(try simp only[vw]at hq);try exact ak hq)|apply aI|exact aj|apply nM|apply fM)
 all_goals((try apply vM);(try simp only[vq]at*);try omega)
 all_goals(try simp only[dN,hvy]at*)
 all_goals first
  |exact⟨bW _,hdw,by omega,by simp⟩
  |(exfalso;omega)
  |exact .inl trivial
  |skip
 have hX0:x / W ^ (dl W x).length=0:=aj5 (fP W2 x);conv=>whnf
 refine aU (X:=Nat) (fun k=>k≤(dl W x).length) (fun k=>[(8,.int .i64 ((k:Int)-1)),(7,.int .u64 ((x / W ^ k % y:Nat):Int)),(34,.any)]) (fun k=>[(4,.cells (.ints .u64 (dm W (dl W x).length k 0 (x / y))) false)]) (fun k=>k) (dl W x).length ⟨aJ,mixed,av,Dl,aR⟩ (by rfl) (by omega) ?_ ?_
 ·repeat'((conv=>whnf);first|intro _|apply aI|exact aj|apply nM|apply fM)
  all_goals((try apply vM);(try simp only[vq]at*);try omega)
  all_goals first
   |(rw[hX0,Nat.zero_mod];rfl)
   |(rw[Bq _ _ (ajE _),rH])
 intro k hk;have hm:=jP W (dl W x).length k 0 (x / y);cases k with
 |zero=>
  repeat'((conv=>whnf);first|(intro hq;(try simp only[vw]at hq);try exact ak hq)|apply aI|exact aj|apply nM|apply fM)
  all_goals((try apply vM);(try simp only[vq]at*);try omega)
  all_goals first
   |(rw[iW _ _ hm.symm,hm];omega)
   |(rw[iW _ _ hm.symm,xO,pO W2 hQl,amo,akq,ac4 (amK hr hy)];exact Sup.of rfl)
 |succ k=>
  have hX1:=(afZ (B:=W) (b:=y) W2 (by omega) x k).resolve_right (by omega)
  have hX2:=MG W y x k;have hr1:=qY x k;have hrk:x / W ^ (k+1) % y<y:=akn _ (by omega)
  have hQ:(((x / W ^ (k+1) % y:Nat):Int)*18446744073709551616+(dl W x).getD k 0) / ([(y:Int)].getD (amj 0) 0)=((x / y / W ^ k % W:Nat):Int):=by
   have:=congrArg (amL:Nat→Int) hX1;rw[dz W2,hg,←this,amx,aml,amk];rfl
  have hR:(((x / W ^ (k+1) % y:Nat):Int)*18446744073709551616+(dl W x).getD k 0) % ([(y:Int)].getD (amj 0) 0)=((x / W ^ k % y:Nat):Int):=by
   have:=congrArg (amL:Nat→Int) hX2;rw[dz W2,hg];refine Eq.trans (b:=(((x / W ^ (k+1) % y*W+x / W ^ k % W) % y:Nat):Int)) ?_ this;generalize x / W ^ (k+1) % y=u
   generalize x / W ^ k % W=v
   rw[al0,aml,amk];rfl
  rw[show((k+1:Nat):Int)-1=(k:Int) by omega]
  repeat'((conv=>whnf);first|(intro hq;(try simp only[vw]at hq);try exact ak hq)|apply aI|exact aj|apply nM|apply fM)
  all_goals((try apply vM);(try simp only[vq]at*);try omega)
  all_goals first
   |omega
   |(rw[hg];refine⟨by omega,by omega,by omega,by omega,by omega⟩)
   |(rw[hQ,hR,MS (by omega) rfl]
     refine⟨k,[],⟨by omega,by omega⟩,?_⟩
     all_goals exact aW)
theorem agm {m:Nat} (h0:0<m) (h:m<W):lzI m≤63∧(m+1)*2 ^ lzI m≤W:=by
 obtain⟨a,b,c⟩:=Go.Lib.bitLenAux_bounds 64 m h (by omega)
 have hL:Go.Lib.bitLenAux 64 m≤64:=Go.Lib.bitLen_le m 64 (ajE _) h;have e:lzI m=64-Go.Lib.bitLenAux 64 m:=by
  unfold lzI iq Go.Lib.bitLen;rw[alR];omega
 rw[e];generalize Go.Lib.bitLenAux 64 m=L at*
 refine⟨by omega,?_⟩
 have h1:(m+1)*2 ^ (64-L)≤2 ^ L*2 ^ (64-L):=akh _ c;rw[←alT,show L+(64-L)=64 by omega]at h1
 exact h1
theorem Xy {y n:Nat} (hn:(dl W y).length=n+1) {s:Nat} (hs:s=lzI ((dl W y).getD n 0)):s≤63∧y*2 ^ s<W ^ (n+1)∧(dl W (y*2 ^ s)).length=n+1:=by
 have hl:=fP W2 y;have hg:=qL W2 y n hn;rw[hn]at hl;have hp:=pw W2 n;have hy0:y≠0:=fun h=>by subst h;simp[kZ]at hn
 have ht:(dl W y).getD n 0=((y / W ^ n:Nat):Int):=by
  rw[dz W2,aj7];rw[akl hp,aj3,←alH];exact hl
 have h1:0<y / W ^ n:=(ako hp).2 (by omega)
 have h2:y / W ^ n<W:=by
  rw[akl hp,aj3,←alH];exact hl
 rw[ht]at hs;obtain⟨a,b⟩:=agm h1 h2;rw[←hs]at a b;have hps:0<2 ^ s:=alK (by omega)
 have h3:y<(y / W ^ n+1)*W ^ n:=by rw[aj3];exact amH y hp
 have h4:y*2 ^ s<W ^ (n+1):=by
  have g1:y*2 ^ s<(y / W ^ n+1)*W ^ n*2 ^ s:=al4 h3 hps;have g2:(y / W ^ n+1)*W ^ n*2 ^ s=(y / W ^ n+1)*2 ^ s*W ^ n:=by grind
  have g3:(y / W ^ n+1)*2 ^ s*W ^ n≤W*W ^ n:=akh _ b;rw[alH,aj3 (W ^ n)];omega
 refine⟨a,h4,?_⟩;have g4:=lg W2 h4;have g5:=wB W2 (x:=y*2 ^ s) (k:=n) (ajI hg (akE _ hps));omega
theorem ahF {Z s L i:Nat} (hs0:0<s) (hs:s≤63) (hi:i+1<L):
 ((dm W L i (Z / 2 ^ s) Z).set i ((dm W L i (Z / 2 ^ s) Z).getD i 0 / 2 ^ s)).set i (IntKind.u64.wrap ((ajY IntKind.u64.bits (((dm W L i (Z / 2 ^ s) Z).set i ((dm W L i (Z / 2 ^ s) Z).getD i 0 / 2 ^ s)).getD i 0)|||ajY IntKind.u64.bits (IntKind.u64.wrap (((dm W L i (Z / 2 ^ s) Z).set i ((dm W L i (Z / 2 ^ s) Z).getD i 0 / 2 ^ s)).getD ((i:Int)+1).toNat 0*2 ^ (64-(s:Int)).toNat))).toNat:Int))=dm W L (i+1) (Z / 2 ^ s) Z:=by
 have hl:=jP W L i (Z / 2 ^ s) Z;have hpr:2 ^ s*2 ^ (64-s)=W:=by rw[←alT,show s+(64-s)=64 by omega]
 have e1:((i:Int)+1).toNat=i+1:=by omega
 have e2:(64-(s:Int)).toNat=64-s:=by omega
 have g1:(dm W L i (Z / 2 ^ s) Z).getD i 0=((Z / W ^ i % W:Nat):Int):=by rw[oK _ _ _ _ _ _ (by omega),if_neg (by omega)]
 have g2:∀v,((dm W L i (Z / 2 ^ s) Z).set i v).getD i 0=v:=fun v=>by
  rw[ajQ,List.getElem?_set_self (by omega)];rfl
 have g3:∀v,((dm W L i (Z / 2 ^ s) Z).set i v).getD (i+1) 0=((Z / W ^ (i+1) % W:Nat):Int):=fun v=>by
  rw[ajQ,List.getElem?_set_ne (by omega),←ajQ,oK _ _ _ _ _ _ (by omega),if_neg (by omega)]
 have hdd:=Xw W2 hpr Z i;have hd:=akn (Z / W ^ i) (by decide:W>0)
 have hzd:=akn (Z / 2 ^ s / W ^ i) (by decide:W>0)
 rw[e1,e2,g2,g3,g1,List.set_set];refine pK (by omega) ?_
 rw[hdd]at hzd⊢;generalize Z / W ^ i % W=d at*
 generalize Z / W ^ (i+1) % W=e at*
 have eP:((e:Int)*2 ^ (64-s))=((e*2 ^ (64-s):Nat):Int):=by norm_cast
 have eD:((d:Int) / 2 ^ s)=((d / 2 ^ s:Nat):Int):=by norm_cast
 have em:e*2 ^ (64-s) % W=(e % 2 ^ s)*2 ^ (64-s):=by rw[←hpr,al5]
 have hb:d / 2 ^ s<2 ^ (64-s):=(akl (alK (by omega))).2 (by rw[aj3,hpr];exact hd)
 rw[eP,eD,show IntKind.u64.wrap ((e*2 ^ (64-s):Nat):Int)=((e*2 ^ (64-s) % W:Nat):Int)from xR _];have:=amC hb (e % 2 ^ s);rw[amD,←em]at this;have hm:=akn (e*2 ^ (64-s)) (by decide:W>0)
 generalize e*2 ^ (64-s) % W=m at*
 generalize d / 2 ^ s=o at*
 have ho:o<W:=by omega
 exact I7 ho hm (fun k _=>by rw[ame,this,amE,amG]) hzd
noncomputable def aix (X V L:Nat):CPT:=aB 187 (aP Bu) (aB 237 (aP lzP) (aB 238 (dR [] Xu) (aB 239 (dR [0] (Jj X V L)) (aB 232 (tL tZ) noC))))
theorem ac5 (X V L:Nat):bC Tryz.prog (aix X V L):=au (aC CX) (au (aC aaE) (au (bT [] agj) (au (bT [0] (Xx X V L)) (au (pF rJ) aF))))
theorem agn (x y:Nat) (hx:(dl W x).length≤400000000000) (hy:(dl W y).length≤400000000000) (hn2:2≤(dl W y).length) (h:y≤x):aD Tryz.prog 196 [.isl (wd x) .none,.isl (wd y) .none] (.tup [.isl (wd (x / y)) .none,.isl (wd (x % y)) .none]):=by
 have hc:0≤iR x y:=by unfold iR;split<;>(try split)<;>omega
 obtain⟨n,hn⟩:∃n,(dl W y).length=n+1:=⟨(dl W y).length-1,by omega⟩
 obtain⟨s,hs⟩:∃s,s=lzI ((dl W y).getD n 0):=⟨_,rfl⟩;obtain⟨hs63,hV,hVl⟩:=Xy hn hs;have hlen:(dl W y).length≤(dl W x).length:=eZ h;have htop:=qY y n;have en:(((dl W y).length:Int)-1).toNat=n:=by omega
 have hdiv:x*2 ^ s / (y*2 ^ s)=x / y∧x*2 ^ s % (y*2 ^ s) / 2 ^ s=x % y:=Bw (alK (by omega))
 have hstart:x*2 ^ s<y*2 ^ s*W ^ ((dl W x).length-n):=by
  have h1:=fP W2 x;have h2:=qL W2 y n hn;have h3:W ^ (dl W x).length=W ^ n*W ^ ((dl W x).length-n):=by rw[←alT,show n+((dl W x).length-n)=(dl W x).length by omega]
  have h4:W ^ n*W ^ ((dl W x).length-n)≤y*W ^ ((dl W x).length-n):=akh _ h2;have h5:x*2 ^ s<y*W ^ ((dl W x).length-n)*2 ^ s:=al4 (by omega) (alK (by omega))
  have h6:y*W ^ ((dl W x).length-n)*2 ^ s=y*2 ^ s*W ^ ((dl W x).length-n):=by grind
  omega
 have eV:trm (amM ((dl W y).length+1-0) (amN 0 (dn W ((dl W y).length+1) (y*2 ^ s))))=dl W (y*2 ^ s):=by
  rw[iW _ _ (fQ _ _ _).symm,pO W2];rw[hn,alH];exact ajF hV (akE _ (by decide))
 have hlV:(amM ((dl W y).length+1-0) (amN 0 (dn W ((dl W y).length+1) (y*2 ^ s)))).length=(dl W y).length+1:=by rw[iW _ _ (fQ _ _ _).symm,fQ]
 have hdl:=fQ W ((dl W y).length+1) (y*2 ^ s);generalize hX:x*2 ^ s=X at*
 generalize hVV:y*2 ^ s=V at*
 have hV0:0<V:=by rw[←hVV];exact al8 (akk fun h=>by subst h;simp[kZ]at hn) (alK (by omega))
 have hC:=ac5 X V ((dl W x).length+1);refine ay (md:=3) (rf:=[]) mixed av hC Tryz.func196 (by rfl) (by rfl) (by rfl) ?_
 repeat'((conv=>whnf);first|(intro hq;(try simp only[vw]at hq);try exact ak hq)|apply aI|exact aj|apply nM|apply fM)
 all_goals((try apply vM);(try simp only[vq]at*);try omega)
 all_goals(try simp only[dN,en,←hs,alR,hX,hVV])
 all_goals(try rw[eV])
 all_goals first
  |omega
  |exact⟨bW _,bW _,by omega,by omega⟩
  |(exfalso;rw[xP W2,xP W2]at hq;omega)
  |exact htop
  |exact⟨bW _,by omega,by omega,by omega⟩
  |exact .inl trivial
  |skip
 conv=>whnf
 refine jo (X:=Nat) (fun t=>btw 16 136 t) (fun k=>k≤(dl W x).length-n) (fun k=>[(14,.int .i64 ((k:Int)-1))]) (fun k=>[(16,.cells (.ints .u64 (dn W ((dl W x).length+1) (zd W X V k))) false),(20,.cells (.ints .u64 (dm W ((dl W x).length-n) k 0 (X / V))) false)]) (fun k=>k) ((dl W x).length-n) ⟨aJ,mixed,av,hC,aR⟩ (by rfl) (by omega) ?_ ?_
 ·repeat'((conv=>whnf);first|intro _|apply aI|exact aj|apply nM|apply fM)
  all_goals((try apply vM);(try simp only[vq]at*);try omega)
  ·rw[Xv hstart]
  ·rw[Bq _ _ (ajE _),rH,show((((dl W x).length:Int)-((dl W V).length:Int)+1)).toNat=(dl W x).length-n by omega]
 intro k hk;have hm1:=fQ W ((dl W x).length+1) (zd W X V k);have hm2:=jP W ((dl W x).length-n) k 0 (X / V);cases k with
 |zero=>
  rw[ac3];have hZV:X % V<V:=akn _ hV0;generalize X % V=Z at*
  repeat'((conv=>whnf);first|(intro hq;(try simp only[vw]at hq);try exact ak hq)|apply aI|exact aj|apply nM|apply fM)
  all_goals((try apply vM);(try simp only[vq]at*);try omega)
  conv=>whnf
  refine jo (X:=Nat) (fun t=>btw 16 95 t||btw 98 136 t) (fun i=>i≤n+1) (fun i=>[(97,.int .i64 i),(15,.any)]) (fun i=>[(16,.cells (.ints .u64 (dm W ((dl W x).length+1) i (Z / 2 ^ s) Z)) false)]) (fun i=>n+1-i) 0 ⟨aJ,mixed,av,hC,aR⟩ (by rfl) (by omega) ?_ ?_
  ·repeat'((conv=>whnf);first|intro _|apply aI|exact aj|apply nM|apply fM)
   all_goals((try apply vM);(try simp only[vq]at*);try omega)
   all_goals(try rw[xO])
  intro i hi;have hm3:=jP W ((dl W x).length+1) i (Z / 2 ^ s) Z;by_cases e:i=n+1
  ·subst e
   have eQ:(amM (((((dl W x).length:Int)-((dl W V).length:Int)+1)).toNat-0) (amN 0 (dm W ((dl W x).length-n) 0 0 (X / V))))=dn W ((dl W x).length-n) (X / V):=by rw[iW _ _ (by rw[hm2];omega),xO]
   have eR:(amM ((dl W V).length-0-0) (amN 0 (dm W ((dl W x).length+1) (n+1) (Z / 2 ^ s) Z)))=dn W (n+1) (Z / 2 ^ s):=by
    rw[hVl];apply alL
    ·simp[jP,fQ]<;>omega
    ·intro k h1 h2
     rw[fQ]at h2;simp only[Nat.sub_zero,List.drop_zero,List.getElem_take,dm,dn,alP,alQ];rw[if_pos h2]
   have hQl:X / V<W ^ ((dl W x).length-n):=(akl hV0).2 (by rw[aj3];exact hstart)
   have hRl:Z / 2 ^ s<W ^ (n+1):=amf (amA _ _) (amK hZV hV)
   repeat'((conv=>whnf);first|(intro hq;(try simp only[vw]at hq);try exact ak hq)|apply aI|exact aj|apply nM|apply fM)
   all_goals((try apply vM);(try simp only[vq]at*);try omega)
   all_goals first
    |(rw[eQ,fQ];omega)
    |(rw[eR,fQ];omega)
    |(rw[eQ,eR,pO W2 hQl,pO W2 hRl,hdiv.1,hdiv.2];exact Sup.of rfl)
  ·have hin:i+1<(dl W x).length+1:=by omega
   by_cases hs0:s=0
   ·subst hs0
    have eS:(dm W ((dl W x).length+1) i (Z / 2 ^ 0) Z).set i ((dm W ((dl W x).length+1) i (Z / 2 ^ 0) Z).getD i 0 / 2 ^ 0)=dm W ((dl W x).length+1) (i+1) (Z / 2 ^ 0) Z:=by
     refine pK (by omega) ?_
     rw[oK _ _ _ _ _ _ (by omega),if_neg (by omega)]
     simp
    have eN:0≤(dm W ((dl W x).length+1) i (Z / 2 ^ 0) Z).getD i 0:=by
     rw[oK _ _ _ _ _ _ (by omega),if_neg (by omega)];omega
    repeat'((conv=>whnf);first|(intro hq;(try simp only[vw]at hq);try exact ak hq)|apply aI|exact aj|apply nM|apply fM)
    all_goals((try apply vM);(try simp only[vq]at*);try omega)
    all_goals first
     |exact eN
     |(rw[eS]
       refine⟨i+1,[],⟨by omega,by omega⟩,?_⟩
       rw[show((i+1:Nat):Int)=(i:Int)+1 by omega]
       all_goals exact aW)
   ·have eN:∀k,k<(dl W x).length+1→0≤(dm W ((dl W x).length+1) i (Z / 2 ^ s) Z).getD k 0:=fun k hk=>by
     rw[oK _ _ _ _ _ _ hk];split<;>omega
    have b64:∀a:Nat,a≤64→a≤IntKind.u64.bits:=fun a h=>h
    repeat'((conv=>whnf);first|(intro hq;(try simp only[vw]at hq);try exact ak hq)|apply aI|exact aj|apply nM|apply fM)
    all_goals((try apply vM);(try simp only[vq]at*);try omega)
    all_goals first
     |exact eN _ (by omega)
     |exact b64 _ (by omega)
     |(rw[ake,hm3];omega)
     |(rw[ahF (by omega) hs63 hin]
       refine⟨i+1,[],⟨by omega,by omega⟩,?_⟩
       rw[show((i+1:Nat):Int)=(i:Int)+1 by omega]
       all_goals exact aW)
 |succ k=>
  have ekX:((k:Int)).toNat=k:=alR k;have hk2:k<(dl W x).length-n:=by omega
  rw[show((k+1:Nat):Int)-1=(k:Int) by omega]
  repeat'((conv=>whnf);first|(intro hq;(try simp only[vw]at hq);try exact ak hq)|apply aI|exact aj|apply nM|apply fM)
  all_goals((try apply vM);(try simp only[vq]at*);try omega)
  all_goals first
   |omega
   |(rw[MS hk2 rfl]
     refine⟨k,[],⟨by omega,by omega⟩,?_⟩
     all_goals exact aW)
def GI:PSp:=fun xs K=>match xs with
 | [.isl (.ints .u64 l) .none,.isl (.ints .u64 m) .none]=>VC (Dw l∧Dw m∧l.length≤400000000000∧m.length≤400000000000∧m≠[])∧K (.tup [.isl (wd (vw l / vw m)) .none,.isl (wd (vw l % vw m)) .none])
 |_=>False
theorem MU:POK Tryz.prog 196 GI:=by
 intro xs K hk;unfold GI at hk;split at hk
 ·obtain⟨h1,h2,h3,h4,h5⟩:=hk.1.get
  rename_i l m;obtain⟨x,rfl⟩:=jY h1;obtain⟨y,rfl⟩:=jY h2;refine⟨_,hk.2,?_⟩;rw[dN,dN];have hy0:y≠0:=fun h=>h5 ((gL W2).2 h);by_cases hlt:x<y
  ·exact ahE x y h3 h4 hlt
  ·by_cases h1:y<W
   ·have e:=nQ W2 hy0 h1
    unfold wd;rw[e];exact agl x y h3 hy0 h1 (by omega)
   ·refine agn x y h3 h4 ?_ (by omega)
    have:=wB W2 (x:=y) (k:=1) (by rw[amr];omega)
    omega
 ·exact hk.elim
def fJ:NI:=⟨1,[]⟩
theorem Jk:fJ.val=1:=rfl
theorem Dm:fJ.OK:=.inl ⟨rfl,by unfold smI fJ;simp⟩
def divN (a b:NI):NI:=if a.w=[]∧b.w=[]∧a.s≠ -9223372036854775808 then nrm (a.val / b.val)else
 if a.s<0∧a.val.natAbs % b.val.natAbs≠0 then zn (nrm (-((a.val.natAbs / b.val.natAbs:Nat):Int))) fJ else nrm (a.val / b.val)
theorem MV {a b:Int} (hb:0<b) (h:a<0):a / b=(if a.natAbs % b.natAbs=0 then-((a.natAbs / b.natAbs:Nat):Int)else-((a.natAbs / b.natAbs:Nat):Int)-1)∧a % b=(if a.natAbs % b.natAbs=0 then 0 else-((a.natAbs % b.natAbs:Nat):Int)+b):=by
 have h1:=akm a.natAbs b.natAbs;have h2:=akn a.natAbs (show b.natAbs>0 by omega)
 have e:b*((a.natAbs / b.natAbs:Nat):Int)+((a.natAbs % b.natAbs:Nat):Int)= -a:=by
  have:=congrArg (amL:Nat→Int) h1;rw[aml,amk]at this;rw[show((b.natAbs:Nat):Int)=b by omega,show((a.natAbs:Nat):Int)= -a by omega]at this
  exact this
 rw[show((a.natAbs / b.natAbs:Nat):Int)=((a.natAbs / b.natAbs:Nat):Int)from rfl];generalize a.natAbs / b.natAbs=q at*
 generalize a.natAbs % b.natAbs=r at*
 refine(amO hb).2 ?_;split
 ·rename_i h0;subst h0
  refine⟨?_,by omega,hb⟩
  rw[amw];omega
 ·refine⟨?_,by omega,by omega⟩
  rw[amP,amw];omega
theorem Qm {a b:Int} (hb:0<b) (h:0≤a):a / b=((a.natAbs / b.natAbs:Nat):Int)∧a % b=((a.natAbs % b.natAbs:Nat):Int):=by
 rw[amx,al0,show((b.natAbs:Nat):Int)=b by omega,show((a.natAbs:Nat):Int)=a by omega]
 exact⟨rfl,rfl⟩
theorem BA {a b:NI} (ha:a.OK) (hb:0<b.val) (h:b.val∣a.val):divN a b=nrm (a.val / b.val):=by
 unfold divN;split
 ·rfl
 ·rw[if_neg]
  rintro⟨h1,h2⟩
  obtain⟨k,hk⟩:=h;apply h2;rw[hk,Int.natAbs_mul,Nat.mul_mod_right]
theorem Xz {a b:Int} (hb:0<b):(a.tmod b<0→a.tdiv b-1=a / b∧a.tmod b+b=a % b)∧(¬a.tmod b<0→a.tdiv b=a / b∧a.tmod b=a % b):=by
 have h1:=Int.mul_tdiv_add_tmod a b;have h2:a.tmod b<b:=amQ a hb;have h3: -b<a.tmod b:=by
  by_cases h:0≤a
  ·have:=Int.tmod_nonneg b h;omega
  ·have h4:=amQ (-a) hb
   rw[Int.neg_tmod]at h4;omega
 generalize a.tdiv b=q at*
 generalize a.tmod b=r at*
 constructor
 ·intro h
  have:=(amO hb (r:=r+b) (q:=q-1) (a:=a)).2 ⟨by rw[amP];omega,by omega,by omega⟩
  exact⟨this.1.symm,this.2.symm⟩
 ·intro h
  have:=(amO hb (r:=r) (q:=q) (a:=a)).2 ⟨by omega,by omega,by omega⟩
  exact⟨this.1.symm,this.2.symm⟩
noncomputable def ofP:PSp:=fun xs K=>match xs with
 | [.int .i64 n]=>K (.agg [.int .i64 n,.nils])
 |_=>False
theorem ac6 (n:Int):aD Tryz.prog 108 [.int .i64 n] (.agg [.int .i64 n,.nils]):=by
 refine ay (md:=1) (rf:=[]) mixed av aF Tryz.func108 (by rfl) (by rfl) (by rfl) ?_
 all_goals exact vY
theorem ow:POK Tryz.prog 108 ofP:=by
 intro xs K hk;unfold ofP at hk;split at hk
 ·exact⟨_,hk,ac6 _⟩
 ·exact hk.elim
noncomputable def aiy:CPT:=aB 184 (aV mQ) (aB 185 (aP xS) (aB 196 (aP GI) (aB 194 (aV uh) (aB 195 (aV Xn) (aB 109 (aV Df) (aB 108 (aV ofP) noC))))))
theorem rT:bC Tryz.prog aiy:=au (aG lu) (au (aC xU) (au (aC MU) (au (aG oL) (au (aG TH) (au (aG wI) (au (aG ow) aF))))))
theorem Jl {a b:NI} (h:a.val+b.val≠ -9223372036854775808):addN a b=nrm (a.val+b.val):=by
 unfold addN;rw[if_neg]
 rintro⟨h1,h2,h3⟩
 rw[gF h1,gF h2]at h;exact h h3
theorem TR {p:Prop} [Decidable p] (x:Nat):(if p then-(x:Int)else x).natAbs=x:=by split<;>omega
theorem nT (a:NI) (x:Nat):mdN (decide (a.s<0)) x=nrm (if a.s<0 then-(x:Int)else x):=by
 refine mP ?_;by_cases h:a.s<0<;>simp[h]
theorem ahG {a b:NI} (ha:a.OK) (hb:0<b.val) (hbig:¬(a.w=[]∧b.w=[]∧a.s≠ -9223372036854775808)) (h:eG (mdN (decide (a.s<0)) (a.val.natAbs % b.val.natAbs)).val<0):zn (mdN (decide (a.s<0)) (a.val.natAbs / b.val.natAbs)) ⟨1,[]⟩=divN a b∧addN (mdN (decide (a.s<0)) (a.val.natAbs % b.val.natAbs)) b=nrm (a.val % b.val):=by
 rw[nT,bA]at h;rw[nT,nT];have hs:a.s<0:=Decidable.byContradiction fun hn=>by rw[if_neg hn]at h;unfold eG at h;omega
 rw[if_pos hs]at h;have hr:a.val.natAbs % b.val.natAbs≠0:=fun h0=>by rw[h0]at h;unfold eG at h;simp at h;omega
 rw[if_pos hs,if_pos hs];obtain⟨e1,e2⟩:=MV hb ((NI.neg_iff ha).1 hs);rw[if_neg hr]at e1 e2;constructor
 ·unfold divN
  rw[if_neg hbig,if_pos ⟨hs,hr⟩];rfl
 ·have h2:=akn a.val.natAbs (show b.val.natAbs>0 by omega)
  rw[Jl,bA,e2];rw[bA];omega
theorem ahH {a b:NI} (ha:a.OK) (hb:0<b.val) (hbig:¬(a.w=[]∧b.w=[]∧a.s≠ -9223372036854775808)) (h:¬eG (mdN (decide (a.s<0)) (a.val.natAbs % b.val.natAbs)).val<0):mdN (decide (a.s<0)) (a.val.natAbs / b.val.natAbs)=divN a b∧mdN (decide (a.s<0)) (a.val.natAbs % b.val.natAbs)=nrm (a.val % b.val):=by
 rw[nT,bA]at h;rw[nT,nT];unfold divN;rw[if_neg hbig];by_cases hs:a.s<0
 ·rw[if_pos hs]at h
  have hr:a.val.natAbs % b.val.natAbs=0:=Decidable.byContradiction fun h0=>by unfold eG at h;omega
  obtain⟨e1,e2⟩:=MV hb ((NI.neg_iff ha).1 hs);rw[if_pos hr]at e1 e2;rw[if_neg (c:=a.s<0∧a.val.natAbs % b.val.natAbs≠0) (fun h=>h.2 hr),if_pos hs,if_pos hs,e1,e2,hr];exact⟨rfl,rfl⟩
 ·rw[if_neg (c:=a.s<0∧a.val.natAbs % b.val.natAbs≠0) (fun h=>hs h.1),if_neg hs,if_neg hs]
  obtain⟨e1,e2⟩:=Qm hb (show 0≤a.val from Int.not_lt.1 fun h=>hs ((NI.neg_iff ha).2 h));rw[e1,e2];exact⟨rfl,rfl⟩
theorem ac7 (a b:NI) (ha:a.OK) (hb:b.OK) (hp:0<b.val) (hLa:a.L≤100000000000) (hLb:b.L≤100000000000):aD Tryz.prog 119 [niV a,niV b] (.tup [niV (divN a b),niV (nrm (a.val % b.val))]):=by
 have L1:(dl W a.val.natAbs).length≤100000000000:=hLa;have L2:(dl W b.val.natAbs).length≤100000000000:=hLb;have L3:(dl W (a.val.natAbs / b.val.natAbs)).length≤1000000000000:=ajI (eZ (amA _ _)) (ajI hLa (by decide))
 have L4:(dl W (a.val.natAbs % b.val.natAbs)).length≤1000000000000:=ajI (eZ (amR _ _)) (ajI hLa (by decide))
 have L5:(mdN (decide (a.s<0)) (a.val.natAbs / b.val.natAbs)).L≤100000000000:=by
  rw[nT,NI.L_nrm,TR];exact ajI (eZ (amA _ _)) hLa
 have L7:(mdN (decide (a.s<0)) (a.val.natAbs % b.val.natAbs)).L≤100000000000:=by
  rw[nT,NI.L_nrm,TR];exact ajI (eZ (amR _ _)) hLa
 have L6:NI.L ⟨1,[]⟩≤100000000000:=ajI (nS (x:=1) (by omega)) (by decide)
 have hne:dl W b.val.natAbs≠[]:=fun h=>by have:=(gL W2).1 h;omega
 have F1:=fun hx=>ahG ha hp hx;have F2:=fun hx=>ahH ha hp hx;refine xV ha hb fun p q hp' hq=>?_;rcases hp' with⟨rfl,hp',hps⟩|⟨x,rfl,hp',hpx⟩<;>rcases hq with⟨rfl,hq,hqs⟩|⟨y,rfl,hq,hqy⟩
 ·have ea:=fF hp'
  have eb:=fF hq;have es:=gF hp';have et:=gF hq;unfold smI at hps hqs;by_cases hm:a.s= -9223372036854775808
  ·have E1:=F1 (fun h=>h.2.2 hm)
   have E2:=F2 (fun h=>h.2.2 hm);have na:True:=trivial;have nb:True:=trivial;clear F1 F2 es et;generalize divN a b=r at*
   generalize a.s=s at*
   generalize b.s=t at*
   refine ay (md:=1) (rf:=[]) mixed av rT Tryz.func119 (by rfl) (by rfl) (by rfl) ?_
   all_goals exact qF
  ·have hd:divN a b=nrm (a.val / b.val):=by unfold divN;rw[if_pos ⟨hp',hq,hm⟩]
   have hp2:0<b.s:=by rw[←et];exact hp
   rw[hd,es,et];generalize a.s=s at*
   generalize b.s=t at*
   clear ea eb es et hp' hq hd hp L1 L2 hLa hLb F1 F2 L3 L4 L5 L6 L7 hne;have hE:=Xz (a:=s) (b:=t) (by omega)
   have hA:(s.tdiv t).natAbs≤s.natAbs:=by rw[Int.natAbs_tdiv];exact amA _ _
   have hB: -9223372036854775807≤s / t:=Int.le_ediv_of_mul_le (by omega) (by omega)
   have hC:s / t≤9223372036854775807:=Int.ediv_le_of_le_mul (by omega) (by omega)
   have hD:=Int.emod_nonneg s (show t≠0 by omega)
   have hF:=Int.emod_lt_of_pos s (show 0<t by omega)
   refine ay (md:=1) (rf:=[]) mixed av rT Tryz.func119 (by rfl) (by rfl) (by rfl) ?_
   repeat'((conv=>whnf);first|(intro hq;(try simp only[vw]at hq);try exact ak hq)|apply aI|exact aj|apply nM|apply fM)
   all_goals((try apply vM);(try simp only[vq]at*);try omega)
   all_goals first
    |(exfalso;omega)
    |omega
    |(have h1:=hE.1 hq;omega)
    |(have h1:=hE.1 hq;rw[h1.1,h1.2,iJ (by omega),iJ (by omega)];refine Sup.via ?_;repeat'((conv=>whnf);first|intro _|apply aI|exact aj|apply nM|apply fM);all_goals((try apply vM);(try simp only[vq]at*);try omega))
    |(have h1:=hE.2 hq;rw[h1.1,h1.2,iJ (by omega),iJ (by omega)];refine Sup.via ?_;repeat'((conv=>whnf);first|intro _|apply aI|exact aj|apply nM|apply fM);all_goals((try apply vM);(try simp only[vq]at*);try omega))
 ·have E1:=F1 (fun h=>by rw[hq]at h;exact(eU hqy).1 h.2.1)
  have E2:=F2 (fun h=>by rw[hq]at h;exact(eU hqy).1 h.2.1)
  have ea:=fF hp';have eb:=gD hq;have na:True:=trivial;obtain⟨nb,nb'⟩:=eU hqy;clear F1 F2;generalize divN a b=r at*
  generalize a.s=s at*
  generalize b.s=t at*
  refine ay (md:=1) (rf:=[]) mixed av rT Tryz.func119 (by rfl) (by rfl) (by rfl) ?_
  all_goals exact qF
 ·have E1:=F1 (fun h=>by rw[hp']at h;exact(eU hpx).1 h.1)
  have E2:=F2 (fun h=>by rw[hp']at h;exact(eU hpx).1 h.1)
  have ea:=gD hp';have eb:=fF hq;have nb:True:=trivial;obtain⟨na,na'⟩:=eU hpx;clear F1 F2;generalize divN a b=r at*
  generalize a.s=s at*
  generalize b.s=t at*
  refine ay (md:=1) (rf:=[]) mixed av rT Tryz.func119 (by rfl) (by rfl) (by rfl) ?_
  all_goals exact qF
 ·have E1:=F1 (fun h=>by rw[hp']at h;exact(eU hpx).1 h.1)
  have E2:=F2 (fun h=>by rw[hp']at h;exact(eU hpx).1 h.1)
  have ea:=gD hp';have eb:=gD hq;obtain⟨nb,nb'⟩:=eU hqy;obtain⟨na,na'⟩:=eU hpx;clear F1 F2;generalize divN a b=r at*
  generalize a.s=s at*
  generalize b.s=t at*
  refine ay (md:=1) (rf:=[]) mixed av rT Tryz.func119 (by rfl) (by rfl) (by rfl) ?_
  all_goals exact qF
def dmP:PSp:=fun xs K=>match xs with| [p,q]=>ni1 p fun a=>ni1 q fun b=>VC (a.OK∧b.OK∧0<b.val∧a.L≤100000000000∧b.L≤100000000000)∧K (.tup [niV (divN a b),niV (nrm (a.val % b.val))])|_=>False
theorem Qn:POK Tryz.prog 119 dmP:=wH (C:=fun a b=>a.OK∧b.OK∧0<b.val∧a.L≤100000000000∧b.L≤100000000000) (r:=fun a b=>.tup [niV (divN a b),niV (nrm (a.val % b.val))]) fun a b h=>ac7 a b h.1 h.2.1 h.2.2.1 h.2.2.2.1 h.2.2.2.2
noncomputable def aiz:CPT:=aB 201 (aV zl) noC
theorem ac8:bC Tryz.prog aiz:=au (aG rP) aF
theorem XA (a:NI) (ha:a.OK) (hLa:a.L≤100000000000):aD Tryz.prog 225 [niV a] (niV (nrm (a.val.natAbs:Nat))):=by
 have hn:=NI.neg_iff ha;have e1:a.s<0→nrm ((a.val.natAbs:Nat):Int)=nrm (-a.val):=fun h=>by
  have:=hn.1 h;rw[show((a.val.natAbs:Nat):Int)= -a.val by omega]
 have e2:¬a.s<0→nrm ((a.val.natAbs:Nat):Int)=a:=fun h=>by
  have:¬a.val<0:=fun h'=>h (hn.2 h');rw[show((a.val.natAbs:Nat):Int)=a.val by omega,←Jb ha (by omega)]
 refine ay (md:=1) (rf:=[]) mixed av ac8 Tryz.func225 (by rfl) (by rfl) (by rfl) ?_
 repeat'((conv=>whnf);first|(intro hq;(try simp only[vw]at hq);try exact ak hq)|apply aI|exact aj|apply nM|apply fM)
 all_goals((try apply vM);(try simp only[vq]at*);try omega)
 all_goals first
  |exact⟨ha,ajI hLa (by decide)⟩
  |(rw[e1 (by assumption)];exact Sup.of rfl)
  |(rw[e2 (by assumption)];exact Sup.of rfl)
def absP:PSp:=fun xs K=>match xs with| [p]=>ni1 p fun a=>VC (a.OK∧a.L≤100000000000)∧K (niV (nrm (a.val.natAbs:Nat)))|_=>False
theorem agp:POK Tryz.prog 225 absP:=ug (C:=fun a=>a.OK∧a.L≤100000000000) (r:=fun a=>niV (nrm (a.val.natAbs:Nat))) fun a h=>XA a h.1 h.2
theorem dvd_neg {a b:Int} (h:b∣a): -a / -b=a / b:=by
 rw[Int.ediv_neg,Int.neg_ediv_of_dvd h,amv]
noncomputable def aiA:CPT:=aB 201 (aV zl) (aB 194 (aV uh) (aB 119 (aV dmP) noC))
theorem ac9:bC Tryz.prog aiA:=au (aG rP) (au (aG oL) (au (aG Qn) aF))
theorem XB (a b:NI) (ha:a.OK) (hb:b.OK) (h0:b.val≠0) (hd:b.val∣a.val) (hLa:a.L≤100000000000) (hLb:b.L≤100000000000):aD Tryz.prog 202 [niV a,niV b] (niV (nrm (a.val / b.val))):=by
 have L1:(nrm (-a.val)).L≤100000000000:=by rw[NI.L_nrm,amu];exact hLa
 have L2:(nrm (-b.val)).L≤100000000000:=by rw[NI.L_nrm,amu];exact hLb
 have e1:b.val<0→divN (nrm (-a.val)) (nrm (-b.val))=nrm (a.val / b.val):=fun h=>by
  rw[BA (bO _) (by rw[bA];omega) (by rw[bA,bA];exact Int.neg_dvd.2 (Int.dvd_neg.2 hd)),bA,bA,dvd_neg hd]
 have e2:0<b.val→divN a b=nrm (a.val / b.val):=fun h=>BA ha h hd;refine ay (md:=1) (rf:=[]) mixed av ac9 Tryz.func202 (by rfl) (by rfl) (by rfl) ?_
 repeat'((conv=>whnf);first|(intro hq;(try simp only[vw]at hq);try exact ak hq)|apply aI|exact aj|apply nM|apply fM)
 all_goals((try apply vM);(try simp only[vq]at*);try omega)
 all_goals(try simp only[dJ,bA])
 all_goals(try simp only[dJ,bA]at hq)
 all_goals first
  |exact⟨ha,ajI hLa (by decide)⟩
  |exact⟨hb,ajI hLb (by decide)⟩
  |exact hb
  |(refine⟨bO _,bO _,?_,L1,L2⟩;unfold eG at hq;omega)
  |(refine⟨ha,hb,?_,hLa,hLb⟩;unfold eG at hq;omega)
  |(rw[e1 (by unfold eG at hq;omega)];exact Sup.of rfl)
  |(rw[e2 (by unfold eG at hq;omega)];exact Sup.of rfl)
def agq:PSp:=fun xs K=>match xs with| [p,q]=>ni1 p fun a=>ni1 q fun b=>VC (a.OK∧b.OK∧b.val≠0∧b.val∣a.val∧a.L≤100000000000∧b.L≤100000000000)∧K (niV (nrm (a.val / b.val)))|_=>False
theorem agr:POK Tryz.prog 202 agq:=wH (C:=fun a b=>a.OK∧b.OK∧b.val≠0∧b.val∣a.val∧a.L≤100000000000∧b.L≤100000000000) fun a b h=>XB a b h.1 h.2.1 h.2.2.1 h.2.2.2.1 h.2.2.2.2.1 h.2.2.2.2.2
noncomputable def aiB:CPT:=aB 225 (aV absP) (aB 194 (aV uh) (aB 119 (aV dmP) noC))
theorem MW:bC Tryz.prog aiB:=au (aG agp) (au (aG oL) (au (aG Qn) aF))
abbrev nr (x:Nat):NI:=nrm (x:Int)
theorem XC (a b:NI) (ha:a.OK) (hb:b.OK) (hLa:a.L≤100000000000) (hLb:b.L≤100000000000):aD Tryz.prog 178 [niV a,niV b] (niV (nr (amS a.val.natAbs b.val.natAbs))):=by
 have L1:Lw a.val.natAbs≤100000000000:=hLa;have L2:Lw b.val.natAbs≤100000000000:=hLb;refine ay (md:=1) (rf:=[]) mixed av MW Tryz.func178 (by rfl) (by rfl) (by rfl) ?_
 repeat'((conv=>whnf);first|(intro hq;(try simp only[vw]at hq);try exact ak hq)|apply aI|exact aj|apply nM|apply fM)
 all_goals((try apply vM);(try simp only[vq]at*);try omega)
 all_goals first
  |exact⟨ha,hLa⟩
  |exact⟨hb,hLb⟩
  |skip
 generalize a.val.natAbs=A at*
 generalize b.val.natAbs=B at*
 conv=>whnf
 refine aU (X:=Nat × Nat) (fun x=>Lw x.1≤100000000000∧Lw x.2≤100000000000∧amS x.1 x.2=amS A B) (fun x=>[]) (fun x=>[(0,.cells (.pv [.int .i64 (nr x.1).s,.nnl (.ints .u64 (nr x.1).w)]) false),(1,.cells (.pv [.int .i64 (nr x.2).s,.nnl (.ints .u64 (nr x.2).w)]) false)]) (fun x=>x.2) (A,B) ⟨aJ,mixed,av,MW,aR⟩ (by rfl) ⟨L1,L2,rfl⟩ ?_ ?_
 ·all_goals exact aW
 intro⟨x,y⟩ ⟨h1,h2,h3⟩;simp only at h1 h2 h3;have M1:(nr x).L≤100000000000:=by rw[NI.L_nrm];exact h1
 have M2:(nr y).L≤100000000000:=by rw[NI.L_nrm];exact h2
 repeat'((conv=>whnf);first|(intro hq;(try simp only[vw]at hq);try exact ak hq)|apply aI|exact aj|apply nM|apply fM)
 all_goals((try apply vM);(try simp only[vq]at*);try omega)
 all_goals(try simp only[dJ,bA,←al0])
 all_goals(try simp only[dJ,bA]at hq)
 all_goals first
  |exact bO _
  |(refine⟨bO _,bO _,?_,M1,M2⟩;unfold eG at hq;omega)
  |(have hy:0<y:=by unfold eG at hq;omega
    refine⟨(y,x % y),[],⟨⟨h2,ajI (eZ (amR _ _)) h1,?_⟩,akn _ hy⟩,?_⟩
    ·simp only
     rw[←h3,amT y,←Nat.gcd_rec,amT]
    all_goals exact aW)
  |(have hy:y=0:=by unfold eG at hq;omega
    subst hy;rw[←h3,Nat.gcd_zero_right];exact Sup.of rfl)
def XD:PSp:=fun xs K=>match xs with| [p,q]=>ni1 p fun a=>ni1 q fun b=>VC (a.OK∧b.OK∧a.L≤100000000000∧b.L≤100000000000)∧K (niV (nr (amS a.val.natAbs b.val.natAbs)))|_=>False
theorem TS:POK Tryz.prog 178 XD:=wH (C:=fun a b=>a.OK∧b.OK∧a.L≤100000000000∧b.L≤100000000000) (r:=fun a b=>niV (nr (amS a.val.natAbs b.val.natAbs))) fun a b h=>XC a b h.1 h.2.1 h.2.2.1 h.2.2.2
noncomputable def aiC:CPT:=aB 108 (aV ofP) (aB 110 (aV uo) noC)
theorem MX:bC Tryz.prog aiC:=au (aG ow) (au (aG oM) aF)
theorem and_one:∀k:Nat,k≤18→IntKind.i64.wrap ((ajY IntKind.i64.bits (k:Int)&&& ajY IntKind.i64.bits 1).toNat:Int)=((k % 2:Nat):Int):=by decide
theorem TU:∀k:Nat,k≤19→10 ^ k<18446744073709551616:=by decide
theorem XE (n:Nat) (h1:1≤n) (hn:n≤18):aD Tryz.prog 229 [.agg [.int .i64 10,.nils],.int .i64 n] (niV (nr (10 ^ n))):=by
 have ho:∀k,k≤19→(nr (10 ^ k)).L≤100000000000:=fun k hk=>by
  rw[NI.L_nrm];exact ajI (nS (TU k hk)) (by decide)
 have e10:nr (10 ^ 1)=⟨10,[]⟩:=iJ (by omega)
 have e1:nr (10 ^ 0)=⟨1,[]⟩:=iJ (by omega)
 refine ay (md:=1) (rf:=[]) mixed av MX Tryz.func229 (by rfl) (by rfl) (by rfl) ?_
 repeat'((conv=>whnf);first|(intro hq;(try simp only[vw]at hq);try exact ak hq)|apply aI|exact aj|apply nM|apply fM)
 all_goals((try apply vM);(try simp only[vq]at*);try omega)
 conv=>whnf
 refine aU (X:=Nat × Nat × Nat) (fun x=>x.1+x.2.1*x.2.2=n∧1≤x.2.1∧x.2.1≤18) (fun x=>[(1,.int .i64 x.2.2)]) (fun x=>[(0,.cells (.pv [.int .i64 (nr (10 ^ x.2.1)).s,.nnl (.ints .u64 (nr (10 ^ x.2.1)).w)]) false),(6,.cells (.pv [.int .i64 (nr (10 ^ x.1)).s,.nnl (.ints .u64 (nr (10 ^ x.1)).w)]) false)]) (fun x=>x.2.2) (0,1,n) ⟨aJ,mixed,av,MX,aR⟩ (by rfl) ⟨by simp,by simp,by simp⟩ ?_ ?_
 ·rw[e10,e1]
  all_goals exact aW
 intro⟨o,m,k⟩ ⟨h1,h2,h3⟩;simp only at h1 h2 h3;have hmk:k≤m*k:=amJ _ h2;have hand:=and_one k (by omega)
 have hsh:(k:Int) / 2 ^ amj 1=((k / 2:Nat):Int):=by rw[show(2:Int) ^ amj 1=2 from rfl];omega
 have hb:amj 1≤IntKind.i64.bits:=by decide
 have hmul:∀o m,nrm ((nr (10 ^ o)).val*(nr (10 ^ m)).val)=nr (10 ^ (o+m)):=fun o m=>by
  rw[bA,bA,←amk,←alT]
 have hok:∀k,(nr (10 ^ k)).OK:=fun k=>bO _;have hM:∀o m,o+m≤19→(nr (10 ^ o)).OK∧(nr (10 ^ m)).OK∧(nr (10 ^ o)).L≤100000000000∧(nr (10 ^ m)).L≤100000000000:=fun o m h=>⟨hok _,hok _,ho _ (by omega),ho _ (by omega)⟩
 by_cases hk0:k=0
 ·subst hk0
  rw[Nat.mul_zero,ajx]at h1;subst h1;clear hand hsh;all_goals exact vU
 have hdm:=akm k 2;have hk2:1<k→m+m≤m*k:=fun h=>by
  have:=al3 m (show 2≤k by omega)
  omega
 have hsum:∀r,k % 2=r→m*k=(m+m)*(k / 2)+m*r:=fun r hr=>by
  have:m*k=m*(2*(k / 2)+r):=by rw[←hr,hdm]
  rw[this];grind
 by_cases hk1:k=1
 ·subst hk1
  rw[aj9]at h1
  repeat'((conv=>whnf);first|(intro hq;(try simp only[vw]at hq);try exact ak hq)|apply aI|exact aj|apply nM|apply fM)
  all_goals((try apply vM);(try simp only[vq]at*);try omega)
  all_goals(try simp only[dJ,hmul,hsh])
  all_goals first
   |exact hM _ _ (by omega)
   |exact⟨hok _,hok _,ho _ (by omega)⟩
   |exact hb
   |(refine⟨(o+m,m,0),[],⟨⟨by simp only;omega,h2,h3⟩,by simp⟩,?_⟩
     all_goals exact aW)
 have hk2:=hk2 (by omega)
 by_cases hp:k % 2=1
 ·have hs:=hsum 1 hp
  rw[hp]at hand
  repeat'((conv=>whnf);first|(intro hq;(try simp only[vw]at hq);try exact ak hq)|apply aI|exact aj|apply nM|apply fM)
  all_goals((try apply vM);(try simp only[vq]at*);try omega)
  all_goals(try simp only[dJ,hmul,hsh])
  all_goals first
   |exact hM _ _ (by omega)
   |exact⟨hok _,hok _,ho _ (by omega)⟩
   |exact hb
   |(refine⟨(o+m,m+m,k / 2),[],⟨⟨by simp only;omega,by simp only;omega,by simp only;omega⟩,by simp only;omega⟩,?_⟩
     all_goals exact aW)
 ·have hp:k % 2=0:=by omega
  have hs:=hsum 0 hp;rw[hp]at hand
  repeat'((conv=>whnf);first|(intro hq;(try simp only[vw]at hq);try exact ak hq)|apply aI|exact aj|apply nM|apply fM)
  all_goals((try apply vM);(try simp only[vq]at*);try omega)
  all_goals(try simp only[dJ,hmul,hsh])
  all_goals first
   |exact hM _ _ (by omega)
   |exact⟨hok _,hok _,ho _ (by omega)⟩
   |exact hb
   |(refine⟨(o,m+m,k / 2),[],⟨⟨by simp only;omega,by simp only;omega,by simp only;omega⟩,by simp only;omega⟩,?_⟩
     all_goals exact aW)
def Jm:PSp:=fun xs K=>match xs with
 | [.agg [.int .i64 b,.nils],.int .i64 n]=>VC (b=10∧1≤n∧n≤18)∧K (niV (nr (10 ^ n.toNat)))
 |_=>False
theorem XF:POK Tryz.prog 229 Jm:=by
 intro xs K hk;unfold Jm at hk;split at hk
 ·obtain⟨h1,h2,h3⟩:=hk.1.get
  rename_i b n;subst h1;obtain⟨m,rfl⟩:=amd (show 0≤n by omega)
  exact⟨_,hk.2,XE m (by omega) (by omega)⟩
 ·exact hk.elim
theorem Qo (n:Int):aD Tryz.prog 120 [.agg [.int .i64 n,.nils]] (.tup [.int .i64 n,.bp true]):=by
 refine ay (md:=1) (rf:=[]) mixed av aF Tryz.func120 (by rfl) (by rfl) (by rfl) ?_
 all_goals exact vY
def TV:PSp:=fun xs K=>match xs with| [p]=>ni1 p fun a=>VC (a.w=[])∧K (.tup [.int .i64 a.s,.bp true])|_=>False
theorem XG:POK Tryz.prog 120 TV:=ug (C:=fun a=>a.w=[]) (r:=fun a=>.tup [.int .i64 a.s,.bp true]) fun a h=>cB (fun S w vs hA=>CZ (fun v hv=>(pQ hv).1 h) hA) (Qo a.s)
def qO (x:Nat):Nat:=if x=0 then 0 else 64*(Lw x-1)+Go.Lib.bitLen ((dl W x).getD (Lw x-1) 0).toNat
theorem XH (x:Nat):x<2 ^ qO x:=by
 unfold qO;split
 ·rename_i h;subst h;simp
 ·rename_i h
  have hl:0<Lw x:=akk fun h'=>h ((gL W2).1 (ak6.1 h'));obtain⟨k,hk⟩:∃k,Lw x=k+1:=⟨Lw x-1,by omega⟩
  have hlt:=qN x;have hge:=qL W2 x k hk;have hp:=pw W2 k;rw[hk,alJ,dz W2,alR];rw[hk,alH]at hlt;have h1:1≤x / W ^ k:=(ako hp).2 (by omega)
  have h2:x / W ^ k<W:=(akl hp).2 (by rw[aj3];exact hlt)
  rw[aj7 h2];obtain⟨a,b,c⟩:=Go.Lib.bitLenAux_bounds 64 (x / W ^ k) h2 (by omega)
  have h3:x<(x / W ^ k+1)*W ^ k:=by rw[aj3];exact amH x hp
  have h4:(x / W ^ k+1)*W ^ k≤2 ^ Go.Lib.bitLen (x / W ^ k)*W ^ k:=akh _ c;have h5:2 ^ (64*k+Go.Lib.bitLen (x / W ^ k))=2 ^ Go.Lib.bitLen (x / W ^ k)*W ^ k:=by
   rw[alT,Nat.pow_mul,aj3]
  rw[h5];exact ajF h3 h4
noncomputable def aiD:CPT:=aB 184 (aV mQ) (aB 266 (aP Qj) noC)
theorem ada:bC Tryz.prog aiD:=au (aG lu) (au (aC TJ) aF)
theorem TW (a:NI) (ha:a.OK) (hLa:a.L≤100000000000):aD Tryz.prog 260 [niV a] (.int .i64 (qO a.val.natAbs:Nat)):=by
 have hL:(dl W a.val.natAbs).length≤100000000000:=hLa;have hu:qO a.val.natAbs=if a.val.natAbs=0 then 0 else 64*((dl W a.val.natAbs).length-1)+Go.Lib.bitLen ((dl W a.val.natAbs).getD ((dl W a.val.natAbs).length-1) 0).toNat:=rfl;have h0:(dl W a.val.natAbs).length=0↔a.val.natAbs=0:=by rw[ak6];exact gL W2
 have hd:=qY a.val.natAbs ((dl W a.val.natAbs).length-1);have hle:=Dj ((dl W a.val.natAbs).getD ((dl W a.val.natAbs).length-1) 0);have hle2:iq ((dl W a.val.natAbs).getD ((dl W a.val.natAbs).length-1) 0)=((Go.Lib.bitLen ((dl W a.val.natAbs).getD ((dl W a.val.natAbs).length-1) 0).toNat:Nat):Int):=rfl;have et:((((dl W a.val.natAbs).length:Nat):Int)-1).toNat=(dl W a.val.natAbs).length-1:=by omega
 refine ay (md:=1) (rf:=[]) mixed av ada Tryz.func260 (by rfl) (by rfl) (by rfl) ?_
 repeat'((conv=>whnf);first|(intro hq;(try simp only[vw]at hq);try exact ak hq)|apply aI|exact aj|apply nM|apply fM)
 all_goals((try apply vM);(try simp only[vq]at*);try omega)
 all_goals(try simp only[dJ,et])
 all_goals(try simp only[dJ]at hq)
 all_goals first
  |exact ha
  |exact hd
  |omega
  |(rw[hu,if_pos (h0.1 (by omega))];exact Sup.of rfl)
  |(rw[hu,if_neg (fun h=>by have:=h0.2 h;omega),hle2];refine Sup.of (congrArg (PV.int .i64) ?_);omega)
def aaH:PSp:=fun xs K=>match xs with| [p]=>ni1 p fun a=>VC (a.OK∧a.L≤100000000000)∧K (.int .i64 (qO a.val.natAbs:Nat))|_=>False
theorem adb:POK Tryz.prog 260 aaH:=ug (C:=fun a=>a.OK∧a.L≤100000000000) (r:=fun a=>.int .i64 (qO a.val.natAbs:Nat)) fun a h=>TW a h.1 h.2
end Go.Eng.YtmkagljofpddpaaGreatDoor
