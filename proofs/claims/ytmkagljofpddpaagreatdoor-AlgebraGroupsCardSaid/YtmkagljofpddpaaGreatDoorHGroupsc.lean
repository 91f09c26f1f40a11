/- Contracts of functions of the program: what each returns. Their conditions stand in them. -/
import Derived.Test.YtmkagljofpddpaaGreatDoorHGroupsb
open Bool renaming false_eq_true→als,eq_false_iff→aoP,not_true→alj,not_false→ali,or_false→aoy,or_true→aoR
open Classical renaming byContradiction→aoO
open Int renaming toNat_natCast→amI,emod_nonneg→aoi,emod_lt_of_pos→aoj,tmod_eq_emod_of_nonneg→aok,le_refl→aoK,toNat→ana
open List renaming getD_eq_getElem?_getD→akG,getElem?_eq_getElem→akL,getElem_mem→aoD,getElem_of_mem→akK,length_map→aoE,length_set→ak3,length_append→alQ,length_cons→akq,length_nil→akm,map_append→anS,range→akE,ext_getElem→amC,getElem_set→amF,getElem_map→amG,getElem_range→amH,map_congr_left→amE,mem_range→amn,mem_append→akH,range_succ→anX,filter_append→aoH,getElem?_append_left→amr,replicate→akP,getElem?_append→alF,length_replicate→aoI,getElem?_replicate→alN,length_take→alm,mem_map→aoL,mem_replicate→aoM,any_eq_true→aoz,take→anF,drop→anG,drop_zero→an0,take_of_length_le→anZ,getElem?_map→alJ,all_eq_true→amd,take_add_one→aoQ,take_length→amJ,getElem?_eq_some_iff→amq,mem_filter→aoS
open Nat renaming zero_le→alq,le_trans→aky,mul_one→akZ,zero_add→akS,add_zero→akn,lt_irrefl→aoF,lt_succ_self→aoG,le_refl→aku,sub_zero→aoJ,min_eq_left→alh,beq→akM,zero_div→aoN,zero_mul→alu,succ_mul→akt,mul_le_mul_right→ak6
open Option renaming getD_some→alo
namespace Go.Eng.YtmkagljofpddpaaGreatDoor
open Go.Proofs Go.Eng.Dig Go.Eng.Dec Go.Eng.ElG
set_option linter.unusedSimpArgs false
set_option linter.unusedVariables false
set_option maxHeartbeats 0
set_option maxRecDepth 100000
theorem eF:Qe.size=1:=qqR
theorem BZ:Qd.size=1:=qqR
structure CXf where
 c:Nat
 l:List Nat
 D:bJ Fr
structure CIf (cols w m:Nat) (M0:bJ Fr) (l0:List Nat) (x:CXf):Prop where
 hc:x.c≤cols
 hl:x.l.length=m
 hn:x.l.Nodup
 hi:∀b,b∈l0→b∈x.l
 ho:∀r,r<m→x.l.getD r 0∈l0
 hD:∀r,r<m→∀j,x.D (x.l.getD r 0) j=(aN Ff w m M0 x.c).M r j
structure RXf where
 i:Nat
 D:bJ Fr
structure RIf (w m:Nat) (M:bJ Fr) (n c:Nat) (L:List Nat) (x:RXf):Prop where
 hi:x.i≤m
 hD:∀r,r<m→∀j,x.D (L.getD r 0) j=if r<x.i then dB Ff w M n c r j else M r j
abbrev fnM (w:Nat) (D:bJ Fr):RC:=.fn 4 w fun b j=>frC (D b j)
theorem aeK {a b:Fr} (h:frC a=frC b):a=b:=by
 obtain⟨⟨s,w⟩,⟨t,v⟩⟩:=a;obtain⟨⟨s',w'⟩,⟨t',v'⟩⟩:=b;simp only[frC,List.cons.injEq,PV.int.injEq,PV.nnl.injEq,CL.ints.injEq,true_and,and_true]at h;obtain⟨rfl,rfl,rfl,rfl⟩:=h;rfl
noncomputable def Ca (g:Nat→Nat→List PV):bJ Fr:=fun b=>open Classical in if h:∃d:Nat→Fr,g b=fun j=>frC (d j)then h.choose else fun _=>⟨⟨0,[]⟩,⟨0,[]⟩⟩
theorem Kg {g:Nat→Nat→List PV} {b:Nat} {d:Nat→Fr} (h:g b=fun j=>frC (d j)):(g b=fun j=>frC (Ca g b j))∧Ca g b=d:=by
 have hx:∃d:Nat→Fr,g b=fun j=>frC (d j):=⟨d,h⟩;have e:Ca g b=hx.choose:=by unfold Ca;rw[dif_pos hx]
 have h2:=hx.choose_spec;rw[e];refine⟨h2,funext fun j=>?_⟩;exact(aeK (congrFun (h.symm.trans h2) j)).symm
def odC (P:List Int) (H:List (List PV)) (o:Bool):List PV:=[.nils,.isl (.ints .i64 P) (.own 4),.isl (.recs 4 H) (.own 5),.bp o]
theorem zO {m w cols b:Nat} {M0:bJ Fr} (hm:1≤m∧m≤256) (hw:w≤1000) (hcw:cols≤w) (h0:∀r,r<m→∀j,j<w→GL b 0 (M0 r j)) (hB:Bd b m≤1000000000):
 dH Tryz.prog 131 [.agg [],.rsl 0 0 m,.int .i64 (cols:Int)] [.pmat m (fnM w M0)]
  [.agg [.rsl 0 0 (aN Ff w m M0 cols).piv.length,.isl (.ints .i64 (pvI (aN Ff w m M0 cols).piv)) .none,.isl (.recs 4 ((aN Ff w m M0 cols).heads.map frC)) .none,.bp (aN Ff w m M0 cols).odd]] [.pmat m (fnM w (aN Ff w m M0 cols).M)]:=by
 refine Gh (pre:=[]) (post:=[]) (enters' Tryz.func131 qqR qqR) fun l g hl hnd hg=>?_;obtain⟨D0,hD0⟩:∃D0:bJ Fr,D0=Ca g:=⟨_,rfl⟩;have hlm:∀r,r<m→l.getD r 0∈l:=fun r hr=>by
  rw[akG,akL qqO];exact aoD _
 have h00:∀i,i<m→∀j,D0 (l.getD i 0) j=M0 i j:=fun i hi j=>by
  rw[hD0,(Kg (hg i hi)).2]
 have hgb:∀b,b∈l→g b=fun j=>frC (D0 b j):=fun b hb=>by
  obtain⟨i,hi,rfl⟩:=akK hb;have:=hg i qqO;rw[akG,akL hi]at this;rw[hD0];exact(Kg this).1
 have hlen:=fun c=>fE Ff w m M0 c;have hhom:=fun c hc=>jg (yC b) (M':=fun i j=>(M0 i j).val) (fun r hr j hj=>⟨h0 r hr j hj,rfl⟩) c (show c≤w from hc);refine dV (md:=0) (rf:=[]) mixed av kH 1 [] Tryz.func131 qqR qqR qqR ?_;conv=>whnf
 refine aV (X:=CXf) (CIf cols w m M0 l) (fun x=>[(17,.int .i64 x.c)]) (fun x=>[(0,.mat l x.l (fnM w x.D)),(3,.cells (.pv (odC (pvI (aN Ff w m M0 x.c).piv) ((aN Ff w m M0 x.c).heads.map frC) (aN Ff w m M0 x.c).odd)) false),
  (4,.tok 1 (aN Ff w m M0 x.c).piv.length),(5,.tok 4 (aN Ff w m M0 x.c).heads.length)]) (fun x=>cols-x.c) ⟨0,l,D0⟩ ⟨aL,mixed,av,kH,aU⟩ qqR ?_ ?_ ?_
 ·exact⟨alq _,hl,hnd,fun _ h=>h,hlm,h00⟩
 ·all_goals exact aW
 ·rintro⟨c,lx,D⟩ ⟨x1,x2,x3,x4,x5,x6⟩
  simp only at x1 x2 x3 x4 x5 x6;obtain⟨y1,y2,y3⟩:=hlen c;have hsucc:aN Ff w m M0 (c+1)=iW Ff w m (aN Ff w m M0 c) c:=rfl;by_cases hcw2:c<cols
  ·obtain⟨h1,_,_,_,_⟩:=hhom c qqO
   have hG:∀r,r<m→∀j,j<w→GL b (aN Ff w m M0 c).piv.length ((aN Ff w m M0 c).M r j):=fun r hr j hj=>(h1 r hr j hj).1;clear h1 hhom hlen;generalize aN Ff w m M0 c=S at*
   have hPn:(pvI S.piv).length=S.piv.length:=by simp[pvI]
   have hHn:(S.heads.map frC).length=S.piv.length:=by rw[aoE,y3]
   have hBn:Bd b S.piv.length≤1000000000:=aky (lM b qqO) hB;have hZ:∀r,r<m→(S.M r c).OK:=fun r hr=>(hG r hr c qqO).ok;generalize hP:pvI S.piv=P at*
   generalize hH:S.heads.map frC=H at*
   generalize hO:S.odd=od at*
   rw[←hPn]at hG hBn
   repeat'((conv=>whnf);first|(intro hq;(try simp only[vw]at hq);try exact ak hq)|apply aI|exact aj|apply nM|apply fM)
   all_goals((try apply vM);(try simp only[vq]at*);try omega)
   conv=>whnf
   refine aV (X:=Nat) (fun a=>(P.length≤a∧a≤m)∧∀r,P.length≤r→r<a→Ff.z (S.M r c)=true) (fun a=>[(10,.int .i64 a)]) (fun _=>[]) (fun a=>m-a) P.length ⟨aL,mixed,av,kH,aU⟩ qqR ⟨qqO,fun r h1 h2=>qqO⟩ ?_ ?_
   ·all_goals exact eU
   ·rintro a ⟨⟨ha1,ha2⟩,haz⟩
    by_cases ham:a<m
    ·have ea:D (lx.getD a 0) c=S.M a c:=x6 a ham c
     have hnm:P.length<m:=qqO;have hL:∀r,r<m→(swl lx P.length a).getD r 0∈l:=fun r hr=>by
      rw[uj qqO qqO];exact x5 _ (Bw hnm ham hr)
     have hza:=hZ a ham;have hza':(D (lx.getD a 0) c).OK:=by rw[ea];exact hza
     have hsw:lx.getD a 0=(swl lx P.length a).getD P.length 0:=by rw[lG qqO qqO,if_pos rfl]
     have hfb:FB (D (lx.getD a 0) c):=by rw[ea];exact(hG a ham c qqO).fb qqO
     repeat'((conv=>whnf);first|(intro hq;(try simp only[vw]at hq);try exact ak hq)|apply aI|exact aj|apply nM|apply fM)
     all_goals((try apply vM);(try simp only[vq]at*);try omega)
     all_goals(try first|rfl|(simp only[BZ,eF,sD,akZ,akS,akn,amI,ak3,x2,cO,alQ,chunks,akq,akm];first|omega|exact x5 _ qqO|exact hza'|exact hL _ hnm))
     ·simp only[eF,akZ,cO,ea]at hq
      refine⟨a+1,[],⟨⟨qqO,fun r h1 h2=>?_⟩,qqO⟩,?_⟩
      ·by_cases er:r=a
       ·subst er;exact decide_eq_true hq
       ·exact haz r h1 qqO
      ·all_goals exact eU
     ·rename_i hq1
      simp only[eF,akZ,cO]at hq1⊢;rw[show((lx.set P.length (lx.getD a 0)).set a (lx.getD P.length 0))=swl lx P.length a from rfl,←hsw];exact⟨hfb,hq1⟩
     rename_i hq1;simp only[eF,sD,akZ,cO]at hq1⊢;have g1:∀r,(swl lx P.length a).getD r 0=if r=P.length then lx.getD a 0 else if r=a then lx.getD P.length 0 else lx.getD r 0:=fun r=>lG qqO qqO;have g2:(swl lx P.length a).length=m:=by simp[swl,x2]
     have g3:=FD (n:=P.length) (a:=a) qqO qqO x3;have g4:∀b,b∈l→b∈swl lx P.length a:=fun b hb=>MS qqO qqO (x4 b hb);have g5:∀r,r<m→∀j,D ((swl lx P.length a).getD r 0) j=fZ S.M P.length a r j:=fun r hr j=>by
      rw[g1];unfold fZ;by_cases h1:r=P.length
      ·rw[if_pos h1,if_pos h1];exact x6 a ham j
      ·rw[if_neg h1,if_neg h1]
       by_cases h2:r=a
       ·rw[if_pos h2,if_pos h2];exact x6 _ hnm j
       ·rw[if_neg h2,if_neg h2];exact x6 r hr j
     have g6:∀r,r<m→∀j,j<w→GL b P.length (fZ S.M P.length a r j):=fun r hr j hj=>by
      unfold fZ;by_cases h1:r=P.length
      ·rw[if_pos h1];exact hG a ham j hj
      ·rw[if_neg h1]
       by_cases h2:r=a
       ·rw[if_pos h2];exact hG _ hnm j hj
       ·rw[if_neg h2];exact hG r hr j hj
     have hfz:Ff.z (S.M a c)=false:=decide_eq_false (by rw[←ea];exact hq1)
     have hfind:findAt Ff S.M c S.piv.length m=a:=by
      rw[←hPn];exact wK ham qqO hfz (fun r h1 h2=>haz r qqO h2)
     rw[show((lx.set P.length (lx.getD a 0)).set a (lx.getD P.length 0))=swl lx P.length a from rfl];generalize swl lx P.length a=L at*
     generalize hM1:fZ S.M P.length a=M1 at*
     have hs:D (L.getD P.length 0) c=M1 P.length c:=g5 _ hnm c;rw[hs];have hbn:=hL _ hnm;generalize hbd:L.getD P.length 0=bn at*
     have e1:∀j,D bn j=M1 P.length j:=fun j=>by rw[←hbd];exact g5 _ hnm j
     generalize hsv:M1 P.length c=sv at*
     obtain⟨iv,hiv⟩:∃iv,iv=can (sv.val⁻¹):=⟨_,rfl⟩;have giv:FB iv∧iv.L≤1000000000:=by
      have h1:=g6 _ hnm c qqO;rw[hsv]at h1;have h2:=QX sv;have h3:=h1.le;rw[hiv];exact⟨⟨dY _,qqO⟩,qqO⟩
     rw[←hiv];conv=>whnf
     refine aV (X:=Nat) (fun k=>k≤w) (fun k=>[(30,.any),(80,.any),(94,.int .i64 k)]) (fun k=>[(0,.mat l L (fnM w (fun b j=>if b=bn∧j<k then can ((D b j).val*iv.val)else D b j)))]) (fun k=>w-k) 0 ⟨aL,mixed,av,kH,aU⟩ qqR qqO ?_ ?_
     ·all_goals exact EN
     ·intro k hk
      by_cases hkw:k<w
      ·have e2:=e1 k
       have e3:=g6 _ hnm k hkw;have e4:FB (D bn k):=by rw[e2];exact e3.fb qqO
       repeat'((conv=>whnf);first|(intro hq;(try simp only[vw]at hq);try exact ak hq)|apply aI|exact aj|apply nM|apply fM)
       all_goals((try apply vM);(try simp only[vq]at*);try omega)
       all_goals(try first|rfl|(simp only[BZ,eF,sD,akZ,akS,akn,amI,ak3,g2,hbd,cO,alQ,chunks,akq,akm];first|omega|exact hL _ qqO|assumption))
       ·simp only[eF,akZ,hbd,cO]
        rw[if_neg (fun h=>absurd h.2 (aoF _))];exact⟨e4,giv.1⟩
       ·refine⟨k+1,[],⟨qqO,qqO⟩,?_⟩
        simp only[eF,akZ,hbd,cO]
        repeat'((conv=>whnf);first|intro _|apply aI|exact aj|apply nM|apply fM)
        all_goals((try apply vM);(try simp only[vq]at*);try omega)
        intro b hb;unfold bA;by_cases eb:b=bn
        ·subst eb
         rw[if_pos rfl];refine funext fun j=>?_;by_cases ej:j=k
         ·subst ej
          simp only[true_and,aoF,and_false,if_false,if_true,aoG]
         ·have hx:(j<k+1)=(j<k):=propext ⟨fun h=>qqO,fun h=>qqO⟩
          simp only[if_neg ej,true_and,hx]
        ·rw[if_neg eb]
         refine funext fun j=>congrArg frC ?_;rw[if_neg (fun h=>eb h.1),if_neg (fun h=>eb h.1)]
      ·have hkk:k=w:=qqO
       subst hkk;obtain⟨D2,hD2⟩:∃D2:bJ Fr,D2=fun b j=>if b=bn∧j<k then can ((D b j).val*iv.val)else D b j:=⟨_,rfl⟩;have d1:∀r,r<m→∀j,D2 (L.getD r 0) j=dK Ff k M1 P.length iv r j:=fun r hr j=>by
        rw[hD2];unfold dK;by_cases er:r=P.length
        ·subst er
         rw[if_pos rfl];simp only[hbd,true_and];by_cases ej:j<k
         ·rw[if_pos ej,if_pos ej,e1 j];rfl
         ·rw[if_neg ej,if_neg ej,e1 j]
        ·have:L.getD r 0≠bn:=fun h=>er ((jV.1 g3) r P.length qqO qqO (h.trans hbd.symm))
         simp only;rw[if_neg (fun h=>this h.1),if_neg er];exact g5 r hr j
       have d2:∀r,r<m→∀j,j<k→FB (dK Ff k M1 P.length iv r j)∧(dK Ff k M1 P.length iv r j).L≤2000000000:=fun r hr j hj=>by
        unfold dK;by_cases er:r=P.length
        ·subst er
         rw[if_pos rfl,if_pos hj];have h1:=g6 _ hnm j hj;have h2:=h1.le;have h3:=qZ (M1 P.length j) iv;have h4:=giv.2;exact⟨⟨dY _,by show(can _).L≤_;omega⟩,by show(can _).L≤_;omega⟩
        ·rw[if_neg er]
         have h1:=g6 r hr j hj;have h2:=h1.le;exact⟨h1.fb qqO,qqO⟩
       have hM2c:∀r,r<m→r≠P.length→(dK Ff k M1 P.length iv r c)=M1 r c∧(M1 r c).L≤1000000000:=fun r hr h=>by
        have h1:=(g6 r hr c qqO).le;exact⟨by unfold dK;rw[if_neg h],qqO⟩
       generalize hM2:dK Ff k M1 P.length iv=M2 at*
       rw[show(fnM k fun b j=>if b=bn∧j<k then can ((D b j).val*iv.val)else D b j)=fnM k D2 by rw[hD2]]
       clear hD2
       repeat'((conv=>whnf);first|(intro hq;(try simp only[vw]at hq);try exact ak hq)|apply aI|exact aj|apply nM|apply fM)
       all_goals((try apply vM);(try simp only[vq]at*);try omega)
       conv=>whnf
       refine aV (X:=RXf) (RIf k m M2 P.length c L) (fun x=>[(117,.int .i64 x.i)]) (fun x=>[(0,.mat l L (fnM k x.D))]) (fun x=>m-x.i) ⟨0,D2⟩ ⟨aL,mixed,av,kH,aU⟩ qqR ⟨alq _,fun r hr j=>by show _=if r<0 then _ else _;rw[if_neg qqO];exact d1 r hr j⟩ ?_ ?_
       ·all_goals exact eU
       ·rintro⟨i,D3⟩ ⟨i1,i2⟩
        simp only at i1 i2;by_cases him:i<m
        ·have hiw:D3 (L.getD i 0) c=M2 i c:=by rw[i2 i him c,if_neg qqO]
         have hbi:=hL _ him;have ti:=d2 i him c qqO;have f1:∀j,D3 (L.getD i 0) j=M2 i j:=fun j=>by rw[i2 i him j,if_neg qqO]
         have f2:∀j,D3 bn j=M2 P.length j:=fun j=>by
          rw[←hbd,i2 _ hnm j];split
          ·unfold dB;rw[if_pos (.inl rfl)]
          ·rfl
         have tok:(D3 (L.getD i 0) c).OK:=by rw[hiw];exact ti.1.ok
         repeat'((conv=>whnf);first|(intro hq;(try simp only[vw]at hq);try exact ak hq)|apply aI|exact aj|apply nM|apply fM)
         all_goals((try apply vM);(try simp only[vq]at*);try omega)
         all_goals(try first|rfl|(simp only[BZ,eF,sD,akZ,akS,akn,amI,ak3,g2,hbd,cO];first|omega|exact hL _ qqO|exact tok))
         ·have hz:=hq
          simp only[eF,akZ,cO,hiw]at hz;refine⟨⟨i+1,D3⟩,[],⟨⟨by(show i+1≤m);omega,fun r hr j=>?_⟩,by(show m-(i+1)<m-i);omega⟩,?_⟩
          ·show D3 (L.getD r 0) j=if r<i+1 then dB Ff k M2 P.length c r j else M2 r j
           rw[i2 r hr j];by_cases e5:r<i
           ·rw[if_pos e5,if_pos qqO]
           ·rw[if_neg e5]
            by_cases e6:r=i
            ·subst e6
             rw[if_pos qqO];unfold dB;rw[if_pos (.inr (decide_eq_true hz))]
            ·rw[if_neg qqO]
          ·all_goals exact eU
         ·have hz:=hq
          simp only[eF,sD,akZ,cO,hiw]at hz⊢;have hni:i≠P.length:=qqO;have hne:L.getD i 0≠bn:=fun h=>by
           have:=(jV.1 g3) i P.length qqO qqO (h.trans hbd.symm);omega
          obtain⟨hq1',hq2'⟩:=hM2c i him hni;rw[←hq1']at hq2';generalize hbi2:L.getD i 0=bi at*
          generalize htv:M2 i c=tv at*
          conv=>whnf
          refine aV (X:=Nat) (fun q=>q≤k) (fun q=>[(132,.any),(141,.int .i64 q)]) (fun q=>[(0,.mat l L (fnM k (fun b j=>if b=bi∧j<q then iB (D3 b j) (can (tv.val*(M2 P.length j).val))else D3 b j)))]) (fun q=>k-q) 0 ⟨aL,mixed,av,kH,aU⟩ qqR qqO ?_ ?_
          ·all_goals exact EN
          ·intro q hqk
           by_cases hqw:q<k
           ·have u1:=f1 q
            have u2:=f2 q;have u3:=d2 _ hnm q hqw;have u4:=d2 _ him q hqw;have u5:=qZ tv (M2 P.length q);have u6:FB (can (tv.val*(M2 P.length q).val)):=⟨dY _,qqO⟩
            repeat'((conv=>whnf);first|(intro hq;(try simp only[vw]at hq);try exact ak hq)|apply aI|exact aj|apply nM|apply fM)
            all_goals((try apply vM);(try simp only[vq]at*);try omega)
            all_goals(try first|rfl|(simp only[BZ,eF,sD,akZ,akS,akn,amI,ak3,g2,hbd,hbi2,cO];first|omega|exact hL _ qqO|assumption))
            ·simp only[eF,akZ,hbd,cO]
             rw[if_neg (fun h=>hne h.1.symm),u2];exact⟨ti.1,u3.1⟩
            ·simp only[eF,akZ,hbd,hbi2,cO]
             rw[if_neg (fun h=>absurd h.2 (aoF _)),if_neg (fun h=>hne h.1.symm),u1,u2];exact⟨u4.1,u6⟩
            ·refine⟨q+1,[],⟨qqO,qqO⟩,?_⟩
             simp only[eF,akZ,hbd,hbi2,cO]
             repeat'((conv=>whnf);first|intro _|apply aI|exact aj|apply nM|apply fM)
             all_goals((try apply vM);(try simp only[vq]at*);try omega)
             intro b hb;unfold bA;by_cases eb:b=bi
             ·subst eb
              rw[if_pos rfl];refine funext fun j=>?_;by_cases ej:j=q
              ·subst ej
               simp only[true_and,aoF,and_false,if_false,if_true,aoG,u2]
              ·have hx:(j<q+1)=(j<q):=propext ⟨fun h=>qqO,fun h=>qqO⟩
               simp only[if_neg ej,true_and,hx]
             ·rw[if_neg eb]
              refine funext fun j=>congrArg frC ?_;rw[if_neg (fun h=>eb h.1),if_neg (fun h=>eb h.1)]
           ·have hqq:q=k:=qqO
            subst hqq
            repeat'((conv=>whnf);first|(intro hq;(try simp only[vw]at hq);try exact ak hq)|apply aI|exact aj|apply nM|apply fM)
            all_goals((try apply vM);(try simp only[vq]at*);try omega)
            refine⟨⟨i+1,fun b j=>if b=bi∧j<q then iB (D3 b j) (can (tv.val*(M2 P.length j).val))else D3 b j⟩,[],⟨⟨by(show i+1≤m);omega,fun r hr j=>?_⟩,by(show m-(i+1)<m-i);omega⟩,?_⟩
            ·show(if L.getD r 0=bi∧j<q then iB (D3 (L.getD r 0) j) (can (tv.val*(M2 P.length j).val))else D3 (L.getD r 0) j)=if r<i+1 then dB Ff q M2 P.length c r j else M2 r j
             by_cases er:r=i
             ·subst er
              rw[if_pos (aoG r),hbi2];have hcl:dB Ff q M2 P.length c r j=if j<q then iB (M2 r j) (can (tv.val*(M2 P.length j).val))else M2 r j:=by
               unfold dB;rw[htv,if_neg (fun h=>h.elim hni (fun h2=>hz (of_decide_eq_true h2)))];rfl
              rw[hcl,f1 j];by_cases ej:j<q
              ·rw[if_pos ⟨rfl,ej⟩,if_pos ej]
              ·rw[if_neg (fun h=>ej h.2),if_neg ej]
             ·have:L.getD r 0≠bi:=fun h=>er (jV.1 g3 r i qqO qqO (h.trans hbi2.symm))
              rw[if_neg (fun h=>this h.1),i2 r hr j];by_cases e5:r<i
              ·rw[if_pos e5,if_pos qqO]
              ·rw[if_neg e5,if_neg qqO]
            ·all_goals exact eU
         ·have hin:i=P.length:=qqO
          refine⟨⟨i+1,D3⟩,[],⟨⟨by(show i+1≤m);omega,fun r hr j=>?_⟩,by(show m-(i+1)<m-i);omega⟩,?_⟩
          ·show D3 (L.getD r 0) j=if r<i+1 then dB Ff k M2 P.length c r j else M2 r j
           rw[i2 r hr j];by_cases e5:r<i
           ·rw[if_pos e5,if_pos qqO]
           ·rw[if_neg e5]
            by_cases e6:r=i
            ·rw[if_pos qqO]
             unfold dB;rw[if_pos (.inl qqO)]
            ·rw[if_neg qqO]
          ·all_goals exact eU
        ·have hii:i=m:=qqO
         have hstep:iW Ff k m S c=⟨dB Ff k M2 P.length c,S.piv++[c],S.heads++[sv],S.odd !=decide (P.length≠a)⟩:=by
          have hi2:Ff.inv sv=iv:=hiv.symm;unfold iW;rw[hfind,if_neg qqO,←hPn,hM1,hsv,hi2,hM2]
         have hpv:pvI (S.piv++[c])=P++[(c:Int)]:=by rw[←hP];simp[pvI]
         have hhd:(S.heads++[sv]).map frC=H++[frC sv]:=by rw[anS,hH];rfl
         have hl1:(S.piv++[c]).length=S.piv.length+1:=qqS;have hl2:(S.heads++[sv]).length=S.heads.length+1:=qqS
         repeat'((conv=>whnf);first|(intro hq;(try simp only[vw]at hq);try exact ak hq)|apply aI|exact aj|apply nM|apply fM)
         all_goals((try apply vM);(try simp only[vq]at*);try omega)
         ·rw[alQ,akq,akm];omega
         ·refine⟨⟨c+1,L,D3⟩,[],⟨⟨by(show c+1≤cols);omega,g2,g3,g4,hL,fun r hr j=>?_⟩,by(show cols-(c+1)<cols-c);omega⟩,?_⟩
          ·show D3 (L.getD r 0) j=(aN Ff k m M0 (c+1)).M r j
           rw[hsucc,hstep,i2 r hr j,if_pos qqO]
          ·simp only[hsucc,hstep,hpv,hhd,hl1,hl2,hO]
           repeat'((conv=>whnf);first|intro _|apply aI|exact aj|apply nM|apply fM)
           all_goals((try apply vM);(try simp only[vq]at*);try omega)
           all_goals first
            |exact fun _ _=>trivial
            |(have hd:decide ((P.length:Int)≠(a:Int))=decide (P.length≠a):=decide_eq_decide.2 ⟨fun h=>qqO,fun h=>qqO⟩
              rw[hd];rfl)
    ·have hstep:iW Ff w m S c=S:=by
      unfold iW;rw[rF (fun r h1 h2=>haz r qqO qqO),if_pos rfl]
     repeat'((conv=>whnf);first|(intro hq;(try simp only[vw]at hq);try exact ak hq)|apply aI|exact aj|apply nM|apply fM)
     all_goals((try apply vM);(try simp only[vq]at*);try omega)
     refine⟨⟨c+1,lx,D⟩,[],⟨⟨by(show c+1≤cols);omega,x2,x3,x4,x5,fun r hr j=>?_⟩,by(show cols-(c+1)<cols-c);omega⟩,?_⟩
     ·show D (lx.getD r 0) j=(aN Ff w m M0 (c+1)).M r j
      rw[hsucc,hstep];exact x6 r hr j
     ·simp only[hsucc,hstep,hP,hH,hO]
      all_goals exact eU
  ·have hcc:c=cols:=qqO
   subst hcc;have hPn:(pvI (aN Ff w m M0 c).piv).length=(aN Ff w m M0 c).piv.length:=by simp[pvI]
   repeat'((conv=>whnf);first|(intro hq;(try simp only[vw]at hq);try exact ak hq)|apply aI|exact aj|apply nM|apply fM)
   all_goals((try apply vM);(try simp only[vq]at*);try omega)
   conv=>whnf
   repeat'((conv=>whnf);first|intro _|apply aI|exact aj|apply nM|apply fM)
   all_goals((try apply vM);(try simp only[vq]at*);try omega)
   all_goals first
    |exact x4 _ qqA
    |omega
    |(refine funext fun j=>congrArg frC ?_;exact x6 _ qqA j)
end Go.Eng.YtmkagljofpddpaaGreatDoor
namespace Go.Eng.YtmkagljofpddpaaGreatDoor
open Go.Proofs Go.Eng.ElG
set_option linter.unusedSimpArgs false
set_option linter.unusedVariables false
set_option maxHeartbeats 0
set_option maxRecDepth 100000
def cu (w:Nat) (f:Nat→Int):List Int:=(akE w).map f
theorem fC (w:Nat) (f:Nat→Int):(cu w f).length=w:=by simp[cu]
theorem qz {w:Nat} (f:Nat→Int) {j:Nat} (h:j<w):(cu w f).getD j 0=f j:=by
 simp[cu,akG,List.getElem?_range h]
theorem qA {w:Nat} (f:Nat→Int) (k:Nat) (v:Int):(cu w f).set k v=cu w (fun j=>if j=k then v else f j):=by
 apply amC
 ·simp[cu]
 ·intro j h1 h2
  simp only[cu,ak3,aoE,List.length_range]at h1;rw[amF];simp only[cu,amG,amH];by_cases e:k=j
  ·subst e;simp
  ·rw[if_neg e,if_neg (fun h=>e h.symm)]
theorem kI {w:Nat} {f g:Nat→Int} (h:∀j,j<w→f j=g j):cu w f=cu w g:=by
 unfold cu;exact amE (fun j hj=>h j (amn.1 hj))
def Fp (p:Int):Fld Int:=⟨fun a=>decide (a=0),fun a b=>(a-b+p) % p,fun a b=>a*b % p,fun a=>(ng a p).1⟩
structure PrI (p:Int):Prop where
 lo:2≤p
 hi:p≤999999999
def InP (p:Int) (x:Int):Prop:=0≤x∧x<p
theorem nk {p:Int} (h:PrI p) (x:Int):InP p (x % p):=⟨aoi _ (by have:=h.lo;omega),aoj _ (by have:=h.lo;omega)⟩
theorem aeL {p x y:Int} (h:PrI p) (hx:InP p x) (hy:InP p y):0≤x*y∧x*y≤999999998000000001:=by
 obtain⟨a,b⟩:=hx;obtain⟨c,d⟩:=hy;have:=h.hi;have h1:=Int.mul_le_mul (show x≤999999999 by omega) (show y≤999999999 by omega) c qqO
 exact⟨Int.mul_nonneg a c,qqO⟩
noncomputable def ajR:CPT:=aB 142 (aP Q7) noC
theorem aeM:bD Tryz.prog ajR:=au (aC U3) aG
abbrev rsV (p:Int):PV:=.agg [.int .i64 p]
theorem YO (p a:Int):aD Tryz.prog 332 [rsV p,.int .i64 a] (.bp (decide (a=0))):=by
 refine ay (md:=1) (rf:=[]) mixed av aG Tryz.func332 qqR qqR qqR ?_;all_goals exact vZ
theorem YQ (p a:Int) (h:PrI p) (ha:InP p a):aD Tryz.prog 331 [rsV p,.int .i64 a] (.int .i64 (ng a p).1):=by
 obtain⟨h1,h2⟩:=h;obtain⟨a1,a2⟩:=ha;refine ay (md:=1) (rf:=[]) mixed av aeM Tryz.func331 qqR qqR qqR ?_
 repeat'((conv=>whnf);first|(intro hq;(try simp only[vw]at hq);try exact ak hq)|apply aI|exact aj|apply nM|apply fM)
 all_goals((try apply vM);(try simp only[vq]at*);try omega)
 all_goals first|exact⟨qqO,qqO⟩|exact Sup.of rfl
theorem YR (p a b:Int) (h:PrI p) (ha:InP p a) (hb:InP p b):aD Tryz.prog 333 [rsV p,.int .i64 a,.int .i64 b] (.int .i64 (a*b % p)):=by
 obtain⟨m1,m2⟩:=aeL h ha hb;obtain⟨h1,h2⟩:=h;have e:(a*b).tmod p=a*b % p:=aok m1;refine ay (md:=1) (rf:=[]) mixed av aG Tryz.func333 qqR qqR qqR ?_;all_goals exact wD
theorem Kh (p a b:Int) (h:PrI p) (ha:InP p a) (hb:InP p b):aD Tryz.prog 334 [rsV p,.int .i64 a,.int .i64 b] (.int .i64 ((a-b+p) % p)):=by
 obtain⟨h1,h2⟩:=h;obtain⟨a1,a2⟩:=ha;obtain⟨b1,b2⟩:=hb;have e:(a-b+p).tmod p=(a-b+p) % p:=aok qqO;refine ay (md:=1) (rf:=[]) mixed av aG Tryz.func334 qqR qqR qqR ?_;all_goals exact wD
theorem zP (p a:Int) (h:PrI p) (ha: -999999999≤a∧a≤999999999):aD Tryz.prog 214 [rsV p,.int .i64 a] (.int .i64 (a % p)):=by
 obtain⟨h1,h2⟩:=h;obtain⟨e,e2,e3⟩:=q9 a p qqO;refine ay (md:=1) (rf:=[]) mixed av aG Tryz.func214 qqR qqR qqR ?_;all_goals exact wD
def zQ (C:Int→Int→Prop) (r:Int→Int→PV):PSp:=fun xs K=>match xs with
 | [.agg [.int .i64 p],.int .i64 a]=>VC (C p a)∧K (r p a)
 |_=>False
def Ki (C:Int→Int→Int→Prop) (r:Int→Int→Int→PV):PSp:=fun xs K=>match xs with
 | [.agg [.int .i64 p],.int .i64 a,.int .i64 b]=>VC (C p a b)∧K (r p a b)
 |_=>False
theorem sG {g:FuncId} {C:Int→Int→Prop} {r:Int→Int→PV} (h:∀p a,C p a→aD Tryz.prog g [rsV p,.int .i64 a] (r p a)):POK Tryz.prog g (zQ C r):=by
 intro xs K hk;unfold zQ at hk;split at hk
 ·exact⟨_,hk.2,h _ _ hk.1.get⟩
 ·exact hk.elim
theorem DX {g:FuncId} {C:Int→Int→Int→Prop} {r:Int→Int→Int→PV} (h:∀p a b,C p a b→aD Tryz.prog g [rsV p,.int .i64 a,.int .i64 b] (r p a b)):POK Tryz.prog g (Ki C r):=by
 intro xs K hk;unfold Ki at hk;split at hk
 ·exact⟨_,hk.2,h _ _ _ hk.1.get⟩
 ·exact hk.elim
noncomputable def ajS:CPT:=aB 332 (aP (zQ (fun _ _=>True) fun p a=>.bp (decide (a=0)))) (aB 331 (aP (zQ (fun p a=>PrI p∧InP p a) fun p a=>.int .i64 (ng a p).1)) (aB 333 (aP (Ki (fun p a b=>PrI p∧InP p a∧InP p b) fun p a b=>.int .i64 (a*b % p))) (aB 334 (aP (Ki (fun p a b=>PrI p∧InP p a∧InP p b) fun p a b=>.int .i64 ((a-b+p) % p))) (aB 214 (aP (zQ (fun p a=>PrI p∧ -999999999≤a∧a≤999999999) fun p a=>.int .i64 (a % p))) noC))))
theorem kJ:bD Tryz.prog ajS:=au (aC (sG fun p a _=>YO p a)) (au (aC (sG fun p a h=>YQ p a h.1 h.2)) (au (aC (DX fun p a b h=>YR p a b h.1 h.2.1 h.2.2)) (au (aC (DX fun p a b h=>Kh p a b h.1 h.2.1 h.2.2)) (au (aC (sG fun p a h=>zP p a h.1 h.2)) aG))))
theorem aeN {p:Int} (h:PrI p) (a:Int):InP p (ng a p).1:=nk h _
theorem abr {p:Int} (h:PrI p):Hom (Fp p) (Fp p) id (fun _=>InP p)where
 up:=fun c x h=>h
 z:=fun c x h=>rfl
 scale:=fun c a s ha hs h0=>⟨rfl,nk h _⟩
 clear:=fun c a t b s ha ht hb hs h0=>⟨rfl,nk h _⟩
theorem iX:Xt.size=1:=qqR
theorem G6:Xu.size=1:=qqR
structure CXi where
 c:Nat
 l:List Nat
 D:bJ Int
structure CIi (p:Int) (cols w m:Nat) (M0:bJ Int) (l0:List Nat) (x:CXi):Prop where
 hc:x.c≤cols
 hl:x.l.length=m
 hn:x.l.Nodup
 hi:∀b,b∈l0→b∈x.l
 ho:∀r,r<m→x.l.getD r 0∈l0
 hD:∀r,r<m→∀j,x.D (x.l.getD r 0) j=(aN (Fp p) w m M0 x.c).M r j
structure RXi where
 i:Nat
 D:bJ Int
structure RIi (p:Int) (w m:Nat) (M:bJ Int) (n c:Nat) (L:List Nat) (x:RXi):Prop where
 hi:x.i≤m
 hD:∀r,r<m→∀j,x.D (L.getD r 0) j=if r<x.i then dB (Fp p) w M n c r j else M r j
abbrev fnI (w:Nat) (D:bJ Int):RC:=.ints .i64 fun b=>cu w (D b)
theorem Vm {l:List Nat} (h:l.Nodup) {i:Nat} (hi:i<l.length):l.idxOf (l.getD i 0)=i:=by
 rw[akG,akL hi];exact h.idxOf_getElem i hi
def odI (P:List Int) (H:List Int) (o:Bool):List PV:=[.nils,.isl (.ints .i64 P) (.own 4),.isl (.ints .i64 H) (.own 5),.bp o]
theorem Kj {p:Int} {m w cols:Nat} {M0:bJ Int} (hp:PrI p) (hm:1≤m∧m≤256) (hw:w≤1000) (hcw:cols≤w) (h0:∀r,r<m→∀j,j<w→InP p (M0 r j)):
 dH Tryz.prog 150 [rsV p,.rsl 0 0 m,.int .i64 (cols:Int)] [.pmat m (fnI w M0)]
  [.agg [.rsl 0 0 (aN (Fp p) w m M0 cols).piv.length,.isl (.ints .i64 (pvI (aN (Fp p) w m M0 cols).piv)) .none,.isl (.ints .i64 (aN (Fp p) w m M0 cols).heads) .none,.bp (aN (Fp p) w m M0 cols).odd]] [.pmat m (fnI w (aN (Fp p) w m M0 cols).M)]:=by
 refine Bq (pre:=[]) (post:=[]) (enters' Tryz.func150 qqR qqR) fun l g hl hnd hg=>?_;obtain⟨D0,hD0⟩:∃D0:bJ Int,D0=fun b=>M0 (l.idxOf b):=⟨_,rfl⟩;have hlm:∀r,r<m→l.getD r 0∈l:=fun r hr=>by
  rw[akG,akL qqO];exact aoD _
 have h00:∀i,i<m→∀j,D0 (l.getD i 0) j=M0 i j:=fun i hi j=>by
  rw[hD0];simp only[Vm hnd (show i<l.length by omega)]
 have hgb:∀b,b∈l→g b=cu w (D0 b):=fun b hb=>by
  obtain⟨i,hi,rfl⟩:=akK hb;have:=hg i qqO;have h2:=Vm hnd hi;rw[akG,akL hi]at this h2;rw[hD0];simp only[alo]at this h2;simp only[h2];exact this
 have hlen:=fun c=>fE (Fp p) w m M0 c;have hhom:=fun c hc=>jg (abr hp) (M':=M0) (fun r hr j hj=>⟨h0 r hr j hj,rfl⟩) c (show c≤w from hc);refine dV (md:=0) (rf:=[]) mixed av kJ 1 [] Tryz.func150 qqR qqR qqR ?_;conv=>whnf
 refine aV (X:=CXi) (CIi p cols w m M0 l) (fun x=>[(17,.int .i64 x.c)]) (fun x=>[(0,.mat l x.l (fnI w x.D)),(3,.cells (.pv (odI (pvI (aN (Fp p) w m M0 x.c).piv) (aN (Fp p) w m M0 x.c).heads (aN (Fp p) w m M0 x.c).odd)) false),
  (4,.tok 1 (aN (Fp p) w m M0 x.c).piv.length),(5,.tok 1 (aN (Fp p) w m M0 x.c).heads.length)]) (fun x=>cols-x.c) ⟨0,l,D0⟩ ⟨aL,mixed,av,kJ,aU⟩ qqR ?_ ?_ ?_
 ·exact⟨alq _,hl,hnd,fun _ h=>h,hlm,h00⟩
 ·all_goals exact aW
 ·rintro⟨c,lx,D⟩ ⟨x1,x2,x3,x4,x5,x6⟩
  simp only at x1 x2 x3 x4 x5 x6;obtain⟨y1,y2,y3⟩:=hlen c;have hsucc:aN (Fp p) w m M0 (c+1)=iW (Fp p) w m (aN (Fp p) w m M0 c) c:=rfl;by_cases hcw2:c<cols
  ·obtain⟨h1,_,_,_,_⟩:=hhom c qqO
   have hG:∀r,r<m→∀j,j<w→InP p ((aN (Fp p) w m M0 c).M r j):=fun r hr j hj=>(h1 r hr j hj).1;clear h1 hhom hlen;have mgc:∀f:Nat→Int,(cu w f).getD c 0=f c:=fun f=>qz f qqO;generalize aN (Fp p) w m M0 c=S at*
   have hPn:(pvI S.piv).length=S.piv.length:=by simp[pvI]
   have hHn:S.heads.length=S.piv.length:=y3;have hZ:∀r,r<m→InP p (S.M r c):=fun r hr=>hG r hr c qqO;generalize hP:pvI S.piv=P at*
   obtain⟨H,hH⟩:∃H,S.heads=H:=⟨_,rfl⟩;rw[hH]at hHn y3⊢;generalize hO:S.odd=od at*
   repeat'((conv=>whnf);first|(intro hq;(try simp only[vw]at hq);try exact ak hq)|apply aI|exact aj|apply nM|apply fM)
   all_goals((try apply vM);(try simp only[vq]at*);try omega)
   conv=>whnf
   refine aV (X:=Nat) (fun a=>(P.length≤a∧a≤m)∧∀r,P.length≤r→r<a→(Fp p).z (S.M r c)=true) (fun a=>[(10,.int .i64 a)]) (fun _=>[]) (fun a=>m-a) P.length ⟨aL,mixed,av,kJ,aU⟩ qqR ⟨qqO,fun r h1 h2=>qqO⟩ ?_ ?_
   ·all_goals exact eU
   ·rintro a ⟨⟨ha1,ha2⟩,haz⟩
    by_cases ham:a<m
    ·have ea:D (lx.getD a 0) c=S.M a c:=x6 a ham c
     have hnm:P.length<m:=qqO;have hL:∀r,r<m→(swl lx P.length a).getD r 0∈l:=fun r hr=>by
      rw[uj qqO qqO];exact x5 _ (Bw hnm ham hr)
     have hza:=hZ a ham;have hza':InP p (D (lx.getD a 0) c):=by rw[ea];exact hza
     have hsw:lx.getD a 0=(swl lx P.length a).getD P.length 0:=by rw[lG qqO qqO,if_pos rfl]
     have hfb:InP p (D (lx.getD a 0) c):=by rw[ea];exact hG a ham c qqO
     repeat'((conv=>whnf);first|(intro hq;(try simp only[vw]at hq);try exact ak hq)|apply aI|exact aj|apply nM|apply fM)
     all_goals((try apply vM);(try simp only[vq]at*);try omega)
     all_goals(try first|rfl|(simp only[G6,iX,zw,akZ,akS,akn,amI,ak3,x2,fC,mgc,alQ,chunks,akq,akm];first|omega|exact x5 _ qqO|exact hza'|exact hL _ hnm))
     ·simp only[iX,akZ,mgc,ea]at hq
      refine⟨a+1,[],⟨⟨qqO,fun r h1 h2=>?_⟩,qqO⟩,?_⟩
      ·by_cases er:r=a
       ·subst er;exact decide_eq_true hq
       ·exact haz r h1 qqO
      ·all_goals exact eU
     ·rename_i hq1
      simp only[iX,akZ,mgc]at hq1⊢;rw[show((lx.set P.length (lx.getD a 0)).set a (lx.getD P.length 0))=swl lx P.length a from rfl,←hsw];exact⟨hp,hfb⟩
     rename_i hq1;simp only[iX,zw,akZ,mgc]at hq1⊢;have g1:∀r,(swl lx P.length a).getD r 0=if r=P.length then lx.getD a 0 else if r=a then lx.getD P.length 0 else lx.getD r 0:=fun r=>lG qqO qqO;have g2:(swl lx P.length a).length=m:=by simp[swl,x2]
     have g3:=FD (n:=P.length) (a:=a) qqO qqO x3;have g4:∀b,b∈l→b∈swl lx P.length a:=fun b hb=>MS qqO qqO (x4 b hb);have g5:∀r,r<m→∀j,D ((swl lx P.length a).getD r 0) j=fZ S.M P.length a r j:=fun r hr j=>by
      rw[g1];unfold fZ;by_cases h1:r=P.length
      ·rw[if_pos h1,if_pos h1];exact x6 a ham j
      ·rw[if_neg h1,if_neg h1]
       by_cases h2:r=a
       ·rw[if_pos h2,if_pos h2];exact x6 _ hnm j
       ·rw[if_neg h2,if_neg h2];exact x6 r hr j
     have g6:∀r,r<m→∀j,j<w→InP p (fZ S.M P.length a r j):=fun r hr j hj=>by
      unfold fZ;by_cases h1:r=P.length
      ·rw[if_pos h1];exact hG a ham j hj
      ·rw[if_neg h1]
       by_cases h2:r=a
       ·rw[if_pos h2];exact hG _ hnm j hj
       ·rw[if_neg h2];exact hG r hr j hj
     have hfz:(Fp p).z (S.M a c)=false:=decide_eq_false (by rw[←ea];exact hq1)
     have hfind:findAt (Fp p) S.M c S.piv.length m=a:=by
      rw[←hPn];exact wK ham qqO hfz (fun r h1 h2=>haz r qqO h2)
     rw[show((lx.set P.length (lx.getD a 0)).set a (lx.getD P.length 0))=swl lx P.length a from rfl];generalize swl lx P.length a=L at*
     generalize hM1:fZ S.M P.length a=M1 at*
     have hs:D (L.getD P.length 0) c=M1 P.length c:=g5 _ hnm c;rw[hs];have hbn:=hL _ hnm;generalize hbd:L.getD P.length 0=bn at*
     have e1:∀j,D bn j=M1 P.length j:=fun j=>by rw[←hbd];exact g5 _ hnm j
     have hlw:=fC w (D bn);generalize hsv:M1 P.length c=sv at*
     obtain⟨iv,hiv⟩:∃iv,iv=(ng sv p).1:=⟨_,rfl⟩;have giv:InP p iv:=by rw[hiv];exact aeN hp _
     rw[←hiv];conv=>whnf
     refine aV (X:=Nat) (fun k=>k≤w) (fun k=>[(30,.any),(80,.any),(94,.int .i64 k)]) (fun k=>[(0,.mat l L (fnI w (fun b j=>if b=bn∧j<k then D b j*iv % p else D b j)))]) (fun k=>w-k) 0 ⟨aL,mixed,av,kJ,aU⟩ qqR qqO ?_ ?_
     ·all_goals exact EO
     ·intro k hk
      by_cases hkw:k<w
      ·have e2:=e1 k
       have e3:=g6 _ hnm k hkw;have mgk:∀f:Nat→Int,(cu w f).getD k 0=f k:=fun f=>qz f hkw;have e4:InP p (D bn k):=by rw[e2];exact e3
       repeat'((conv=>whnf);first|(intro hq;(try simp only[vw]at hq);try exact ak hq)|apply aI|exact aj|apply nM|apply fM)
       all_goals((try apply vM);(try simp only[vq]at*);try omega)
       all_goals(try first|rfl|(simp only[G6,iX,zw,akZ,akS,akn,amI,ak3,g2,hbd,fC,alQ,chunks,akq,akm];first|omega|exact hL _ qqO|assumption))
       ·simp only[iX,akZ,hbd,mgk]
        rw[if_neg (fun h=>absurd h.2 (aoF _))];exact⟨hp,e4,giv⟩
       ·refine⟨k+1,[],⟨qqO,qqO⟩,?_⟩
        simp only[iX,akZ,hbd,mgk]
        repeat'((conv=>whnf);first|intro _|apply aI|exact aj|apply nM|apply fM)
        all_goals((try apply vM);(try simp only[vq]at*);try omega)
        intro b hb;unfold bA;by_cases eb:b=bn
        ·subst eb
         rw[if_pos rfl];rw[qA];refine kI fun j hj=>?_;by_cases ej:j=k
         ·subst ej
          simp only[true_and,aoF,and_false,if_false,if_true,aoG]
         ·have hx:(j<k+1)=(j<k):=propext ⟨fun h=>qqO,fun h=>qqO⟩
          simp only[if_neg ej,true_and,hx]
        ·rw[if_neg eb]
         refine kI fun j hj=>?_;rw[if_neg (fun h=>eb h.1),if_neg (fun h=>eb h.1)]
      ·have hkk:k=w:=qqO
       subst hkk;obtain⟨D2,hD2⟩:∃D2:bJ Int,D2=fun b j=>if b=bn∧j<k then D b j*iv % p else D b j:=⟨_,rfl⟩;have d1:∀r,r<m→∀j,D2 (L.getD r 0) j=dK (Fp p) k M1 P.length iv r j:=fun r hr j=>by
        rw[hD2];unfold dK;by_cases er:r=P.length
        ·subst er
         rw[if_pos rfl];simp only[hbd,true_and];by_cases ej:j<k
         ·rw[if_pos ej,if_pos ej,e1 j];rfl
         ·rw[if_neg ej,if_neg ej,e1 j]
        ·have:L.getD r 0≠bn:=fun h=>er ((jV.1 g3) r P.length qqO qqO (h.trans hbd.symm))
         simp only;rw[if_neg (fun h=>this h.1),if_neg er];exact g5 r hr j
       have d2:∀r,r<m→∀j,j<k→InP p (dK (Fp p) k M1 P.length iv r j):=fun r hr j hj=>by
        unfold dK;by_cases er:r=P.length
        ·subst er
         rw[if_pos rfl,if_pos hj];exact nk hp _
        ·rw[if_neg er]
         exact g6 r hr j hj
       generalize hM2:dK (Fp p) k M1 P.length iv=M2 at*
       rw[show(fnI k fun b j=>if b=bn∧j<k then D b j*iv % p else D b j)=fnI k D2 by rw[hD2]]
       clear hD2
       repeat'((conv=>whnf);first|(intro hq;(try simp only[vw]at hq);try exact ak hq)|apply aI|exact aj|apply nM|apply fM)
       all_goals((try apply vM);(try simp only[vq]at*);try omega)
       conv=>whnf
       refine aV (X:=RXi) (RIi p k m M2 P.length c L) (fun x=>[(117,.int .i64 x.i)]) (fun x=>[(0,.mat l L (fnI k x.D))]) (fun x=>m-x.i) ⟨0,D2⟩ ⟨aL,mixed,av,kJ,aU⟩ qqR ⟨alq _,fun r hr j=>by show _=if r<0 then _ else _;rw[if_neg qqO];exact d1 r hr j⟩ ?_ ?_
       ·all_goals exact eU
       ·rintro⟨i,D3⟩ ⟨i1,i2⟩
        simp only at i1 i2;by_cases him:i<m
        ·have hiw:D3 (L.getD i 0) c=M2 i c:=by rw[i2 i him c,if_neg qqO]
         have hbi:=hL _ him;have ti:=d2 i him c qqO;have f1:∀j,D3 (L.getD i 0) j=M2 i j:=fun j=>by rw[i2 i him j,if_neg qqO]
         have f2:∀j,D3 bn j=M2 P.length j:=fun j=>by
          rw[←hbd,i2 _ hnm j];split
          ·unfold dB;rw[if_pos (.inl rfl)]
          ·rfl
         have tok:InP p (D3 (L.getD i 0) c):=by rw[hiw];exact ti
         repeat'((conv=>whnf);first|(intro hq;(try simp only[vw]at hq);try exact ak hq)|apply aI|exact aj|apply nM|apply fM)
         all_goals((try apply vM);(try simp only[vq]at*);try omega)
         all_goals(try first|rfl|(simp only[G6,iX,zw,akZ,akS,akn,amI,ak3,g2,hbd,mgc,fC];first|omega|exact hL _ qqO|exact tok))
         ·have hz:=hq
          simp only[iX,akZ,mgc,hiw]at hz;refine⟨⟨i+1,D3⟩,[],⟨⟨by(show i+1≤m);omega,fun r hr j=>?_⟩,by(show m-(i+1)<m-i);omega⟩,?_⟩
          ·show D3 (L.getD r 0) j=if r<i+1 then dB (Fp p) k M2 P.length c r j else M2 r j
           rw[i2 r hr j];by_cases e5:r<i
           ·rw[if_pos e5,if_pos qqO]
           ·rw[if_neg e5]
            by_cases e6:r=i
            ·subst e6
             rw[if_pos qqO];unfold dB;rw[if_pos (.inr (decide_eq_true hz))]
            ·rw[if_neg qqO]
          ·all_goals exact eU
         ·have hz:=hq
          simp only[iX,zw,akZ,mgc,hiw]at hz⊢;have hni:i≠P.length:=qqO;have hne:L.getD i 0≠bn:=fun h=>by
           have:=(jV.1 g3) i P.length qqO qqO (h.trans hbd.symm);omega
          generalize hbi2:L.getD i 0=bi at*
          have hlw2:=fC k (D3 bi);generalize htv:M2 i c=tv at*
          conv=>whnf
          refine aV (X:=Nat) (fun q=>q≤k) (fun q=>[(132,.any),(141,.int .i64 q)]) (fun q=>[(0,.mat l L (fnI k (fun b j=>if b=bi∧j<q then(D3 b j-tv*M2 P.length j % p+p) % p else D3 b j)))]) (fun q=>k-q) 0 ⟨aL,mixed,av,kJ,aU⟩ qqR qqO ?_ ?_
          ·all_goals exact EO
          ·intro q hqk
           by_cases hqw:q<k
           ·have u1:=f1 q
            have u2:=f2 q;have u3:=d2 _ hnm q hqw;have u4:=d2 _ him q hqw;have mgq:∀f:Nat→Int,(cu k f).getD q 0=f q:=fun f=>qz f hqw;have u6:InP p (tv*M2 P.length q % p):=nk hp _
            repeat'((conv=>whnf);first|(intro hq;(try simp only[vw]at hq);try exact ak hq)|apply aI|exact aj|apply nM|apply fM)
            all_goals((try apply vM);(try simp only[vq]at*);try omega)
            all_goals(try first|rfl|(simp only[G6,iX,zw,akZ,akS,akn,amI,ak3,g2,hbd,hbi2,mgq,fC];first|omega|exact hL _ qqO|assumption))
            ·simp only[iX,akZ,hbd,mgq]
             rw[if_neg (fun h=>hne h.1.symm),u2];exact⟨hp,ti,u3⟩
            ·simp only[iX,akZ,hbd,hbi2,mgq]
             rw[if_neg (fun h=>absurd h.2 (aoF _)),if_neg (fun h=>hne h.1.symm),u1,u2];exact⟨hp,u4,u6⟩
            ·refine⟨q+1,[],⟨qqO,qqO⟩,?_⟩
             simp only[iX,akZ,hbd,hbi2,mgq]
             repeat'((conv=>whnf);first|intro _|apply aI|exact aj|apply nM|apply fM)
             all_goals((try apply vM);(try simp only[vq]at*);try omega)
             intro b hb;unfold bA;by_cases eb:b=bi
             ·subst eb
              rw[if_pos rfl];rw[qA];refine kI fun j hj=>?_;by_cases ej:j=q
              ·subst ej
               simp only[true_and,aoF,and_false,if_false,if_true,aoG,u2]
              ·have hx:(j<q+1)=(j<q):=propext ⟨fun h=>qqO,fun h=>qqO⟩
               simp only[if_neg ej,true_and,hx]
             ·rw[if_neg eb]
              refine kI fun j hj=>?_;rw[if_neg (fun h=>eb h.1),if_neg (fun h=>eb h.1)]
           ·have hqq:q=k:=qqO
            subst hqq
            repeat'((conv=>whnf);first|(intro hq;(try simp only[vw]at hq);try exact ak hq)|apply aI|exact aj|apply nM|apply fM)
            all_goals((try apply vM);(try simp only[vq]at*);try omega)
            refine⟨⟨i+1,fun b j=>if b=bi∧j<q then(D3 b j-tv*M2 P.length j % p+p) % p else D3 b j⟩,[],⟨⟨by(show i+1≤m);omega,fun r hr j=>?_⟩,by(show m-(i+1)<m-i);omega⟩,?_⟩
            ·show(if L.getD r 0=bi∧j<q then(D3 (L.getD r 0) j-tv*M2 P.length j % p+p) % p else D3 (L.getD r 0) j)=if r<i+1 then dB (Fp p) q M2 P.length c r j else M2 r j
             by_cases er:r=i
             ·subst er
              rw[if_pos (aoG r),hbi2];have hcl:dB (Fp p) q M2 P.length c r j=if j<q then(M2 r j-tv*M2 P.length j % p+p) % p else M2 r j:=by
               unfold dB;rw[htv,if_neg (fun h=>h.elim hni (fun h2=>hz (of_decide_eq_true h2)))];rfl
              rw[hcl,f1 j];by_cases ej:j<q
              ·rw[if_pos ⟨rfl,ej⟩,if_pos ej]
              ·rw[if_neg (fun h=>ej h.2),if_neg ej]
             ·have:L.getD r 0≠bi:=fun h=>er (jV.1 g3 r i qqO qqO (h.trans hbi2.symm))
              rw[if_neg (fun h=>this h.1),i2 r hr j];by_cases e5:r<i
              ·rw[if_pos e5,if_pos qqO]
              ·rw[if_neg e5,if_neg qqO]
            ·all_goals exact eU
         ·have hin:i=P.length:=qqO
          refine⟨⟨i+1,D3⟩,[],⟨⟨by(show i+1≤m);omega,fun r hr j=>?_⟩,by(show m-(i+1)<m-i);omega⟩,?_⟩
          ·show D3 (L.getD r 0) j=if r<i+1 then dB (Fp p) k M2 P.length c r j else M2 r j
           rw[i2 r hr j];by_cases e5:r<i
           ·rw[if_pos e5,if_pos qqO]
           ·rw[if_neg e5]
            by_cases e6:r=i
            ·rw[if_pos qqO]
             unfold dB;rw[if_pos (.inl qqO)]
            ·rw[if_neg qqO]
          ·all_goals exact eU
        ·have hii:i=m:=qqO
         have hstep:iW (Fp p) k m S c=⟨dB (Fp p) k M2 P.length c,S.piv++[c],S.heads++[sv],S.odd !=decide (P.length≠a)⟩:=by
          have hi2:(Fp p).inv sv=iv:=hiv.symm;unfold iW;rw[hfind,if_neg qqO,←hPn,hM1,hsv,hi2,hM2]
         have hpv:pvI (S.piv++[c])=P++[(c:Int)]:=by rw[←hP];simp[pvI]
         have hhd:S.heads++[sv]=H++[sv]:=by rw[hH]
         have hl1:(S.piv++[c]).length=S.piv.length+1:=qqS;have hl2:(S.heads++[sv]).length=S.heads.length+1:=qqS
         repeat'((conv=>whnf);first|(intro hq;(try simp only[vw]at hq);try exact ak hq)|apply aI|exact aj|apply nM|apply fM)
         all_goals((try apply vM);(try simp only[vq]at*);try omega)
         ·rw[alQ,akq,akm];omega
         ·refine⟨⟨c+1,L,D3⟩,[],⟨⟨by(show c+1≤cols);omega,g2,g3,g4,hL,fun r hr j=>?_⟩,by(show cols-(c+1)<cols-c);omega⟩,?_⟩
          ·show D3 (L.getD r 0) j=(aN (Fp p) k m M0 (c+1)).M r j
           rw[hsucc,hstep,i2 r hr j,if_pos qqO]
          ·simp only[hsucc,hstep,hpv,hhd,hl1,hl2,hO]
           repeat'((conv=>whnf);first|intro _|apply aI|exact aj|apply nM|apply fM)
           all_goals((try apply vM);(try simp only[vq]at*);try omega)
           all_goals first
            |exact fun _ _=>trivial
            |(rw[alQ];rfl)
            |(have hd:decide ((P.length:Int)≠(a:Int))=decide (P.length≠a):=decide_eq_decide.2 ⟨fun h=>qqO,fun h=>qqO⟩
              rw[hd];rfl)
    ·have hstep:iW (Fp p) w m S c=S:=by
      unfold iW;rw[rF (fun r h1 h2=>haz r qqO qqO),if_pos rfl]
     repeat'((conv=>whnf);first|(intro hq;(try simp only[vw]at hq);try exact ak hq)|apply aI|exact aj|apply nM|apply fM)
     all_goals((try apply vM);(try simp only[vq]at*);try omega)
     refine⟨⟨c+1,lx,D⟩,[],⟨⟨by(show c+1≤cols);omega,x2,x3,x4,x5,fun r hr j=>?_⟩,by(show cols-(c+1)<cols-c);omega⟩,?_⟩
     ·show D (lx.getD r 0) j=(aN (Fp p) w m M0 (c+1)).M r j
      rw[hsucc,hstep];exact x6 r hr j
     ·simp only[hsucc,hstep,hP,hH,hO]
      all_goals exact eU
  ·have hcc:c=cols:=qqO
   subst hcc;have hPn:(pvI (aN (Fp p) w m M0 c).piv).length=(aN (Fp p) w m M0 c).piv.length:=by simp[pvI]
   repeat'((conv=>whnf);first|(intro hq;(try simp only[vw]at hq);try exact ak hq)|apply aI|exact aj|apply nM|apply fM)
   all_goals((try apply vM);(try simp only[vq]at*);try omega)
   conv=>whnf
   repeat'((conv=>whnf);first|intro _|apply aI|exact aj|apply nM|apply fM)
   all_goals((try apply vM);(try simp only[vq]at*);try omega)
   all_goals first
    |exact x4 _ qqA
    |omega
    |(refine kI fun j hj=>?_;exact x6 _ qqA j)
end Go.Eng.YtmkagljofpddpaaGreatDoor
namespace Go.Eng.ElG
set_option linter.unusedSimpArgs false
set_option linter.unusedVariables false
variable {α β:Type}
theorem xg (F:Fld α) (w m:Nat) (M:bJ α):∀c x,x∈(aN F w m M c).piv→x<c:=by
 intro c;induction c with
 |zero=>intro x h;cases h
 |succ c ih=>
  intro x h;rw[show aN F w m M (c+1)=iW F w m (aN F w m M c) c from rfl]at h;unfold iW at h;split at h
  ·have:=ih x h;omega
  ·simp only[akH,List.mem_singleton]at h
   rcases h with h|h
   ·have:=ih x h;omega
   ·omega
def bK (piv:List Nat) (w:Nat):List Nat:=(akE w).filter fun c=>decide (c∉piv)
theorem Cb (piv:List Nat):bK piv 0=[]:=rfl
theorem uK {piv:List Nat} {c:Nat} (h:c∈piv):bK piv (c+1)=bK piv c:=by
 unfold bK;rw[anX,aoH];simp[h]
theorem lQ {piv:List Nat} {c:Nat} (h:c∉piv):bK piv (c+1)=bK piv c++[c]:=by
 unfold bK;rw[anX,aoH];simp[h]
theorem Vn {piv:List Nat} {c:Nat}:∀{w:Nat},c≤w→∀{r:Nat},r<(bK piv c).length→(bK piv w).getD r 0=(bK piv c).getD r 0:=by
 intro w;induction w with
 |zero=>intro h r hr;rw[show c=0 by omega]
 |succ w ih=>
  intro h r hr;by_cases e:c=w+1
  ·rw[e]
  ·have h1:=ih qqO hr
   by_cases hp:w∈piv
   ·rw[uK hp];exact h1
   ·have h2:r<(bK piv w).length:=by
     clear h1;have:∀w,c≤w→(bK piv c).length≤(bK piv w).length:=fun w=>by
      induction w with
      |zero=>intro h;rw[show c=0 by omega];exact aku _
      |succ w ih=>
       intro h;by_cases e:c=w+1
       ·rw[e];exact aku _
       ·have:=ih qqO
        by_cases hp:w∈piv
        ·rw[uK hp];exact this
        ·rw[lQ hp];simp;omega
     have:=this w qqO;omega
    rw[lQ hp,akG,amr h2,←akG];exact h1
theorem Cc {piv:List Nat} {c w:Nat} (hp:c∉piv) (h:c<w):(bK piv w).getD (bK piv c).length 0=c:=by
 have:=Vn (piv:=piv) (c:=c+1) (w:=w) qqO (r:=(bK piv c).length) (by rw[lQ hp];simp)
 rw[this,lQ hp];simp[akG]
theorem jX (piv:List Nat) (w:Nat):(bK piv w).length≤w:=by
 unfold bK;have:=List.length_filter_le (fun c=>decide (c∉piv)) (akE w);simpa using this
theorem ru {piv:List Nat} {w c:Nat}:c∈bK piv w↔c<w∧c∉piv:=by simp[bK]
def fu (F:Fld α) (z o:α) (S:ES α) (c:Nat):Nat→Nat→α
 |0=>fun j=>if j=c then o else z
 |t+1=>fun j=>if j=S.piv.getD t 0 then F.sub z (S.M t c)else fu F z o S c t j
def kP (F:Fld α) (z o:α) (S:ES α) (w:Nat):bJ α:=fun r=>fu F z o S ((bK S.piv w).getD r 0) S.piv.length
def gP (F:Fld α) (z o:α) (w m:Nat) (M:bJ α):ES α:=
 aN F w (bK (aN F w m M w).piv w).length (kP F z o (aN F w m M w) w) w
end Go.Eng.ElG
namespace Go.Eng.YtmkagljofpddpaaGreatDoor
open Go.Proofs Go.Eng.Dig
set_option linter.unusedSimpArgs false
set_option linter.unusedVariables false
set_option maxHeartbeats 0
set_option maxRecDepth 100000
noncomputable def ajT:CPT:=aB 189 (aP rU) noC
theorem aeO:bD Tryz.prog ajT:=au (aC uq) aG
theorem Vo (x y:Int) (hx:0≤x∧x<18446744073709551616) (hy:0≤y∧y<18446744073709551616):aD Tryz.prog 219 [.int .u64 x,.int .u64 y] (.tup [.int .u64 (x*y / 18446744073709551616),.int .u64 (x*y % 18446744073709551616)]):=by
 refine ay (md:=1) (rf:=[]) mixed av aeO Tryz.func219 qqR qqR qqR ?_
 repeat'((conv=>whnf);first|(intro hq;(try simp only[vw]at hq);try exact ak hq)|apply aI|exact aj|apply nM|apply fM)
 all_goals((try apply vM);(try simp only[vq]at*);try omega)
 all_goals first|exact⟨hx.1,hx.2,hy.1,hy.2⟩|exact Sup.of rfl
def Rs:PSp:=fun xs K=>match xs with
 | [.int .u64 x,.int .u64 y]=>VC (0≤x∧x<18446744073709551616∧0≤y∧y<18446744073709551616)∧K (.tup [.int .u64 (x*y / 18446744073709551616),.int .u64 (x*y % 18446744073709551616)])
 |_=>False
theorem aeP:POK Tryz.prog 219 Rs:=by
 intro xs K hk;unfold Rs at hk;split at hk
 ·obtain⟨h1,h2,h3,h4⟩:=hk.1.get
  exact⟨_,hk.2,Vo _ _ ⟨h1,h2⟩ ⟨h3,h4⟩⟩
 ·exact hk.elim
def rpL {α:Type} (v z:α) (n j:Nat):List α:=akP j v++akP (n-j) z
theorem yI {α:Type} (v z:α) {n j:Nat} (h:j≤n):(rpL v z n j).length=n:=by simp[rpL];omega
theorem Kk {α:Type} (v z:α) {n j q:Nat} (h:j+q≤n) (hq:q≤j):(rpL v z n j).take j++(((rpL v z n j).drop 0).take q++(rpL v z n j).drop (j+q))=rpL v z n (j+q):=by
 have e0:=yI v z (show j≤n by omega)
 have e1:=yI v z h;have hg:∀j i,(rpL v z n j)[i]? =if i<j then some v else if i<j+(n-j)then some z else none:=fun j i=>by
  unfold rpL;rw[alF,aoI,alN,alN];by_cases a:i<j
  ·simp[a]
  ·rw[if_neg a,if_neg a]
   by_cases b:i<j+(n-j)
   ·rw[if_pos b,if_pos qqO]
   ·rw[if_neg b,if_neg qqO]
 refine List.ext_getElem? fun i=>?_;rw[alF,alF,alm,alm,List.length_drop,e0];simp only[List.getElem?_take,List.getElem?_drop,hg,akS,aoJ];rw[alh (show j≤n by omega),alh (show q≤n by omega)]
 (repeat' split)<;>first|rfl|omega
theorem N7 {α:Type} (v z:α) {n:Nat} (h:1≤n):(akP n z).take 0++(([v].drop 0).take 1++(akP n z).drop (0+1))=rpL v z n 1:=by
 simp[rpL]
theorem N8 {α:Type} (v z:α) (n:Nat):rpL v z n n=akP n v:=by simp[rpL]
noncomputable def ajU:CPT:=aB 219 (aP Rs) noC
theorem yJ:bD Tryz.prog ajU:=au (aC aeP) aG
theorem Vp (v:Int) (n:Nat) (hn:1≤n∧n≤1000000):dH Tryz.prog 216 [.isl (.ints .i64 [v]) .none,.int .i64 n] [] [.rsl 0 0 n] [.cells (.ints .i64 (akP n v)) false]:=by
 have h2:((1:Nat):Int)*(n:Int) / 18446744073709551616=0:=qqO;have h3:((1:Nat):Int)*(n:Int) % 18446744073709551616=n:=qqO;have h4:(((1:Nat):Int)*(n:Int) % 18446744073709551616).toNat=n:=by rw[h3];omega
 have h5:min 1 n=1:=qqO;refine dV (md:=1) (rf:=[]) mixed av yJ 0 [(4,0)] Tryz.func216 qqR qqR qqR ?_
 repeat'((conv=>whnf);first|(intro hq;(try simp only[vw]at hq);try exact ak hq)|apply aI|exact aj|apply nM|apply fM)
 all_goals((try apply vM);(try simp only[vq]at*);try omega)
 all_goals(try simp only[h3,h4,h5,aoI])
 ·exact .inl trivial
 ·omega
 conv=>whnf
 simp only[h3,h4,amI,h5];rw[N7 v 0 hn.1];refine aV (X:=Nat) (fun j=>1≤j∧j≤n) (fun j=>[(8,.int .i64 j)]) (fun j=>[(4,.cells (.ints .i64 (rpL v 0 n j)) false)]) (fun j=>n-j) 1 ⟨aL,mixed,av,yJ,aU⟩ qqR ⟨qqO,qqO⟩ ?_ ?_
 ·all_goals exact mR
 intro j hj;have hl:=yI v 0 hj.2;by_cases hlt:j<n
 ·have hq':min j (n-j)≤j:=qqO
  have hs:=Kk v 0 (n:=n) (j:=j) (q:=min j (n-j)) qqO qqO
  repeat'((conv=>whnf);first|(intro hq;(try simp only[vw]at hq);try exact ak hq)|apply aI|exact aj|apply nM|apply fM)
  all_goals((try apply vM);(try simp only[vq]at*);try omega)
  all_goals first
   |omega
   |(refine⟨j+min j (n-j),[],⟨qqO,qqO⟩,?_⟩
     simp only[aoJ,hs]
     repeat'((conv=>whnf);first|intro _|apply aI|exact aj|apply nM|apply fM)
     all_goals((try apply vM);(try simp only[vq]at*);try omega)
     all_goals first|omega|rfl)
 ·have:j=n:=qqO
  subst this;rw[N8]
  repeat'((conv=>whnf);first|(intro hq;(try simp only[vw]at hq);try exact ak hq)|apply aI|exact aj|apply nM|apply fM)
  all_goals((try apply vM);(try simp only[vq]at*);try omega)
  all_goals(conv=>whnf)
  all_goals(try repeat'((conv=>whnf);first|(intro hq;(try simp only[vw]at hq);try exact ak hq)|apply aI|exact aj|apply nM|apply fM))
  all_goals(try all_goals((try apply vM);(try simp only[vq]at*);try omega))
  all_goals first|omega|exact Sup.of rfl
def ixI (l:List Int) (c:Int):Int:=if c∈l then(l.idxOf c:Nat)else-1
theorem ahp {l:List Int} {c:Int} {i:Nat} (hi:i<l.length) (h:∀j,j<i→l.getD j 0≠c) (e:l.getD i 0=c):ixI l c=i:=by
 have hm:c∈l:=by
  rw[←e,akG,akL hi];exact aoD _
 unfold ixI;rw[if_pos hm];have h1:=List.idxOf_lt_length_of_mem hm;have h2:l.getD (l.idxOf c) 0=c:=by rw[akG,akL h1];exact List.getElem_idxOf h1
 have h3:¬l.idxOf c<i:=fun g=>h _ g h2;have h4:¬i<l.idxOf c:=fun g=>by
  have:=List.not_of_lt_findIdx g;rw[akG,akL hi]at e;simp at this e;exact this e
 omega
theorem ahq {l:List Int} {c:Int} (h:∀j,j<l.length→l.getD j 0≠c):ixI l c= -1:=by
 unfold ixI;rw[if_neg];intro hm;obtain⟨i,hi,e⟩:=akK hm;refine h i hi ?_;rw[akG,akL hi];exact e
theorem Vq (l:List Int) (c:Int):decide (0≤ixI l c)=decide (c∈l):=by
 rw[decide_eq_decide];unfold ixI;split<;>simp[*]
theorem index_spec (l:List Int) (c:Int) (hl:l.length≤1000000000):aD Tryz.prog 245 [.isl (.ints .i64 l) .none,.int .i64 c] (.int .i64 (ixI l c)):=by
 refine ay (md:=1) (rf:=[]) mixed av aG Tryz.func245 qqR qqR qqR ?_
 repeat'((conv=>whnf);first|(intro hq;(try simp only[vw]at hq);try exact ak hq)|apply aI|exact aj|apply nM|apply fM)
 all_goals((try apply vM);(try simp only[vq]at*);try omega)
 conv=>whnf
 refine aV (X:=Nat) (fun i=>i≤l.length∧∀j,j<i→l.getD j 0≠c) (fun i=>[(8,.int .i64 i),(5,.any)]) (fun _=>[]) (fun i=>l.length-i) 0 ⟨aL,mixed,av,aG,aU⟩ qqR ⟨qqO,fun j h=>qqO⟩ ?_ ?_
 ·all_goals exact aW
 intro i hi;obtain⟨h1,h2⟩:=hi;have h2':∀_:Unit,∀j,j<i→l.getD j 0≠c:=fun _=>h2;clear h2;by_cases hlt:i<l.length
 ·by_cases he:l.getD i 0=c
  ·have:=ahp hlt (h2' ()) he
   repeat'((conv=>whnf);first|(intro hq;(try simp only[vw]at hq);try exact ak hq)|apply aI|exact aj|apply nM|apply fM)
   all_goals((try apply vM);(try simp only[vq]at*);try omega)
   all_goals first|omega|(rw[this];exact Sup.of rfl)|(exfalso;simp_all;done)
  ·repeat'((conv=>whnf);first|(intro hq;(try simp only[vw]at hq);try exact ak hq)|apply aI|exact aj|apply nM|apply fM)
   all_goals((try apply vM);(try simp only[vq]at*);try omega)
   all_goals first
    |omega
    |(refine⟨i+1,[],⟨⟨qqO,fun j hj=>by
       by_cases e:j=i
       ·subst e;exact he
       ·exact h2' () j qqO⟩,qqO⟩,?_⟩
      all_goals exact aW)
    |(exfalso;simp_all;done)
 ·have:i=l.length:=qqO
  subst this;have:=ahq (h2' ())
  repeat'((conv=>whnf);first|(intro hq;(try simp only[vw]at hq);try exact ak hq)|apply aI|exact aj|apply nM|apply fM)
  all_goals((try apply vM);(try simp only[vq]at*);try omega)
  all_goals first|omega|(rw[this];exact Sup.of rfl)
def Kl:PSp:=fun xs K=>match xs with
 | [.isl (.ints .i64 l) .none,.int .i64 c]=>VC (l.length≤1000000000)∧K (.int .i64 (ixI l c))
 |_=>False
theorem YS:POK Tryz.prog 245 Kl:=by
 intro xs K hk;unfold Kl at hk;split at hk
 ·exact⟨_,hk.2,index_spec _ _ hk.1.get⟩
 ·exact hk.elim
noncomputable def ajV:CPT:=aB 245 (aP Kl) noC
theorem aeQ:bD Tryz.prog ajV:=au (aC YS) aG
theorem Vr (l:List Int) (c:Int) (hl:l.length≤1000000000):aD Tryz.prog 215 [.isl (.ints .i64 l) .none,.int .i64 c] (.bp (decide (c∈l))):=by
 refine ay (md:=1) (rf:=[]) mixed av aeQ Tryz.func215 qqR qqR qqR ?_
 repeat'((conv=>whnf);first|(intro hq;(try simp only[vw]at hq);try exact ak hq)|apply aI|exact aj|apply nM|apply fM)
 all_goals((try apply vM);(try simp only[vq]at*);try omega)
 all_goals first|omega|(rw[Vq];exact Sup.of rfl)|(rw[←Vq];exact Sup.of rfl)
def G7:PSp:=fun xs K=>match xs with
 | [.isl (.ints .i64 l) .none,.int .i64 c]=>VC (l.length≤1000000000)∧K (.bp (decide (c∈l)))
 |_=>False
theorem N9:POK Tryz.prog 215 G7:=by
 intro xs K hk;unfold G7 at hk;split at hk
 ·exact⟨_,hk.2,Vr _ _ hk.1.get⟩
 ·exact hk.elim
end Go.Eng.YtmkagljofpddpaaGreatDoor
namespace Go.Eng.YtmkagljofpddpaaGreatDoor
open Go.Proofs Go.Eng.ElG
set_option linter.unusedSimpArgs false
set_option linter.unusedVariables false
set_option maxHeartbeats 0
set_option maxRecDepth 100000
def lq (args:List PV) (objs:List AO) (vs:List PV) (objs':List AO):LSp:=fun ys os K=>VC (ys=args∧os=objs)∧K vs objs'
theorem dA {g:FuncId} {args vs:List PV} {objs objs':List AO} (h:dH Tryz.prog g args objs vs objs'):LOK Tryz.prog g (lq args objs vs objs'):=by
 intro xs os K hk;unfold lq at hk;obtain⟨rfl,rfl⟩:=hk.1.get;exact⟨_,_,hk.2,h⟩
def ls3 (A B C:LSp):LSp:=fun ys os K=>match os with
 | [.pmat _ _]=>A ys os K
 | [.qmat _ _ _]=>B ys os K
 | []=>C ys os K
 |_=>False
theorem Vs {g:FuncId} {A B C:LSp} (h1:LOK Tryz.prog g A) (h2:LOK Tryz.prog g B) (h3:LOK Tryz.prog g C):LOK Tryz.prog g (ls3 A B C):=by
 intro xs os K hk;unfold ls3 at hk;split at hk
 ·exact h1 _ _ _ hk
 ·exact h2 _ _ _ hk
 ·exact h3 _ _ _ hk
 ·exact hk.elim
theorem Vt (p:Int) (cols:Nat) (hcol:cols≤1000):dH Tryz.prog 150 [rsV p,.nils,.int .i64 (cols:Int)] [] [.agg [.nils,.any,.any,.any]] []:=by
 refine dV (md:=0) (rf:=[]) mixed av kJ 0 [] Tryz.func150 qqR qqR qqR ?_;conv=>whnf
 refine aV (X:=Nat) (fun c=>c≤cols) (fun c=>[(17,.int .i64 c)]) (fun c=>[]) (fun c=>cols-c) 0 ⟨aL,mixed,av,kJ,aU⟩ qqR qqO ?_ ?_
 ·all_goals exact aW
 intro c hc;by_cases hlt:c<cols
 ·repeat'((conv=>whnf);first|(intro hq;(try simp only[vw]at hq);try exact ak hq)|apply aI|exact aj|apply nM|apply fM)
  all_goals((try apply vM);(try simp only[vq]at*);try omega)
  conv=>whnf
  refine aV (X:=Unit) (fun _=>True) (fun _=>[(10,.int .i64 0)]) (fun _=>[]) (fun _=>0) () ⟨aL,mixed,av,kJ,aU⟩ qqR True.intro ?_ ?_
  ·all_goals exact aW
  intro _ _;all_goals exact EP
 ·have:c=cols:=qqO
  subst this
  repeat'((conv=>whnf);first|(intro hq;(try simp only[vw]at hq);try exact ak hq)|apply aI|exact aj|apply nM|apply fM)
  all_goals((try apply vM);(try simp only[vq]at*);try omega)
  all_goals exact aoK 0
def Ce (id n:Nat):PV:=match n with
 |0=>.nils
 |j+1=>.rsl id 0 (j+1)
def Rt (id n:Nat) (c:Nat→CL):List (Nat × AO):=match n with
 |0=>[]
 |j+1=>[(id,.qmat (j+1) (fun _=>2) c)]
theorem YT {p:Int} (hp:PrI p) {S:ES Int} {m w:Nat} (hS:∀r,r<m→∀j,j<w→InP p (S.M r j)) {c:Nat} (hc:c<w):∀t,t≤m→∀j,InP p (fu (Fp p) 0 1 S c t j):=by
 intro t;induction t with
 |zero=>
  intro _ j;have:=hp.lo;show InP p (if j=c then 1 else 0);unfold InP;split<;>omega
 |succ t ih=>
  intro ht j;show InP p (if j=S.piv.getD t 0 then(0-S.M t c+p) % p else fu (Fp p) 0 1 S c t j);split
  ·exact nk hp _
  ·exact ih qqO j
theorem Vu (w:Nat):akP w (0:Int)=cu w fun _=>0:=by
 apply amC
 ·simp[cu]
 ·intro j h1 h2;simp[cu]
theorem sH {l:List Nat} {c:Nat}:((c:Int)∈pvI l)↔c∈l:=by
 unfold pvI;rw[aoL];constructor
 ·rintro⟨x,h,e⟩
  have:x=c:=Int.ofNat.inj e;rw[←this];exact h
 ·exact fun h=>⟨c,h,rfl⟩
theorem Vv {p:Int} {m w cols:Nat} {M0:bJ Int} (hp:PrI p) (hm:1≤m∧m≤256) (hw:w≤1000) (hcw:cols≤w) (h0:∀r,r<m→∀j,j<w→InP p (M0 r j)):
 dH Tryz.prog 150 [rsV p,.rsl 0 0 m,.int .i64 (cols:Int)] [.qmat m (fun _=>2) fun i=>.ints .i64 (cu w (M0 i))]
  [.agg [.rsl 0 0 (aN (Fp p) w m M0 cols).piv.length,.isl (.ints .i64 (pvI (aN (Fp p) w m M0 cols).piv)) .none,.isl (.ints .i64 (aN (Fp p) w m M0 cols).heads) .none,.bp (aN (Fp p) w m M0 cols).odd]] [.pmat m (fnI w (aN (Fp p) w m M0 cols).M)]:=
 pR (pre:=[]) (post:=[]) (fnI w M0) (fun i hi=>⟨rfl,gK.rfl' _⟩) (Kj hp hm hw hcw h0)
noncomputable def ajW (A B C:LSp) (w:Nat):CPT:=aB 150 (dQ [] (ls3 A B C)) (aB 214 (aP (zQ (fun p a=>PrI p∧ -999999999≤a∧a≤999999999) fun p a=>.int .i64 (a % p))) (aB 215 (aP G7) (aB 216 (dQ [] (lq [.isl (.ints .i64 [0]) .none,.int .i64 (w:Int)] [] [.rsl 0 0 w] [.cells (.ints .i64 (akP w 0)) false])) (aB 334 (aP (Ki (fun p a b=>PrI p∧InP p a∧InP p b) fun p a b=>.int .i64 ((a-b+p) % p))) noC))))
theorem aeR {A B C:LSp} {w:Nat} (hA:LOK Tryz.prog 150 A) (hB:LOK Tryz.prog 150 B) (hC:LOK Tryz.prog 150 C) (hw:1≤w∧w≤1000000):bD Tryz.prog (ajW A B C w):=
 au (bT [] (Vs hA hB hC)) (au (aC (sG fun p a h=>zP p a h.1 h.2)) (au (aC N9) (au (bT [] (dA (Vp 0 w hw))) (au (aC (DX fun p a b h=>Kh p a b h.1 h.2.1 h.2.2)) aG))))
theorem Vw {p:Int} {m w:Nat} {M0:bJ Int} (hp:PrI p) (hm:1≤m∧m≤256) (hw:1≤w∧w≤256) (h0:∀r,r<m→∀j,j<w→InP p (M0 r j)) {k:Nat} (hk:(bK (aN (Fp p) w m M0 w).piv w).length=k+1):
 dH Tryz.prog 152 [rsV p,.rsl 0 0 m,.int .i64 (w:Int)] [.pmat m (fnI w M0)] [.rsl 1 0 (gP (Fp p) 0 1 w m M0).piv.length] [.pmat m (fnI w (aN (Fp p) w m M0 w).M),.pmat (k+1) (fnI w (gP (Fp p) 0 1 w m M0).M)]:=by
 obtain⟨S,hS⟩:∃S,S=aN (Fp p) w m M0 w:=⟨_,rfl⟩;have hA:=Kj hp hm (show w≤1000 by omega) (aku w) h0
 obtain⟨l1,l2,l3⟩:=fE (Fp p) w m M0 w;have hpv:=xg (Fp p) w m M0 w;have hhom:=jg (abr hp) (M':=M0) (fun r hr j hj=>⟨h0 r hr j hj,rfl⟩) w (aku w);have hIn:∀r,r<m→∀j,j<w→InP p (S.M r j):=fun r hr j hj=>by rw[hS];exact(hhom.1 r hr j hj).1
 clear hhom;have hfl:=jX S.piv w;rw[←hS]at hk hA l1 l2 hpv⊢;have hKin:∀r,r<k+1→∀j,j<w→InP p (kP (Fp p) 0 1 S w r j):=fun r hr j hj=>YT hp hIn (by
  have:(bK S.piv w).getD r 0∈bK S.piv w:=by
   rw[akG,akL qqO];exact aoD _
  exact(ru.1 this).1) _ qqO j
 have hB:=Vv (m:=k+1) (M0:=kP (Fp p) 0 1 S w) hp qqO (show w≤1000 by omega) (aku w) hKin
 have hE:aN (Fp p) w (k+1) (kP (Fp p) 0 1 S w) w=gP (Fp p) 0 1 w m M0:=by unfold gP;rw[←hS,hk]
 rw[hE]at hB;generalize gP (Fp p) 0 1 w m M0=S2 at*
 have h0p:(0:Int) % p=0:=Int.zero_emod p;have hp1:(1:Int) % p=1:=Int.emod_eq_of_lt qqO (by have:=hp.lo;omega)
 have hc:=aeR (dA hA) (dA hB) (dA (Vt p w qqO)) (w:=w) qqO;refine dV (md:=0) (rf:=[4065,66]) mixed av hc 1 [(7,1)] Tryz.func152 qqR qqR qqR ?_
 repeat'((conv=>whnf);first|intro _|apply aI|exact aj|apply nM|apply fM)
 all_goals((try apply vM);(try simp only[vq]at*);try omega)
 conv=>whnf
 refine I5 0 qqR fun l g hl hnd hg=>?_;conv=>whnf
 refine aV (X:=Nat) (fun c=>c≤w) (fun c=>[(18,.int .i64 c),(9,.any),(10,.any),(11,.any),(12,.any),(8,Ce 7 (bK S.piv c).length)]) (fun c=>Rt 7 (bK S.piv c).length fun i=>.ints .i64 (cu w (kP (Fp p) 0 1 S w i))) (fun c=>w-c) 0 ⟨aL,mixed,av,hc,aU⟩ qqR qqO ?_ ?_
 ·rw[Cb]
  all_goals exact eU
 intro c hcw;obtain⟨n,hn⟩:∃n,(bK S.piv c).length=n:=⟨_,rfl⟩;rw[hn];have hP:(pvI S.piv).length=S.piv.length:=by simp[pvI]
 by_cases hlt:c<w
 ·by_cases hin:c∈S.piv
  ·have hin':=sH.2 hin
   have hn':(bK S.piv (c+1)).length=n:=by rw[uK hin];exact hn
   cases n with
   |zero=>
    all_goals exact ER
   |succ n=>
    repeat'((conv=>whnf);first|(intro hq;(try simp only[vw]at hq);try exact ak hq)|apply aI|exact aj|apply nM|apply fM)
    all_goals((try apply vM);(try simp only[vq]at*);try omega)
    all_goals first
     |(refine⟨c+1,[],⟨qqO,qqO⟩,?_⟩
       rw[hn'];all_goals exact pV)
     |(rw[hP];omega)
     |contradiction
  ·have hin':¬(c:Int)∈pvI S.piv:=fun h=>hin (sH.1 h)
   have hn':(bK S.piv (c+1)).length=n+1:=by rw[lQ hin,alQ,hn];rfl
   have hlast:(bK S.piv w).getD n 0=c:=by rw[←hn];exact Cc hin hlt
   have hz:(akP w (0:Int)).set c (1 % p)=cu w (fu (Fp p) 0 1 S c 0):=by rw[hp1,Vu,qA];rfl
   cases n with
   |zero=>
    repeat'((conv=>whnf);first|(intro hq;(try simp only[vw]at hq);try exact ak hq)|apply aI|exact aj|apply nM|apply fM)
    all_goals((try apply vM);(try simp only[vq]at*);try omega)
    all_goals first
     |(rw[hP];omega)
     |contradiction
     |exact⟨hp,qqD,qqD⟩
     |(simp only[h0p];done)
     |(rw[aoI];exact hlt)
     |skip
    conv=>whnf
    simp only[amI,hz];refine aV (X:=Nat) (fun t=>t≤S.piv.length) (fun t=>[(40,.int .i64 t),(11,.any),(12,.any),(26,.any),(34,.any)]) (fun t=>[(12,.cells (.ints .i64 (cu w (fu (Fp p) 0 1 S c t))) false)]) (fun t=>S.piv.length-t) 0 ⟨aL,mixed,av,hc,aU⟩ qqR qqO ?_ ?_
    ·all_goals exact pV
    intro t ht;by_cases htl:t<S.piv.length
    ·have hgt:=hg t qqO
     have ht1:(pvI S.piv).getD t 0=((S.piv.getD t 0:Nat):Int):=by simp[pvI,akG,htl]
     have ht2:S.piv.getD t 0<w:=hpv _ (by rw[akG,akL htl];exact aoD _)
     have hM:(cu w (S.M t)).getD c 0=S.M t c:=qz _ hlt;have iIn:=hIn t qqO c hlt;have hset:(cu w (fu (Fp p) 0 1 S c t)).set (S.piv.getD t 0) ((0-S.M t c+p) % p)=cu w (fu (Fp p) 0 1 S c (t+1)):=by rw[qA];rfl
     have hlm:l.getD t 0∈l:=by rw[akG,akL qqO];exact aoD _
     repeat'((conv=>whnf);first|(intro hq;(try simp only[vw]at hq);try exact ak hq)|apply aI|exact aj|apply nM|apply fM)
     all_goals((try apply vM);(try simp only[vq]at*);try omega)
     all_goals(try simp only[iX,akZ,hgt,hM,h0p,ht1,amI,fC])
     all_goals first
      |omega
      |exact hlm
      |exact⟨hp,qqD,qqD⟩
      |exact⟨hp,⟨qqO,by have:=hp.lo;omega⟩,iIn⟩
      |(rw[hset]
        refine⟨t+1,[],⟨qqO,qqO⟩,?_⟩;all_goals exact pV)
    ·have:t=S.piv.length:=qqO
     subst this;have hb:=jX S.piv (c+1);rw[hn']at hb;all_goals exact ET
   |succ n=>
    repeat'((conv=>whnf);first|(intro hq;(try simp only[vw]at hq);try exact ak hq)|apply aI|exact aj|apply nM|apply fM)
    all_goals((try apply vM);(try simp only[vq]at*);try omega)
    all_goals first
     |(rw[hP];omega)
     |contradiction
     |exact⟨hp,qqD,qqD⟩
     |(simp only[h0p];done)
     |(rw[aoI];exact hlt)
     |skip
    conv=>whnf
    simp only[amI,hz];refine aV (X:=Nat) (fun t=>t≤S.piv.length) (fun t=>[(40,.int .i64 t),(11,.any),(12,.any),(26,.any),(34,.any)]) (fun t=>[(12,.cells (.ints .i64 (cu w (fu (Fp p) 0 1 S c t))) false)]) (fun t=>S.piv.length-t) 0 ⟨aL,mixed,av,hc,aU⟩ qqR qqO ?_ ?_
    ·all_goals exact pV
    intro t ht;by_cases htl:t<S.piv.length
    ·have hgt:=hg t qqO
     have ht1:(pvI S.piv).getD t 0=((S.piv.getD t 0:Nat):Int):=by simp[pvI,akG,htl]
     have ht2:S.piv.getD t 0<w:=hpv _ (by rw[akG,akL htl];exact aoD _)
     have hM:(cu w (S.M t)).getD c 0=S.M t c:=qz _ hlt;have iIn:=hIn t qqO c hlt;have hset:(cu w (fu (Fp p) 0 1 S c t)).set (S.piv.getD t 0) ((0-S.M t c+p) % p)=cu w (fu (Fp p) 0 1 S c (t+1)):=by rw[qA];rfl
     have hlm:l.getD t 0∈l:=by rw[akG,akL qqO];exact aoD _
     repeat'((conv=>whnf);first|(intro hq;(try simp only[vw]at hq);try exact ak hq)|apply aI|exact aj|apply nM|apply fM)
     all_goals((try apply vM);(try simp only[vq]at*);try omega)
     all_goals(try simp only[iX,akZ,hgt,hM,h0p,ht1,amI,fC])
     all_goals first
      |omega
      |exact hlm
      |exact⟨hp,qqD,qqD⟩
      |exact⟨hp,⟨qqO,by have:=hp.lo;omega⟩,iIn⟩
      |(rw[hset]
        refine⟨t+1,[],⟨qqO,qqO⟩,?_⟩;all_goals exact pV)
    ·have:t=S.piv.length:=qqO
     subst this;have hb:=jX S.piv (c+1);rw[hn']at hb;all_goals exact ET
 ·have hc0:c=w:=qqO
  subst hc0;rw[hk]at hn;subst hn;all_goals exact EU
end Go.Eng.YtmkagljofpddpaaGreatDoor
namespace Go.Eng.YtmkagljofpddpaaGreatDoor
open Go.Proofs Go.Eng.Dig
set_option linter.unusedSimpArgs false
set_option linter.unusedVariables false
set_option maxHeartbeats 0
set_option maxRecDepth 100000
theorem LJ {m:Nat}:∀{rs:List (List PV)},(∀r,r∈rs→(akM r.length m&&jF r)=true)→oI m rs:=by
 intro rs;induction rs with
 |nil=>intro _;trivial
 |cons r rs ih=>intro h;exact⟨h r qqS,ih fun x hx=>h x (by simp[hx])⟩
theorem LK:∀{rs:List (List PV)},(∀r,r∈rs→iQ.inlF r=true)→eZ rs:=by
 intro rs;induction rs with
 |nil=>intro _;trivial
 |cons r rs ih=>intro h;exact⟨h r qqS,ih fun x hx=>h x (by simp[hx])⟩
theorem Oa {α:Type} {v z:α} {n j:Nat} {r:α} (h:r∈rpL v z n j):r=v∨r=z:=by
 unfold rpL at h;rw[akH,aoM,aoM]at h;rcases h with h|h<;>simp[h.2]
theorem aeS:qL.bytes=64:=qqR
theorem Ob:qL.size=4:=qqR
def zR:List PV:=[.int .i64 0,.nils,.int .i64 0,.nils]
theorem FQ (f:List PV) (n:Nat) (hn:1≤n∧n≤1000000) (h1:(akM f.length 4&&jF f)=true) (hi:iQ.inlF f=true):dH Tryz.prog 170 [.isl (.recs 4 [f]) .none,.int .i64 n] [] [.rsc 0 4 n] [.rowo (.recs 4 (akP n f))]:=by
 have h2:((1:Nat):Int)*(n:Int) / 18446744073709551616=0:=qqO;have h3:((1:Nat):Int)*(n:Int) % 18446744073709551616=n:=qqO;have h4:(((1:Nat):Int)*(n:Int) % 18446744073709551616).toNat=n:=by rw[h3];omega
 have h5:min 1 n=1:=qqO;have hin:∀j,eZ (rpL f zR n j):=fun j=>LK fun r hr=>by
  rcases Oa hr with rfl|rfl
  ·exact hi
  ·rfl
 have hall:∀j,oI 4 (rpL f zR n j):=fun j=>LJ fun r hr=>by
  rcases Oa hr with rfl|rfl
  ·exact h1
  ·rfl
 refine dV (md:=1) (rf:=[6030]) mixed av yJ 0 [(4,0)] Tryz.func170 qqR qqR qqR ?_
 repeat'((conv=>whnf);first|(intro hq;(try simp only[vw]at hq);try exact ak hq)|apply aI|exact aj|apply nM|apply fM)
 all_goals((try apply vM);(try simp only[vq]at*);try omega)
 all_goals(try simp only[h3,h4,h5,aeS,Ob,aoI])
 ·omega
 ·exact .inl trivial
 conv=>whnf
 repeat'((conv=>whnf);first|(intro hq;(try simp only[vw]at hq);try exact ak hq)|apply aI|exact aj|apply nM|apply fM)
 all_goals((try apply vM);(try simp only[vq]at*);try omega)
 ·show 0 / 4+min 1 n≤n
  omega
 conv=>whnf
 simp only[h3,h4,amI,h5,aoN];have e1:=N7 f zR hn.1;simp only[akS]at e1⊢;rw[show([PV.int .i64 0,PV.nils,PV.int .i64 0,PV.nils]:List PV)=zR from rfl,e1];refine aV (X:=Nat) (fun j=>1≤j∧j≤n) (fun j=>[(8,.int .i64 j)]) (fun j=>[(4,.cells (.recs 4 (rpL f zR n j)) false)]) (fun j=>n-j) 1 ⟨aL,mixed,av,yJ,aU⟩ qqR ⟨qqO,qqO⟩ ?_ ?_
 ·repeat'((conv=>whnf);first|intro _|apply aI|exact aj|apply nM|apply fM)
  all_goals((try apply vM);(try simp only[vq]at*);try omega)
  all_goals exact hin 1
 intro j hj;have hl:=yI f zR hj.2;have hI:=hin j;have hA:=hall j;by_cases hlt:j<n
 ·have hq':min j (n-j)≤j:=qqO
  have hs:=Kk f zR (n:=n) (j:=j) (q:=min j (n-j)) qqO qqO;have hI2:=hin (j+min j (n-j))
  repeat'((conv=>whnf);first|(intro hq;(try simp only[vw]at hq);try exact ak hq)|apply aI|exact aj|apply nM|apply fM)
  all_goals((try apply vM);(try simp only[vq]at*);try omega)
  all_goals(try simp only[Ob,alu,aoN,Nat.mul_div_cancel _ (show 0<4 by decide),Nat.mul_mod_left,aoJ,hl])
  all_goals first
   |exact hI
   |exact hA
   |omega
   |(rw[hs]
     refine⟨j+min j (n-j),[],⟨qqO,qqO⟩,?_⟩
     repeat'((conv=>whnf);first|intro _|apply aI|exact aj|apply nM|apply fM)
     all_goals((try apply vM);(try simp only[vq]at*);try omega)
     all_goals first|exact⟨rfl,hI2⟩|exact hI2)
 ·have:j=n:=qqO
  subst this;rw[N8]at hI⊢
  repeat'((conv=>whnf);first|(intro hq;(try simp only[vw]at hq);try exact ak hq)|apply aI|exact aj|apply nM|apply fM)
  all_goals((try apply vM);(try simp only[vq]at*);try omega)
  all_goals first|exact⟨rfl,hI⟩|exact hI
end Go.Eng.YtmkagljofpddpaaGreatDoor
namespace Go.Eng.YtmkagljofpddpaaGreatDoor
open Go.Proofs Go.Eng.ElG
set_option linter.unusedSimpArgs false
set_option linter.unusedVariables false
set_option maxHeartbeats 0
set_option maxRecDepth 100000
def rfL (w:Nat) (f:Nat→Fr):List (List PV):=(akE w).map fun j=>frC (f j)
theorem iE (w:Nat) (f:Nat→Fr):(rfL w f).length=w:=by simp[rfL]
theorem yK {w:Nat} (f:Nat→Fr) (k:Nat) (v:Fr):(rfL w f).set k (frC v)=rfL w (fun j=>if j=k then v else f j):=by
 apply amC
 ·simp[rfL]
 ·intro j h1 h2
  rw[amF];simp only[rfL,amG,amH];by_cases e:k=j
  ·subst e;simp
  ·rw[if_neg e,if_neg (fun h=>e h.symm)]
theorem lu (w:Nat) (f:Nat→Fr):gK (.recs 4 (rfL w f)) (.genr 4 w fun j=>frC (f j)):=by
 refine⟨by simp[CL.cnt,rfL],rfl,fun j hj=>?_⟩
 have hj:j<(rfL w f).length*4:=hj;rw[iE]at hj;simp only[CL.get];have h1:j / 4<w:=qqO;simp[rfL,akG,h1]
theorem Cg (cols:Nat) (hcol:cols≤1000):dH Tryz.prog 131 [.agg [],.nils,.int .i64 (cols:Int)] [] [.agg [.nils,.any,.any,.any]] []:=by
 refine dV (md:=0) (rf:=[]) mixed av kH 0 [] Tryz.func131 qqR qqR qqR ?_;conv=>whnf
 refine aV (X:=Nat) (fun c=>c≤cols) (fun c=>[(17,.int .i64 c)]) (fun c=>[]) (fun c=>cols-c) 0 ⟨aL,mixed,av,kH,aU⟩ qqR qqO ?_ ?_
 ·all_goals exact aW
 intro c hc;by_cases hlt:c<cols
 ·repeat'((conv=>whnf);first|(intro hq;(try simp only[vw]at hq);try exact ak hq)|apply aI|exact aj|apply nM|apply fM)
  all_goals((try apply vM);(try simp only[vq]at*);try omega)
  conv=>whnf
  refine aV (X:=Unit) (fun _=>True) (fun _=>[(10,.int .i64 0)]) (fun _=>[]) (fun _=>0) () ⟨aL,mixed,av,kH,aU⟩ qqR True.intro ?_ ?_
  ·all_goals exact aW
  intro _ _;all_goals exact EP
 ·have:c=cols:=qqO
  subst this
  repeat'((conv=>whnf);first|(intro hq;(try simp only[vw]at hq);try exact ak hq)|apply aI|exact aj|apply nM|apply fM)
  all_goals((try apply vM);(try simp only[vq]at*);try omega)
  all_goals exact aoK 0
theorem uL {m w cols b:Nat} {M0:bJ Fr} (hm:1≤m∧m≤256) (hw:w≤1000) (hcw:cols≤w) (h0:∀r,r<m→∀j,j<w→GL b 0 (M0 r j)) (hB:Bd b m≤1000000000):
 dH Tryz.prog 131 [.agg [],.rsl 0 0 m,.int .i64 (cols:Int)] [.qmat m (fun _=>2) fun i=>.recs 4 (rfL w (M0 i))]
  [.agg [.rsl 0 0 (aN Ff w m M0 cols).piv.length,.isl (.ints .i64 (pvI (aN Ff w m M0 cols).piv)) .none,.isl (.recs 4 ((aN Ff w m M0 cols).heads.map frC)) .none,.bp (aN Ff w m M0 cols).odd]] [.pmat m (fnM w (aN Ff w m M0 cols).M)]:=
 pR (pre:=[]) (post:=[]) (fnM w M0) (fun i hi=>⟨rfl,lu _ _⟩) (zO hm hw hcw h0 hB)
abbrev zFr:Fr:=⟨⟨0,[]⟩,fI⟩
abbrev oFr:Fr:=⟨⟨1,[]⟩,fI⟩
def YU:PSp:=fun xs K=>match xs with
 | [.agg [],.int .i64 n]=>K (frV ⟨⟨n,[]⟩,fI⟩)
 |_=>False
theorem ahr:POK Tryz.prog 329 YU:=by
 intro xs K hk;unfold YU at hk;split at hk
 ·exact⟨_,hk,YN _⟩
 ·exact hk.elim
noncomputable def ajX (A B C:LSp) (w:Nat):CPT:=aB 131 (dQ [] (ls3 A B C)) (aB 329 (aP YU) (aB 215 (aP G7) (aB 170 (dQ [] (lq [.isl (.recs 4 [frC zFr]) .none,.int .i64 (w:Int)] [] [.rsc 0 4 w] [.rowo (.recs 4 (akP w (frC zFr)))])) (aB 330 (aR (Kc (fun a b=>FB a∧FB b) fun a b=>frV (iB a b))) noC))))
theorem Oc {A B C:LSp} {w:Nat} (hA:LOK Tryz.prog 131 A) (hB:LOK Tryz.prog 131 B) (hC:LOK Tryz.prog 131 C) (hw:1≤w∧w≤1000000):bD Tryz.prog (ajX A B C w):=
 au (bT [] (Vs hA hB hC)) (au (aC ahr) (au (aC N9) (au (bT [] (dA (FQ (frC zFr) w hw qqR qqR))) (au (aF (DW fun a b h=>Ke a b h)) aG))))
theorem Ru {m w b:Nat} {M0:bJ Fr} (hm:1≤m∧m≤256) (hw:1≤w∧w≤256) (h0:∀r,r<m→∀j,j<w→GL b 0 (M0 r j)) (hB:Bd b m≤1000000000) (hk:(bK (aN Ff w m M0 w).piv w).length=0):
 dH Tryz.prog 159 [PV.agg [],.rsl 0 0 m,.int .i64 (w:Int)] [.pmat m (fnM w M0)] [.nils] [.pmat m (fnM w (aN Ff w m M0 w).M)]:=by
 obtain⟨S,hS⟩:∃S,S=aN Ff w m M0 w:=⟨_,rfl⟩;have hA:=zO hm (show w≤1000 by omega) (aku w) h0 hB
 obtain⟨l1,l2,l3⟩:=fE Ff w m M0 w;rw[←hS]at hk hA l1 l2⊢;have hall:∀c,c<w→c∈S.piv:=fun c hc=>by
  apply aoO;intro h;have h1:c∈bK S.piv w:=ru.2 ⟨hc,h⟩;rw[List.eq_nil_of_length_eq_zero hk]at h1;cases h1
 have hBB:LOK Tryz.prog 131 fun _ _ _=>False:=fun _ _ _ h=>h.elim;have hc:=Oc (dA hA) hBB (dA (Cg w qqO)) (w:=w) qqO;refine dV (md:=0) (rf:=[4065,66]) mixed av hc 1 [] Tryz.func159 qqR qqR qqR ?_
 repeat'((conv=>whnf);first|intro _|apply aI|exact aj|apply nM|apply fM)
 all_goals((try apply vM);(try simp only[vq]at*);try omega)
 conv=>whnf
 refine aV (X:=Nat) (fun c=>c≤w) (fun c=>[(18,.int .i64 c),(9,.any),(10,.any),(11,.any),(12,.any),(8,.nils)]) (fun c=>[]) (fun c=>w-c) 0 ⟨aL,mixed,av,hc,aU⟩ qqR qqO ?_ ?_
 ·all_goals exact wE
 intro c hcw;have hP:(pvI S.piv).length=S.piv.length:=by simp[pvI]
 by_cases hlt:c<w
 ·have hin':=sH.2 (hall c hlt)
  repeat'((conv=>whnf);first|(intro hq;(try simp only[vw]at hq);try exact ak hq)|apply aI|exact aj|apply nM|apply fM)
  all_goals((try apply vM);(try simp only[vq]at*);try omega)
  all_goals first
   |(refine⟨c+1,[],⟨qqO,qqO⟩,?_⟩
     all_goals exact wE)
   |(rw[hP];omega)
   |contradiction
 ·have hc0:c=w:=qqO
  subst hc0
  repeat'((conv=>whnf);first|(intro hq;(try simp only[vw]at hq);try exact ak hq)|apply aI|exact aj|apply nM|apply fM)
  all_goals((try apply vM);(try simp only[vq]at*);try omega)
  all_goals first|exact fun _ _=>trivial|exact Sup.of rfl
def kB (b m:Nat):Nat:=zFr.L+oFr.L+1+Bd b m
theorem yL:zFr=can 0:=rfl
theorem sI:oFr=can 1:=rfl
theorem xu:zFr.OK:=by rw[yL];exact dY _
theorem Vx:oFr.OK:=by rw[sI];exact dY _
theorem fbz:FB zFr:=by rw[yL];exact JH qqV
theorem Od {S:ES Fr} {m w b:Nat} (hS:∀r,r<m→∀j,j<w→GL b m (S.M r j)) {c:Nat} (hc:c<w):∀t,t≤m→∀j,GL (kB b m) 0 (fu Ff zFr oFr S c t j):=by
 intro t;induction t with
 |zero=>
  intro _ j;show GL (kB b m) 0 (if j=c then oFr else zFr);split
  ·exact⟨Vx,by show _≤kB b m;unfold kB;omega⟩
  ·exact⟨xu,by show _≤kB b m;unfold kB;omega⟩
 |succ t ih=>
  intro ht j;show GL (kB b m) 0 (if j=S.piv.getD t 0 then iB zFr (S.M t c)else fu Ff zFr oFr S c t j);split
  ·have h:=hS t qqO c hc
   have h1:=abm xu h.ok;have h2:=h.le;exact⟨Ns xu h.ok,by show _≤kB b m;unfold kB;omega⟩
  ·exact ih qqO j
theorem zS (w:Nat):akP w (frC zFr)=rfL w fun _=>zFr:=by
 apply amC
 ·simp[rfL]
 ·intro j h1 h2;simp[rfL]
theorem lS (w:Nat) (f:Nat→Fr):eZ (rfL w f):=rJ _ _ fun i=>rfl
theorem Vy {m w b:Nat} {M0:bJ Fr} (hm:1≤m∧m≤256) (hw:1≤w∧w≤256) (h0:∀r,r<m→∀j,j<w→GL b 0 (M0 r j)) (hB1:Bd b m≤1000000000) {k:Nat} (hk:(bK (aN Ff w m M0 w).piv w).length=k+1) (hB2:Bd (kB b m) (k+1)≤1000000000):
 dH Tryz.prog 159 [PV.agg [],.rsl 0 0 m,.int .i64 (w:Int)] [.pmat m (fnM w M0)] [.rsl 1 0 (gP Ff zFr oFr w m M0).piv.length] [.pmat m (fnM w (aN Ff w m M0 w).M),.pmat (k+1) (fnM w (gP Ff zFr oFr w m M0).M)]:=by
 obtain⟨S,hS⟩:∃S,S=aN Ff w m M0 w:=⟨_,rfl⟩;have hA:=zO hm (show w≤1000 by omega) (aku w) h0 hB1
 obtain⟨l1,l2,l3⟩:=fE Ff w m M0 w;have hpv:=xg Ff w m M0 w;have hhom:=jg (yC b) (M':=fun i j=>(M0 i j).val) (fun r hr j hj=>⟨h0 r hr j hj,rfl⟩) w (aku w);have hIn:∀r,r<m→∀j,j<w→GL b m (S.M r j):=fun r hr j hj=>by
  rw[hS];have:=(hhom.1 r hr j hj).1;exact⟨this.ok,aky this.le (lM b (fE Ff w m M0 w).1)⟩
 clear hhom;have hfl:=jX S.piv w;rw[←hS]at hk hA l1 l2 hpv⊢;have hKin:∀r,r<k+1→∀j,j<w→GL (kB b m) 0 (kP Ff zFr oFr S w r j):=fun r hr j hj=>Od hIn (by
  have:(bK S.piv w).getD r 0∈bK S.piv w:=by
   rw[akG,akL qqO];exact aoD _
  exact(ru.1 this).1) _ qqO j
 have hB:=uL (m:=k+1) (M0:=kP Ff zFr oFr S w) qqO (show w≤1000 by omega) (aku w) hKin hB2
 have hE:aN Ff w (k+1) (kP Ff zFr oFr S w) w=gP Ff zFr oFr w m M0:=by unfold gP;rw[←hS,hk]
 rw[hE]at hB;generalize gP Ff zFr oFr w m M0=S2 at*
 have hc:=Oc (dA hA) (dA hB) (dA (Cg w qqO)) (w:=w) qqO;refine dV (md:=0) (rf:=[4065,66]) mixed av hc 1 [(7,1)] Tryz.func159 qqR qqR qqR ?_
 repeat'((conv=>whnf);first|intro _|apply aI|exact aj|apply nM|apply fM)
 all_goals((try apply vM);(try simp only[vq]at*);try omega)
 conv=>whnf
 refine Bt 0 qqR fun l g hl hnd hg=>?_;conv=>whnf
 refine aV (X:=Nat) (fun c=>c≤w) (fun c=>[(18,.int .i64 c),(9,.any),(10,.any),(11,.any),(12,.any),(8,Ce 7 (bK S.piv c).length)]) (fun c=>Rt 7 (bK S.piv c).length fun i=>.recs 4 (rfL w (kP Ff zFr oFr S w i))) (fun c=>w-c) 0 ⟨aL,mixed,av,hc,aU⟩ qqR qqO ?_ ?_
 ·rw[Cb]
  all_goals exact eU
 intro c hcw;obtain⟨n,hn⟩:∃n,(bK S.piv c).length=n:=⟨_,rfl⟩;rw[hn];have hP:(pvI S.piv).length=S.piv.length:=by simp[pvI]
 by_cases hlt:c<w
 ·by_cases hin:c∈S.piv
  ·have hin':=sH.2 hin
   have hn':(bK S.piv (c+1)).length=n:=by rw[uK hin];exact hn
   cases n with
   |zero=>
    all_goals exact ER
   |succ n=>
    repeat'((conv=>whnf);first|(intro hq;(try simp only[vw]at hq);try exact ak hq)|apply aI|exact aj|apply nM|apply fM)
    all_goals((try apply vM);(try simp only[vq]at*);try omega)
    all_goals first
     |(refine⟨c+1,[],⟨qqO,qqO⟩,?_⟩
       rw[hn'];all_goals exact qR)
     |(rw[hP];omega)
     |contradiction
  ·have hin':¬(c:Int)∈pvI S.piv:=fun h=>hin (sH.1 h)
   have hn':(bK S.piv (c+1)).length=n+1:=by rw[lQ hin,alQ,hn];rfl
   have hlast:(bK S.piv w).getD n 0=c:=by rw[←hn];exact Cc hin hlt
   have hz:(akP w (frC zFr)).set c (frC oFr)=rfL w (fu Ff zFr oFr S c 0):=by rw[zS,yK];rfl
   cases n with
   |zero=>
    repeat'((conv=>whnf);first|(intro hq;(try simp only[vw]at hq);try exact ak hq)|apply aI|exact aj|apply nM|apply fM)
    all_goals((try apply vM);(try simp only[vq]at*);try omega)
    all_goals first
     |(rw[hP];omega)
     |contradiction
     |(rw[aoI];exact hlt)
     |skip
    ·exact rfl
    ·exact rfl
    conv=>whnf
    simp only[amI,hz];refine aV (X:=Nat) (fun t=>t≤S.piv.length) (fun t=>[(40,.int .i64 t),(11,.any),(12,.any),(26,.any),(34,.any)]) (fun t=>[(12,.cells (.recs 4 (rfL w (fu Ff zFr oFr S c t))) false)]) (fun t=>S.piv.length-t) 0 ⟨aL,mixed,av,hc,aU⟩ qqR qqO ?_ ?_
    ·all_goals exact EW
    intro t ht;by_cases htl:t<S.piv.length
    ·have hgt:=hg t qqO
     have ht1:(pvI S.piv).getD t 0=((S.piv.getD t 0:Nat):Int):=by simp[pvI,akG,htl]
     have ht2:S.piv.getD t 0<w:=hpv _ (by rw[akG,akL htl];exact aoD _)
     have hM:=trivial;have iIn:=hIn t qqO c hlt;have hset:(rfL w (fu Ff zFr oFr S c t)).set (S.piv.getD t 0) (frC (iB zFr (S.M t c)))=rfL w (fu Ff zFr oFr S c (t+1)):=by rw[yK];rfl
     have hlm:l.getD t 0∈l:=by rw[akG,akL qqO];exact aoD _
     repeat'((conv=>whnf);first|(intro hq;(try simp only[vw]at hq);try exact ak hq)|apply aI|exact aj|apply nM|apply fM)
     all_goals((try apply vM);(try simp only[vq]at*);try omega)
     all_goals(try simp only[eF,akZ,hgt,ht1,amI,iE,cO])
     all_goals first
      |omega
      |exact hlm
      |exact rfl
      |skip
     repeat'((conv=>whnf);first|(intro hq;(try simp only[vw]at hq);try exact ak hq)|apply aI|exact aj|apply nM|apply fM)
     all_goals((try apply vM);(try simp only[vq]at*);try omega)
     all_goals(try simp only[eF,akZ,hgt,ht1,amI,iE,cO])
     all_goals first
      |omega
      |exact hlm
      |exact rfl
      |exact⟨fbz,iIn.fb qqO⟩
      |(rw[hset]
        refine⟨t+1,[],⟨qqO,qqO⟩,?_⟩;all_goals exact qR)
    ·have:t=S.piv.length:=qqO
     subst this;have hb:=jX S.piv (c+1);rw[hn']at hb;all_goals exact EX
   |succ n=>
    repeat'((conv=>whnf);first|(intro hq;(try simp only[vw]at hq);try exact ak hq)|apply aI|exact aj|apply nM|apply fM)
    all_goals((try apply vM);(try simp only[vq]at*);try omega)
    all_goals first
     |(rw[hP];omega)
     |contradiction
     |(rw[aoI];exact hlt)
     |skip
    ·exact rfl
    ·exact rfl
    conv=>whnf
    simp only[amI,hz];refine aV (X:=Nat) (fun t=>t≤S.piv.length) (fun t=>[(40,.int .i64 t),(11,.any),(12,.any),(26,.any),(34,.any)]) (fun t=>[(12,.cells (.recs 4 (rfL w (fu Ff zFr oFr S c t))) false)]) (fun t=>S.piv.length-t) 0 ⟨aL,mixed,av,hc,aU⟩ qqR qqO ?_ ?_
    ·all_goals exact EW
    intro t ht;by_cases htl:t<S.piv.length
    ·have hgt:=hg t qqO
     have ht1:(pvI S.piv).getD t 0=((S.piv.getD t 0:Nat):Int):=by simp[pvI,akG,htl]
     have ht2:S.piv.getD t 0<w:=hpv _ (by rw[akG,akL htl];exact aoD _)
     have hM:=trivial;have iIn:=hIn t qqO c hlt;have hset:(rfL w (fu Ff zFr oFr S c t)).set (S.piv.getD t 0) (frC (iB zFr (S.M t c)))=rfL w (fu Ff zFr oFr S c (t+1)):=by rw[yK];rfl
     have hlm:l.getD t 0∈l:=by rw[akG,akL qqO];exact aoD _
     repeat'((conv=>whnf);first|(intro hq;(try simp only[vw]at hq);try exact ak hq)|apply aI|exact aj|apply nM|apply fM)
     all_goals((try apply vM);(try simp only[vq]at*);try omega)
     all_goals(try simp only[eF,akZ,hgt,ht1,amI,iE,cO])
     all_goals first
      |omega
      |exact hlm
      |exact rfl
      |skip
     repeat'((conv=>whnf);first|(intro hq;(try simp only[vw]at hq);try exact ak hq)|apply aI|exact aj|apply nM|apply fM)
     all_goals((try apply vM);(try simp only[vq]at*);try omega)
     all_goals(try simp only[eF,akZ,hgt,ht1,amI,iE,cO])
     all_goals first
      |omega
      |exact hlm
      |exact rfl
      |exact⟨fbz,iIn.fb qqO⟩
      |(rw[hset]
        refine⟨t+1,[],⟨qqO,qqO⟩,?_⟩;all_goals exact qR)
    ·have:t=S.piv.length:=qqO
     subst this;have hb:=jX S.piv (c+1);rw[hn']at hb;all_goals exact EX
 ·have hc0:c=w:=qqO
  subst hc0;rw[hk]at hn;subst hn;all_goals exact EU
end Go.Eng.YtmkagljofpddpaaGreatDoor
namespace Go.Eng.YtmkagljofpddpaaGreatDoor
open Go.Proofs Go.Eng.Dig Go.Eng.Dec Go.Eng.Pm Go.Eng.ElG
set_option linter.unusedSimpArgs false
set_option linter.unusedVariables false
set_option maxHeartbeats 0
set_option maxRecDepth 100000
abbrev fmV (r w:Nat) (D:bJ Fr):PV:=.isl (.gen r fun i=>frL w (D i)) .none
def mtT (w:Nat) (D:bJ Fr) (i:Nat):List PV:=(akE i).map fun r=>stV (txL w (D r))
theorem DY (w:Nat) (D:bJ Fr) (i:Nat):(mtT w D i).length=i:=by simp[mtT]
theorem Km (w:Nat) (D:bJ Fr) (i:Nat):mtT w D i++[stV (txL w (D i))]=mtT w D (i+1):=by simp[mtT,anX]
theorem YV {f:Nat→PV}:∀{l:List Nat} {i:Nat} (h:i<l.length),aH (l.map f) i=f l[i]:=by
 intro l;induction l with
 |nil=>intro i h;cases h
 |cons x l ih=>
  intro i h;cases i with
  |zero=>rfl
  |succ i=>exact ih (by simpa using h)
theorem ahs (w:Nat) (D:bJ Fr) {r i:Nat} (h:i<r):aH (mtT w D r) i=stV (txL w (D i)):=by
 unfold mtT;rw[YV (by simpa using h)]
 simp
structure Ky where
 n:Nat
def rwP (w:Nat) (D:bJ Fr):PSp:=fun ys K=>∃i:Ky,VC (ys=[frL w (D i.n)]∧∀j,j<w→FT (D i.n j))∧(kG w (D i.n)=true→K (.tup [stV [],.int .i64 4]))∧(kG w (D i.n)=false→K (.tup [stV (txL w (D i.n)),.int .i64 0]))
theorem aht {w:Nat} {D:bJ Fr} (hw:w≤1000000):POK Tryz.prog 171 (rwP w D):=by
 rintro ys K ⟨⟨i⟩,⟨⟨rfl,hf⟩⟩,h1,h2⟩
 have h:=J7 w (D i) hw hf;unfold rwR at h;cases hl:kG w (D i)
 ·rw[hl,if_neg qqS]at h;exact⟨_,h2 hl,h⟩
 ·rw[hl,if_pos rfl]at h;exact⟨_,h1 hl,h⟩
noncomputable def ajY (w:Nat) (D:bJ Fr):CPT:=aB 171 (aP (rwP w D)) noC
theorem Oe {w:Nat} {D:bJ Fr} (hw:w≤1000000):bD Tryz.prog (ajY w D):=au (aC (aht hw)) aG
theorem YW (r w:Nat) (D:bJ Fr) (hr:r≤1000000) (hw:w≤1000000) (hf:∀i,i<r→∀j,j<w→FT (D i j)) (hl:∀i,i<r→kG w (D i)=false):
 aD Tryz.prog 158 [fmV r w D] (.tup [tmV r fun i=>txL w (D i),.int .i64 0]):=by
 have hc:=Oe (D:=D) hw;refine ay (md:=1) (rf:=[]) mixed av hc Tryz.func158 qqR qqR qqR ?_
 repeat'((conv=>whnf);first|(intro hq;(try simp only[vw]at hq);try exact ak hq)|apply aI|exact aj|apply nM|apply fM)
 all_goals((try apply vM);(try simp only[vq]at*);try omega)
 conv=>whnf
 refine aV (X:=Nat) (fun i=>i≤r) (fun i=>[(11,.int .i64 i),(5,.any),(6,.any),(7,.any),(8,.any),(15,.any),(4,.isl (.pv (mtT w D i)) (.own 5))]) (fun i=>[(5,.tok 1 i)]) (fun i=>r-i) 0 ⟨aL,mixed,av,hc,aU⟩ qqR qqO ?_ ?_
 ·all_goals exact EY
 intro i hi;obtain⟨ky,rfl⟩:∃ky:Ky,i=ky.n:=⟨⟨i⟩,rfl⟩;have e0:=DY w D ky.n;by_cases hlt:ky.n<r
 ·have e1:=hf ky.n hlt
  have e2:=hl ky.n hlt;have e3:=Km w D ky.n
  repeat'((conv=>whnf);first|refine Exists.intro (ky) ?_|(intro hq;(try simp only[vw]at hq);try exact ak hq)|apply aI|exact aj|apply nM|apply fM)
  all_goals((try apply vM);(try simp only[vq]at*);try omega)
  all_goals first
   |exact⟨rfl,e1⟩
   |exact e1
   |omega
   |(simp only[alQ,akq,akm];omega)
   |(exfalso;simp_all;done)
   |(refine⟨ky.n+1,[],⟨qqO,qqO⟩,?_⟩
     all_goals exact EZ)
 ·have:ky.n=r:=qqO
  rw[this]at*
  repeat'((conv=>whnf);first|(intro hq;(try simp only[vw]at hq);try exact ak hq)|apply aI|exact aj|apply nM|apply fM)
  all_goals((try apply vM);(try simp only[vq]at*);try omega)
  all_goals first|exact uI (BR (DY _ _ _) fun j hj=>ahs w D hj) _ _
theorem aeT (r w:Nat) (D:bJ Fr) (hr:r≤1000000) (hw:w≤1000000) (hf:∀i,i<r→∀j,j<w→FT (D i j)) (hl:∃i,i<r∧kG w (D i)=true):
 aD Tryz.prog 158 [fmV r w D] (.tup [.nils,.int .i64 4]):=by
 have hc:=Oe (D:=D) hw;refine ay (md:=1) (rf:=[]) mixed av hc Tryz.func158 qqR qqR qqR ?_
 repeat'((conv=>whnf);first|(intro hq;(try simp only[vw]at hq);try exact ak hq)|apply aI|exact aj|apply nM|apply fM)
 all_goals((try apply vM);(try simp only[vq]at*);try omega)
 conv=>whnf
 refine aV (X:=Nat) (fun i=>i≤r∧∀j,j<i→kG w (D j)=false) (fun i=>[(11,.int .i64 i),(5,.any),(6,.any),(7,.any),(8,.any),(15,.any),(4,.isl (.pv (mtT w D i)) (.own 5))]) (fun i=>[(5,.tok 1 i)]) (fun i=>r-i) 0 ⟨aL,mixed,av,hc,aU⟩ qqR ⟨qqO,fun j hj=>qqO⟩ ?_ ?_
 ·all_goals exact EY
 intro i ⟨hi,hok⟩;obtain⟨ky,rfl⟩:∃ky:Ky,i=ky.n:=⟨⟨i⟩,rfl⟩;have e0:=DY w D ky.n;by_cases hlt:ky.n<r
 ·have e1:=hf ky.n hlt
  have e3:=Km w D ky.n
  repeat'((conv=>whnf);first|refine Exists.intro (ky) ?_|(intro hq;(try simp only[vw]at hq);try exact ak hq)|apply aI|exact aj|apply nM|apply fM)
  all_goals((try apply vM);(try simp only[vq]at*);try omega)
  all_goals first
   |exact⟨rfl,e1⟩
   |exact e1
   |omega
   |(simp only[alQ,akq,akm];omega)
   |exact Sup.of rfl
   |(refine⟨ky.n+1,[],⟨⟨qqO,fun j hj=>?_⟩,qqO⟩,?_⟩
     ·by_cases e:j=ky.n
      ·subst e;assumption
      ·exact hok j qqO
     all_goals exact EZ)
 ·obtain⟨k,hk,hk2⟩:=hl
  rw[hok k qqO]at hk2;cases hk2
theorem Vz:aD Tryz.prog 158 [.isl (.gen 0 fun _=>.nils) .none] (.tup [.nils,.int .i64 0]):=by
 refine ay (md:=1) (rf:=[]) mixed av aG Tryz.func158 qqR qqR qqR ?_
 repeat'((conv=>whnf);first|(intro hq;(try simp only[vw]at hq);try exact ak hq)|apply aI|exact aj|apply nM|apply fM)
 all_goals((try apply vM);(try simp only[vq]at*);try omega)
 conv=>whnf
 refine aV (X:=Unit) (fun _=>True) (fun _=>[(11,.int .i64 0),(4,.nils)]) (fun _=>[]) (fun _=>0) () ⟨aL,mixed,av,aG,aU⟩ qqR True.intro ?_ ?_
 ·all_goals exact aW
 intro _ _;all_goals exact iq
def uM (w:Nat) (q:Nat→Rat):Bool:=(akE w).any fun j=>lgQ (q j)
def G8 (r w:Nat) (Q:Nat→Nat→Rat):Bool:=(akE r).any fun i=>uM w (Q i)
theorem zT {w:Nat} {f:Nat→Fr} {q:Nat→Rat} (h:∀j,j<w→(f j).val=q j):kG w f=uM w q:=by
 unfold kG uM;rw[Bool.eq_iff_iff,aoz,aoz];exact exists_congr fun j=>and_congr_right fun hj=>by rw[h j (amn.1 hj)]
theorem VA {w:Nat} {f:Nat→Fr} {q:Nat→Rat} (h:∀j,j<w→(f j).val=q j):txL w f=qsL w q:=by
 unfold txL qsL;exact amE fun j hj=>by rw[h j (amn.1 hj)]
theorem YX {n:Nat} {f g:Nat→PV} (h:∀i,i<n→f i=g i):gK (.gen n f) (.gen n g):=⟨rfl,rfl,fun j hj=>by simp only[CL.ncell]at hj;simp only[CL.get];exact(h j hj).symm⟩
def mtN (r w:Nat) (Q:Nat→Nat→Rat):Nat:=if G8 r w Q=true then 0 else r
def mtE (r w:Nat) (Q:Nat→Nat→Rat):Int:=if G8 r w Q=true then 4 else 0
def mtR (r w:Nat) (Q:Nat→Nat→Rat):PV:=.tup [tmV (mtN r w Q) (qmL w Q),.int .i64 (mtE r w Q)]
theorem aeU (r w:Nat) (D:bJ Fr) (Q:Nat→Nat→Rat) (hr:r≤1000000) (hw:w≤1000000) (hf:∀i,i<r→∀j,j<w→FT (D i j)) (hv:∀i,i<r→∀j,j<w→(D i j).val=Q i j):
 aD Tryz.prog 158 [fmV r w D] (mtR r w Q):=by
 unfold mtR mtN mtE;cases hl:G8 r w Q
 ·have hl':∀i,i<r→kG w (D i)=false:=fun i hi=>by
   rw[zT (hv i hi)];cases e:uM w (Q i)
   ·rfl
   ·have:G8 r w Q=true:=aoz.2 ⟨i,amn.2 hi,e⟩
    rw[hl]at this;cases this
  simp only[als,if_false];exact jc (YW r w D hr hw hf hl') (uI (YX fun i hi=>congrArg stV (VA (hv i hi))) _ _)
 ·obtain⟨i,hi,e⟩:=aoz.1 hl
  have hi:=amn.1 hi;simp only[if_true];exact jc (aeT r w D hr hw hf ⟨i,hi,by rw[zT (hv i hi)];exact e⟩) (zK rfl _)
abbrev qmF (m w:Nat) (D:bJ Fr):AO:=.qmat m (fun _=>2) fun i=>.recs 4 (rfL w (D i))
theorem zU (m w:Nat) (D:bJ Fr) (hm:1≤m∧m≤256):dH Tryz.prog 157 [.rsl 0 0 m] [qmF m w D] [.int .i64 (w:Int)] [qmF m w D]:=by
 refine dV (md:=1) (rf:=[]) mixed av aG 1 [] Tryz.func157 qqR qqR qqR ?_
 repeat'((conv=>whnf);first|(intro hq;(try simp only[vw]at hq);try exact ak hq)|apply aI|exact aj|apply nM|apply fM)
 all_goals((try apply vM);(try simp only[vq]at*);try omega)
 all_goals first|exact .inr trivial|exact⟨fun _ _=>trivial,fun _ _ _=>trivial⟩|(simp only[iE])|(show 0*_<m;rw[alu];omega)
end Go.Eng.YtmkagljofpddpaaGreatDoor
namespace Go.Eng.YtmkagljofpddpaaGreatDoor
open Go.Proofs Go.Eng.Dig Go.Eng.Dec Go.Eng.Pm
set_option linter.unusedSimpArgs false
set_option linter.unusedVariables false
set_option maxHeartbeats 0
set_option maxRecDepth 100000
noncomputable def ajZ:CPT:=aB 141 (aP GV) noC
theorem aeV:bD Tryz.prog ajZ:=au (aC ND) aG
theorem YZ (n:Int):aD Tryz.prog 212 [.int .i64 n] (.bp (!smQ n)):=by
 refine ay (md:=1) (rf:=[]) mixed av aeV Tryz.func212 qqR qqR qqR ?_;all_goals exact iq
def Y0:PSp:=fun xs K=>match xs with
 | [.int .i64 n]=>VC (True)∧K (.bp (!smQ n))
 |_=>False
theorem ahu:POK Tryz.prog 212 Y0:=by
 intro xs K h;unfold Y0 at h;split at h
 ·exact⟨_,h.2,YZ _⟩
 ·exact h.elim
noncomputable def aj0:CPT:=aB 212 (aP Y0) noC
theorem Og:bD Tryz.prog aj0:=au (aC ahu) aG
theorem VB (l:List Int) (hw:l.length≤1000000):aD Tryz.prog 244 [.isl (.ints .i64 l) .none,.fn (.func 212) [] []] (.int .i64 (ixF (fun i=>!smQ (l.getD i 0)) l.length)):=by
 obtain⟨g,hg⟩:∃g:Nat→Bool,(fun i=>!smQ (l.getD i 0))=g:=⟨_,rfl⟩;have hgi:∀i,(!smQ (l.getD i 0))=g i:=fun i=>congrFun hg i;rw[hg];refine ay (md:=1) (rf:=[]) mixed av Og Tryz.func244 qqR qqR qqR ?_
 repeat'((conv=>whnf);first|(intro hq;(try simp only[vw]at hq);try exact ak hq)|apply aI|exact aj|apply nM|apply fM)
 all_goals((try apply vM);(try simp only[vq]at*);try omega)
 conv=>whnf
 refine aV (X:=Nat) (fun i=>i≤l.length∧∀j,j<i→g j=false) (fun i=>[(8,.int .i64 i),(5,.any)]) (fun _=>[]) (fun i=>l.length-i) 0 ⟨aL,mixed,av,Og,aU⟩ qqR ⟨qqO,fun j hj=>qqO⟩ ?_ ?_
 ·all_goals exact aW
 intro i ⟨hi,hok⟩;by_cases hlt:i<l.length
 ·have e1:=hgi i
  repeat'((conv=>whnf);first|(intro hq;(try simp only[vw]at hq);try exact ak hq)|apply aI|exact aj|apply nM|apply fM)
  all_goals(try simp only[e1,amI]at*)
  all_goals((try apply vM);(try simp only[vq]at*);try omega)
  all_goals first
   |omega
   |rfl
   |(rw[J4 hlt qqA hok];exact Sup.of rfl)
   |(refine⟨i+1,[],⟨⟨qqO,fun j hj=>?_⟩,qqO⟩,?_⟩
     ·by_cases e:j=i
      ·subst e;assumption
      ·exact hok j qqO
     all_goals exact aW)
 ·have:i=l.length:=qqO
  subst this;rw[J3 hok];all_goals exact iq
def Y1 (l:List Int):Bool:=(akE l.length).any fun i=>!smQ (l.getD i 0)
theorem VD (l:List Int) (hw:l.length≤1000000):aD Tryz.prog 211 [.isl (.ints .i64 l) .none,.fn (.func 212) [] []] (.bp (Y1 l)):=by
 have hc:=bM (VB l hw) aG;unfold Y1;rw[←Vi];refine ay (md:=1) (rf:=[]) mixed av hc Tryz.func211 qqR qqR qqR ?_;all_goals exact qP
def DZ (l:List Int):Int:=if Y1 l=true then 3 else 0
theorem VE (l:List Int) (hw:l.length≤1000000):aD Tryz.prog 210 [.isl (.ints .i64 l) .none] (.int .i64 (DZ l)):=by
 have hc:=bM (VD l hw) (au (aC iV) aG);unfold DZ;refine ay (md:=1) (rf:=[]) mixed av hc Tryz.func210 qqR qqR qqR ?_;all_goals exact qP
def Rv:PSp:=fun xs K=>match xs with
 | [.isl (.ints .i64 l) .none]=>VC (l.length≤1000000)∧K (.int .i64 (DZ l))
 |_=>False
theorem aeW:POK Tryz.prog 210 Rv:=by
 intro xs K h;unfold Rv at h;split at h
 ·exact⟨_,h.2,VE _ h.1.get⟩
 ·exact h.elim
def tmI (m:Nat) (f:Nat→List Int):PV:=.isl (.gen m fun i=>.isl (.ints .i64 (f i)) .none) .none
def mrI (f:Nat→List Int) (i:Nat):Int:=if 256<(f i).length then 5 else if(f i).length≠(f 0).length then 2 else DZ (f i)
def Ch (m:Nat) (f:Nat→List Int):Int:=if 256<m then 5 else iM (mrI f) m
structure Rx (m:Nat) (f:Nat→List Int):Prop where
 len:m≤1000000
 row:∀i,i<m→(f i).length≤1000000
noncomputable def aj1:CPT:=aB 210 (aP Rv) (aB 113 (aP qp) (aB 114 (aP l7) noC))
theorem D6:bD Tryz.prog aj1:=au (aC aeW) (au (aC iL) (au (aC iV) aG))
theorem LM (m:Nat) (f:Nat→List Int) (h:Rx m f):aD Tryz.prog 213 [tmI m f,.fn (.func 210) [] []] (.int .i64 (Ch m f)):=by
 have hm:=h.len;have hrl:=h.row;unfold Ch;by_cases h256:256<m
 ·rw[if_pos h256]
  refine ay (md:=1) (rf:=[]) mixed av D6 Tryz.func213 qqR qqR qqR ?_;all_goals exact pU
 rw[if_neg h256];refine ay (md:=1) (rf:=[]) mixed av D6 Tryz.func213 qqR qqR qqR ?_
 repeat'((conv=>whnf);first|(intro hq;(try simp only[vw]at hq);try exact ak hq)|apply aI|exact aj|apply nM|apply fM)
 all_goals((try apply vM);(try simp only[vq]at*);try omega)
 conv=>whnf
 refine aV (X:=Nat) (fun i=>i≤m∧∀j,j<i→mrI f j=0) (fun i=>[(14,.int .i64 i),(6,.any),(7,.any),(8,.any)]) (fun _=>[]) (fun i=>m-i) 0 ⟨aL,mixed,av,D6,aU⟩ qqR ⟨qqO,fun j hj=>qqO⟩ ?_ ?_
 ·all_goals exact aW
 intro i ⟨hi,hok⟩;by_cases hlt:i<m
 ·have e1:mrI f i=if 256<(f i).length then 5 else if(f i).length≠(f 0).length then 2 else DZ (f i):=rfl
  have e3:=hrl i hlt;have e4:=hrl 0 qqO;have fin:mrI f i≠0→iM (mrI f) m=mrI f i:=fun a1=>kT hlt a1 hok;have nxt:mrI f i=0→∀j,j<i+1→mrI f j=0:=fun a j hj=>by
   by_cases e:j=i
   ·subst e;exact a
   ·exact hok j qqO
  generalize mrI f i=E at*
  repeat'((conv=>whnf);first|(intro hq;(try simp only[vw]at hq);try exact ak hq)|apply aI|exact aj|apply nM|apply fM)
  all_goals((try apply vM);(try simp only[vq]at*);try omega)
  all_goals(try simp only[zJ]at*)
  all_goals first
   |(generalize hA:(if(if 256<((f i).length:Int)then(5:Int)else 0)=0 then if((f i).length:Int)≠((f (ana 0)).length:Int)then(2:Int)else 0 else if 256<((f i).length:Int)then(5:Int)else 0)=A at*
     have hE:E=A:=by
      rw[e1,←hA,show ana 0=0 from rfl];rw[←hA,show ana 0=0 from rfl]at hq
      (repeat' split)<;>first|rfl|omega|(exfalso;split at hq<;>omega)
     rw[fin (by rw[hE];exact hq),hE];exact Sup.of rfl)
   |(have hE:E=DZ (f i):=by
      rw[e1];rw[show ana 0=0 from rfl]at hq
      (repeat' split)<;>first|rfl|omega|(exfalso;(repeat' split at hq)<;>omega)
     first
      |(rw[fin (by rw[hE];assumption),hE];exact Sup.of rfl)
      |(refine⟨i+1,[],⟨⟨qqO,nxt (by rw[hE];exact Decidable.not_not.1 qqA)⟩,qqO⟩,?_⟩
        all_goals exact aW))
 ·have:i=m:=qqO
  subst this;rw[jL hok];all_goals exact iq
end Go.Eng.YtmkagljofpddpaaGreatDoor
namespace Go.Eng.YtmkagljofpddpaaGreatDoor
open Go.Proofs Go.Eng.ElG
set_option linter.unusedSimpArgs false
set_option linter.unusedVariables false
set_option maxHeartbeats 0
set_option maxRecDepth 100000
def abt (p:Int):Int:=if p<2∨999999999<p∨uH p=false then 15 else 0
def Y2 (m:Nat) (f:Nat→List Int) (p:Int):Int:=dG [Ch m f,abt p]
theorem FR (t:Nat) (g:Nat→Int):cu t g++[g t]=cu (t+1) g:=by
 unfold cu;rw[anX,anS];rfl
noncomputable def aj2 (m:Nat) (f:Nat→List Int):CPT:=iy 213 [tmI m f,.fn (.func 210) [] []] (.int .i64 (Ch m f)) (aB 113 (aP qp) (aB 114 (aP l7) (aB 144 (aP prP) (aB 214 (aP (zQ (fun p a=>PrI p∧ -999999999≤a∧a≤999999999) fun p a=>.int .i64 (a % p))) noC))))
theorem aeX {m:Nat} {f:Nat→List Int} (h:Rx m f):bD Tryz.prog (aj2 m f):=bM (LM m f h) (au (aC iL) (au (aC iV) (au (aC aiC) (au (aC (sG fun p a h=>zP p a h.1 h.2)) aG))))
def rsM (p:Int) (f:Nat→List Int):bJ Int:=fun i j=>(f i).getD j 0 % p
theorem Y3 (m w:Nat) (f:Nat→List Int) (p:Int) (hm:1≤m∧m≤256) (hw:1≤w∧w≤256) (h:Rx m f) (hE:Y2 m f p=0) (hp:PrI p) (hl:∀i,i<m→(f i).length=w) (hs:∀i,i<m→∀j,j<w→ -999999999≤(f i).getD j 0∧(f i).getD j 0≤999999999):
 dH Tryz.prog 149 [tmI m f,.int .i64 p] [] [.rsl 0 0 m,.agg [.int .i64 p],.int .i64 0] [.qmat m (fun _=>2) fun i=>.ints .i64 (cu w (rsM p f i))]:=by
 have hc:=aeX h;have p1:=hp.lo;have p2:=hp.hi;have e2:dG [Ch m f,if(!uH p)=true then 15 else 0]=0:=by
  refine Eq.trans ?_ hE;unfold Y2 abt;cases uH p<;>simp[show¬p<2 by omega,show¬999999999<p by omega]
 refine dV (md:=1) (rf:=[56,4060,61]) mixed av hc 0 [(5,0)] Tryz.func149 qqR qqR qqR ?_
 repeat'((conv=>whnf);first|(intro hq;(try simp only[vw]at hq);try exact ak hq)|apply aI|exact aj|apply nM|apply fM)
 all_goals((try apply vM);(try simp only[vq]at*);try omega)
 all_goals(try contradiction)
 conv=>whnf
 refine aV (X:=Nat) (fun i=>i≤m) (fun i=>[(41,.int .i64 i),(12,.any),(13,.any),(15,.any),(10,Ce 5 i)]) (fun i=>Rt 5 i fun i=>.ints .i64 (cu w (rsM p f i))) (fun i=>m-i) 0 ⟨aL,mixed,av,hc,aU⟩ qqR qqO ?_ ?_
 ·all_goals exact aW
 intro i hi;cases i with
 |zero=>
  have hlen:=hl (0) qqO;have hsm:=hs (0) qqO
  repeat'((conv=>whnf);first|(intro hq;(try simp only[vw]at hq);try exact ak hq)|apply aI|exact aj|apply nM|apply fM)
  all_goals((try apply vM);(try simp only[vq]at*);try omega)
  conv=>whnf
  refine aV (X:=Nat) (fun t=>t≤w) (fun t=>[(47,.int .i64 t),(15,.any),(13,Ce 6 t)]) (fun t=>match t with|0=>[]|s+1=>[(6,.cells (.ints .i64 (cu (s+1) (rsM p f (0)))) false)]) (fun t=>w-t) 0 ⟨aL,mixed,av,hc,aU⟩ qqR qqO ?_ ?_
  ·all_goals exact E5
  intro t ht;cases t with
  |zero=>
   have hst:=hsm 0 qqO;all_goals exact Fa
  |succ t=>
   by_cases htw:t+1<w
   ·have hst:=hsm (t+1) htw
    have hml:anF (t+1-0) (anG 0 (cu (t+1) (rsM p f (0))))++[(f (0)).getD (t+1) 0 % p]=cu (t+1+1) (rsM p f (0)):=by
     rw[an0,aoJ,anZ (by rw[fC];omega)]
     exact FR (t+1) (rsM p f (0))
    all_goals exact Fb
   ·have:w=t+1:=qqO
    subst this
    repeat'((conv=>whnf);first|(intro hq;(try simp only[vw]at hq);try exact ak hq)|apply aI|exact aj|apply nM|apply fM)
    all_goals((try apply vM);(try simp only[vq]at*);try omega)
    all_goals first
     |exact fC _ _
     |exact .inr trivial
     |(refine⟨1,[(26,5)],⟨qqO,qqO⟩,?_⟩
       repeat'((conv=>whnf);first|intro _|apply aI|exact aj|apply nM|apply fM)
       all_goals((try apply vM);(try simp only[vq]at*);try omega)
       all_goals first
        |exact⟨fun _ _=>trivial,fun k hk _=>by rw[show k=0 by omega]⟩
        |exact⟨fun k _=>by split<;>rfl,fun k hk _=>by
         split
         ·rfl
         ·rw[show k=0 by omega]⟩
        )
     |(show _≤_;omega)
 |succ i=>
  by_cases hlt:i+1<m
  ·skip
   have hlen:=hl (i+1) qqO;have hsm:=hs (i+1) qqO
   repeat'((conv=>whnf);first|(intro hq;(try simp only[vw]at hq);try exact ak hq)|apply aI|exact aj|apply nM|apply fM)
   all_goals((try apply vM);(try simp only[vq]at*);try omega)
   conv=>whnf
   refine aV (X:=Nat) (fun t=>t≤w) (fun t=>[(47,.int .i64 t),(15,.any),(13,Ce 6 t)]) (fun t=>match t with|0=>[]|s+1=>[(6,.cells (.ints .i64 (cu (s+1) (rsM p f (i+1)))) false)]) (fun t=>w-t) 0 ⟨aL,mixed,av,hc,aU⟩ qqR qqO ?_ ?_
   ·all_goals exact E5
   intro t ht;cases t with
   |zero=>
    have hst:=hsm 0 qqO;all_goals exact Fa
   |succ t=>
    by_cases htw:t+1<w
    ·have hst:=hsm (t+1) htw
     have hml:anF (t+1-0) (anG 0 (cu (t+1) (rsM p f (i+1))))++[(f (i+1)).getD (t+1) 0 % p]=cu (t+1+1) (rsM p f (i+1)):=by
      rw[an0,aoJ,anZ (by rw[fC];omega)]
      exact FR (t+1) (rsM p f (i+1))
     all_goals exact Fb
    ·have:w=t+1:=qqO
     subst this
     repeat'((conv=>whnf);first|(intro hq;(try simp only[vw]at hq);try exact ak hq)|apply aI|exact aj|apply nM|apply fM)
     all_goals((try apply vM);(try simp only[vq]at*);try omega)
     all_goals first
      |exact fC _ _
      |exact .inr trivial
      |(refine⟨i+2,[(26,5)],⟨qqO,qqO⟩,?_⟩
        repeat'((conv=>whnf);first|intro _|apply aI|exact aj|apply nM|apply fM)
        all_goals((try apply vM);(try simp only[vq]at*);try omega)
        all_goals first
         |exact⟨fun _ _=>trivial,fun k hk _=>by rw[show k=0 by omega]⟩
         |exact⟨fun k _=>by split<;>rfl,fun k hk _=>by
          split
          ·rfl
          ·rw[show k=i+1 by omega]⟩
         )
      |(show _≤_;omega)
  ·have:m=i+1:=qqO
   subst this
   repeat'((conv=>whnf);first|(intro hq;(try simp only[vw]at hq);try exact ak hq)|apply aI|exact aj|apply nM|apply fM)
   all_goals((try apply vM);(try simp only[vq]at*);try omega)
   all_goals first|exact⟨fun _ _=>trivial,fun _ _ _=>trivial⟩|exact Sup.of rfl
abbrev qmI (m w:Nat) (D:bJ Int):AO:=.qmat m (fun _=>2) fun i=>.ints .i64 (cu w (D i))
theorem Y4 (m w:Nat) (D:bJ Int) (hm:1≤m∧m≤256):dH Tryz.prog 151 [.rsl 0 0 m] [qmI m w D] [.int .i64 (w:Int)] [qmI m w D]:=by
 refine dV (md:=1) (rf:=[]) mixed av aG 1 [] Tryz.func151 qqR qqR qqR ?_
 repeat'((conv=>whnf);first|(intro hq;(try simp only[vw]at hq);try exact ak hq)|apply aI|exact aj|apply nM|apply fM)
 all_goals((try apply vM);(try simp only[vq]at*);try omega)
 all_goals first|exact .inr trivial|exact⟨fun _ _=>trivial,fun _ _ _=>trivial⟩|(simp only[fC])|(show 0*_<m;rw[alu];omega)
theorem aeY {p:Int} (hp:PrI p) (f:Nat→List Int) (i j:Nat):InP p (rsM p f i j):=nk hp _
structure Y5 (m w:Nat) (f:Nat→List Int) (p:Int):Prop where
 hm:1≤m∧m≤256
 hw:1≤w∧w≤256
 ok:Rx m f
 e0:Y2 m f p=0
 hp:PrI p
 hl:∀i,i<m→(f i).length=w
 hs:∀i,i<m→∀j,j<w→ -999999999≤(f i).getD j 0∧(f i).getD j 0≤999999999
abbrev elM (m w:Nat) (f:Nat→List Int) (p:Int):ES Int:=aN (Fp p) w m (rsM p f) w
noncomputable def aj3 (m w:Nat) (f:Nat→List Int) (p:Int) (A B:LSp):CPT:=aB 149 (dQ [] (lq [tmI m f,.int .i64 p] [] [.rsl 0 0 m,.agg [.int .i64 p],.int .i64 0] [qmI m w (rsM p f)])) (aB 151 (dQ [] (lq [.rsl 0 0 m] [qmI m w (rsM p f)] [.int .i64 (w:Int)] [qmI m w (rsM p f)])) (aB 150 (dQ [] A) (aB 152 (dQ [] B) noC)))
theorem aeZ {m w:Nat} {f:Nat→List Int} {p:Int} (h:Y5 m w f p) {A B:LSp} (hA:LOK Tryz.prog 150 A) (hB:LOK Tryz.prog 152 B):bD Tryz.prog (aj3 m w f p A B):=
 au (bT [] (dA (Y3 m w f p h.hm h.hw h.ok h.e0 h.hp h.hl h.hs))) (au (bT [] (dA (Y4 m w _ h.hm))) (au (bT [] hA) (au (bT [] hB) aG)))
theorem Kn {g:FuncId}:LOK Tryz.prog g fun _ _ _=>False:=fun _ _ _ h=>h.elim
theorem Y6 (m w:Nat) (f:Nat→List Int) (p:Int) (h:Y5 m w f p) {k:Nat} (hk:(bK (elM m w f p).piv w).length=k+1):
 dH Tryz.prog 57 [tmI m f,.int .i64 p] [] [.rsl 0 0 (gP (Fp p) 0 1 w m (rsM p f)).piv.length,.int .i64 0] [.pmat (k+1) (fnI w (gP (Fp p) 0 1 w m (rsM p f)).M)]:=by
 have hB:=pR (pre:=[]) (post:=[]) (f:=fun _=>2) (c:=fun i=>.ints .i64 (cu w (rsM p f i))) (fnI w (rsM p f)) (fun i hi=>⟨rfl,gK.rfl' _⟩) (Vw h.hp h.hm h.hw (fun r _ j _=>aeY h.hp f r j) hk);have hc:=aeZ h Kn (dA hB);generalize gP (Fp p) 0 1 w m (rsM p f)=S2 at*
 refine dV (md:=1) (rf:=[]) mixed av hc 0 [(9,0)] Tryz.func57 qqR qqR qqR ?_
 repeat'((conv=>whnf);first|(intro hq;(try simp only[vw]at hq);try exact ak hq)|apply aI|exact aj|apply nM|apply fM)
 all_goals((try apply vM);(try simp only[vq]at*);try omega)
 all_goals first|rfl|exact fun _ _=>trivial
end Go.Eng.YtmkagljofpddpaaGreatDoor
namespace Go.Eng.YtmkagljofpddpaaGreatDoor
open Go.Proofs Go.Eng.Dig Go.Eng.Dec Go.Eng.Pm Go.Eng.ElG
set_option linter.unusedSimpArgs false
set_option linter.unusedVariables false
set_option maxHeartbeats 0
set_option maxRecDepth 100000
abbrev cM (q:Nat→Nat→Rat):bJ Fr:=fun i j=>can (q i j)
theorem Ko (m w:Nat) (q:Nat→Nat→Rat):fqM m w q=qmF m w (cM q):=by
 unfold fqM;simp only[Vl];rfl
structure jC (m w b:Nat) (q:Nat→Nat→Rat):Prop where
 hm:1≤m∧m≤256
 hw:w≤256
 hz:tJ m (qmL w q)=0
 hs:∀i,i<m→∀j,j<w→(txQ (q i j)).size≤1000000000
 hL:∀i,i<m→∀j,j<w→RL (q i j)≤b
 hB:Bd b m≤400000000
theorem jC.gl {m w b:Nat} {q:Nat→Nat→Rat} (h:jC m w b q):∀r,r<m→∀j,j<w→GL b 0 (cM q r j):=fun r hr j hj=>⟨dY _,by rw[l9];exact h.hL r hr j hj⟩
abbrev elQ (m w:Nat) (q:Nat→Nat→Rat):ES Rat:=aN Fq w m q w
theorem jC.hom {m w b:Nat} {q:Nat→Nat→Rat} (h:jC m w b q):
 (∀r,r<m→∀j,j<w→GL b m ((aN Ff w m (cM q) w).M r j)∧((aN Ff w m (cM q) w).M r j).val=(elQ m w q).M r j)∧(elQ m w q).piv=(aN Ff w m (cM q) w).piv∧(elQ m w q).odd=(aN Ff w m (cM q) w).odd∧(elQ m w q).heads=(aN Ff w m (cM q) w).heads.map Fr.val:=by
 obtain⟨h1,h2,h3,h4,_⟩:=jg (yC b) (M:=cM q) (M':=q) (fun r hr j hj=>⟨h.gl r hr j hj,dS _⟩) w (aku w);refine⟨fun r hr j hj=>⟨⟨(h1 r hr j hj).1.ok,aky (h1 r hr j hj).1.le (lM b (fE Ff w m (cM q) w).1)⟩,(h1 r hr j hj).2⟩,h2,h3,h4⟩
theorem GL.ft {b k:Nat} {x:Fr} (h:GL b k x) (hb:Bd b k≤400000000):FT x:=⟨h.ok,aky h.le qqO⟩
noncomputable def aj4 (m w:Nat) (q:Nat→Nat→Rat) (A B:LSp) (C:PSp):CPT:=aB 129 (dQ [] (lq [tmV m (qmL w q)] [] [.rsl 0 0 m,.int .i64 0] [qmF m w (cM q)])) (aB 157 (dQ [] (lq [.rsl 0 0 m] [qmF m w (cM q)] [.int .i64 (w:Int)] [qmF m w (cM q)])) (aB 131 (dQ [] A) (aB 159 (dQ [] B) (aB 158 (I6 C) noC))))
theorem Oh {m w b:Nat} {q:Nat→Nat→Rat} (h:jC m w b q) {A B:LSp} {C:PSp} (hA:LOK Tryz.prog 131 A) (hB:LOK Tryz.prog 159 B) (hC:POK Tryz.prog 158 C):bD Tryz.prog (aj4 m w q A B C):=
 au (bT [] (dA (by rw[←Ko];exact w9 m w q h.hm h.hw h.hs h.hz))) (au (bT [] (dA (zU m w _ h.hm))) (au (bT [] hA) (au (bT [] hB) (au (Tp hC) aG))))
theorem Y7 {S:ES Fr} {Sq:ES Rat} (hp:Sq.piv=S.piv) {m w:Nat} (hM:∀r,r<m→∀j,j<w→(S.M r j).OK∧(S.M r j).val=Sq.M r j) {c:Nat} (hc:c<w):∀t,t≤m→∀j,(fu Ff zFr oFr S c t j).val=fu Fq 0 1 Sq c t j:=by
 have hz:zFr.val=0:=by rw[yL,dS]
 have ho:oFr.val=1:=by rw[sI,dS]
 intro t;induction t with
 |zero=>
  intro _ j;show(if j=c then oFr else zFr).val=if j=c then(1:Rat)else 0;split
  ·exact ho
  ·exact hz
 |succ t ih=>
  intro ht j;show(if j=S.piv.getD t 0 then iB zFr (S.M t c)else fu Ff zFr oFr S c t j).val=if j=Sq.piv.getD t 0 then 0-Sq.M t c else fu Fq 0 1 Sq c t j;rw[hp];obtain⟨h1,h2⟩:=hM t qqO c hc;split
  ·rw[zG xu h1,hz,h2]
  ·exact ih qqO j
abbrev keQ (m w:Nat) (q:Nat→Nat→Rat):ES Rat:=gP Fq 0 1 w m q
def ahv (m w b:Nat):Prop:=Bd (kB b m) w≤400000000
theorem Y8 {m w b:Nat} {q:Nat→Nat→Rat} (h:jC m w b q) (hw1:1≤w) (hK:ahv m w b):aD Tryz.prog 70 [tmV m (qmL w q)] (mtR (keQ m w q).piv.length w (keQ m w q).M):=by
 obtain⟨h1,h2,h3,h4⟩:=h.hom;have hlen:=fE Ff w m (cM q) w;have hwB:=h.hw;have hBm:Bd b m≤1000000000:=aky h.hB qqD;have hfl:=jX (aN Ff w m (cM q) w).piv w;cases hk:(bK (aN Ff w m (cM q) w).piv w).length with
 |zero=>
  have hR:mtR (keQ m w q).piv.length w (keQ m w q).M=.tup [tmV 0 (qmL w (keQ m w q).M),.int .i64 0]:=by
   have:(keQ m w q).piv.length=0:=by
    unfold keQ gP;rw[h2,hk];exact Nat.le_zero.1 (fE _ _ _ _ _).1
   rw[this];rfl
  rw[hR];have hB:=pR (pre:=[]) (post:=[]) (f:=fun _=>2) (c:=fun i=>.recs 4 (rfL w (cM q i))) (fnM w (cM q)) (fun i hi=>⟨rfl,lu _ _⟩) (Ru h.hm ⟨hw1,hwB⟩ h.gl hBm hk);have hc:=Oh h Kn (dA hB) (yH Vz);refine ay (md:=1) (rf:=[]) mixed av hc Tryz.func70 qqR qqR qqR ?_
  repeat'((conv=>whnf);first|(intro hq;(try simp only[vw]at hq);try exact ak hq)|apply aI|exact aj|apply nM|apply fM)
  all_goals((try apply vM);(try simp only[vq]at*);try omega)
  all_goals first|rfl|exact zK rfl _|exact Sup.of rfl
 |succ k=>
  have hkB:Bd (kB b m) (k+1)≤400000000:=aky (lM _ qqO) hK;have hB:=pR (pre:=[]) (post:=[]) (f:=fun _=>2) (c:=fun i=>.recs 4 (rfL w (cM q i))) (fnM w (cM q)) (fun i hi=>⟨rfl,lu _ _⟩) (Vy h.hm ⟨hw1,hwB⟩ h.gl hBm hk (aky hkB qqD));have hIn:∀r,r<m→∀j,j<w→((aN Ff w m (cM q) w).M r j).OK∧((aN Ff w m (cM q) w).M r j).val=(elQ m w q).M r j:=fun r hr j hj=>⟨(h1 r hr j hj).1.ok,(h1 r hr j hj).2⟩;have hfm:∀r,r<k+1→(bK (aN Ff w m (cM q) w).piv w).getD r 0<w:=fun r hr=>by
   have:(bK (aN Ff w m (cM q) w).piv w).getD r 0∈bK (aN Ff w m (cM q) w).piv w:=by
    rw[akG,akL qqO];exact aoD _
   exact(ru.1 this).1
  have hKin:∀r,r<k+1→∀j,j<w→GL (kB b m) 0 (kP Ff zFr oFr (aN Ff w m (cM q) w) w r j)∧(kP Ff zFr oFr (aN Ff w m (cM q) w) w r j).val=kP Fq 0 1 (elQ m w q) w r j:=fun r hr j hj=>by
   refine⟨Od (fun r hr j hj=>(h1 r hr j hj).1) (hfm r hr) _ qqO j,?_⟩;unfold kP;rw[h2];exact Y7 h2 hIn (hfm r hr) _ qqO j
  obtain⟨g1,g2,g3,g4,_⟩:=jg (yC (kB b m)) hKin w (aku w);have hE:aN Ff w (k+1) (kP Ff zFr oFr (aN Ff w m (cM q) w) w) w=gP Ff zFr oFr w m (cM q):=by unfold gP;rw[hk]
  have hEq:aN Fq w (k+1) (kP Fq 0 1 (elQ m w q) w) w=keQ m w q:=by unfold keQ gP;rw[h2,hk]
  have hl2:=fE Ff w (k+1) (kP Ff zFr oFr (aN Ff w m (cM q) w) w) w;rw[hE,hEq]at g1 g2;rw[hE]at hl2;have hM:=aeU (gP Ff zFr oFr w m (cM q)).piv.length w (gP Ff zFr oFr w m (cM q)).M (keQ m w q).M qqO qqO (fun i hi j hj=>(GL.mk (g1 i qqO j hj).1.ok (aky (g1 i qqO j hj).1.le (lM _ hl2.1)):GL (kB b m) (k+1) _).ft hkB) (fun i hi j hj=>(g1 i qqO j hj).2);have hc:=Oh h Kn (dA hB) (yH hM);have hle:=hl2.1;rw[g2];generalize(keQ m w q).M=Q at*
  clear h1 h2 h3 h4 g1 g2 g3 g4 hKin hIn hE hEq hM hB;generalize gP Ff zFr oFr w m (cM q)=S2 at*
  refine ay (md:=1) (rf:=[]) mixed av hc Tryz.func70 qqR qqR qqR ?_
  repeat'((conv=>whnf);first|(intro hq;(try simp only[vw]at hq);try exact ak hq)|apply aI|exact aj|apply nM|apply fM)
  all_goals((try apply vM);(try simp only[vq]at*);try omega)
  all_goals first|rfl|omega|exact Sup.of rfl
theorem Ci (w:Nat) (q:Nat→Rat) (hw:w≤1000000) (hq:∀i,i<w→(txQ (q i)).size≤1000000000):aD Tryz.prog 172 [stV (qsL w q)] (frL w fun i=>can (q i)):=
 jc (Gj (FP w q hw hq) (by simp[fqL]) (J9 _ _)) (YA (lu w fun i=>can (q i)) _)
def pdF (f g:Nat→Fr):Nat→Fr
 |0=>zFr
 |t+1=>kN (pdF f g t) (can ((f t).val*(g t).val))
def pdV (f g:Nat→Rat):Nat→Rat
 |0=>0
 |t+1=>pdV f g t+f t*g t
theorem zV:zFr=can 0:=rfl
theorem abu:zFr.L=RL 0:=by rw[zV,l9]
theorem D7:RL 0=1:=qqV
theorem Kq {n:Nat} {f g:Nat→Fr}:∀t,t≤n→(pdF f g t).OK∧(pdF f g t).val=pdV (fun i=>(f i).val) (fun i=>(g i).val) t:=by
 intro t;induction t with
 |zero=>exact fun _=>⟨by show zFr.OK;rw[zV];exact dY _,by show zFr.val=0;rw[zV,dS]⟩
 |succ t ih=>
  intro ht;obtain⟨h1,h2⟩:=ih qqO;have h3:=dY ((f t).val*(g t).val);refine⟨Nr h1 h3,?_⟩;show(kN _ _).val=_+_;rw[zF h1 h3,dS,h2]
theorem abv {n B:Nat} {f g:Nat→Fr} (h:∀i,i<n→(f i).L+(g i).L+1≤B):∀t,t≤n→(pdF f g t).L≤1+t*B:=by
 intro t;induction t with
 |zero=>intro _;show zFr.L≤_;rw[abu,D7];omega
 |succ t ih=>
  intro ht;obtain⟨h1,h2⟩:=Kq (n:=n) (f:=f) (g:=g) t qqO;have h3:=dY ((f t).val*(g t).val);have h4:=ih qqO;have h5:=qZ (f t) (g t);have h6:=h t qqO;show(kN _ _).L≤_;unfold Fr.L;rw[zF h1 h3];have h7:=UA (pdF f g t).val (can ((f t).val*(g t).val)).val;unfold Fr.L at h4 h5 h6;rw[akt];omega
noncomputable def aj5:CPT:=aB 132 (aR ffP) (aB 133 (aR BN) (aB 181 (aR QS) noC))
theorem Oi:bD Tryz.prog aj5:=au (aF BM) (au (aF yB) (au (aF Nw) aG))
theorem VF (n:Nat) (f g:Nat→Fr) (hn:n≤1000000) {B:Nat} (hf:∀i,i<n→FB (f i)∧FB (g i)∧(f i).L+(g i).L+1≤B) (hB:1+n*B≤10000000000):aD Tryz.prog 173 [frL n f,frL n g] (frV (pdF f g n)):=by
 have hok:=fun t ht=>(Kq (n:=n) (f:=f) (g:=g) t ht).1;have hL:=abv (n:=n) (f:=f) (g:=g) fun i hi=>(hf i hi).2.2;have hFB:∀t,t≤n→FB (pdF f g t):=fun t ht=>⟨hok t ht,by
  have h1:=hL t ht;have h2:t*B≤n*B:=ak6 _ ht;omega⟩
 have hm:∀i,i<n→FB (can ((f i).val*(g i).val)):=fun i hi=>⟨dY _,by
  have h1:=(hf i hi).2.2;have h2:=qZ (f i) (g i);have h3:1*B≤n*B:=ak6 _ qqO;omega⟩
 refine ay (md:=1) (rf:=[]) mixed av Oi Tryz.func173 qqR qqR qqR ?_
 repeat'((conv=>whnf);first|(intro hq;(try simp only[vw]at hq);try exact ak hq)|apply aI|exact aj|apply nM|apply fM)
 all_goals((try apply vM);(try simp only[vq]at*);try omega)
 conv=>whnf
 refine aV (X:=Nat) (fun i=>i≤n) (fun i=>[(10,.int .i64 i),(6,.any)]) (fun i=>[(5,.cells (.pv (frC (pdF f g i))) false)]) (fun i=>n-i) 0 ⟨aL,mixed,av,Oi,aU⟩ qqR qqO ?_ ?_
 ·all_goals exact jT
 intro i hi;by_cases hlt:i<n
 ·have e1:=hf i hlt
  have e2:=hFB i hi;have e3:=hm i hlt;have e4:pdF f g (i+1)=kN (pdF f g i) (can ((f i).val*(g i).val)):=rfl;generalize pdF f g i=a at*
  repeat'((conv=>whnf);first|(intro hq;(try simp only[vw]at hq);try exact ak hq)|apply aI|exact aj|apply nM|apply fM)
  all_goals((try apply vM);(try simp only[vq]at*);try omega)
  all_goals(try simp only[cO])
  all_goals first
   |omega
   |exact⟨e1.1,e1.2.1⟩
   |exact⟨e2,e3⟩
   |rfl
   |(refine⟨i+1,[],⟨qqO,qqO⟩,?_⟩
     rw[e4];all_goals exact jT)
 ·have:i=n:=qqO
  subst this;all_goals exact pU
def auM (w:Nat) (D:bJ Fr) (v:Nat→Fr):bJ Fr:=fun i j=>if j=w then v i else D i j
def auQ (w:Nat) (q:Nat→Nat→Rat) (v:Nat→Rat):Nat→Nat→Rat:=fun i j=>if j=w then v i else q i j
theorem ae0 (w:Nat) (f:Nat→Fr) (x:Fr):rfL w f++[frC x]=rfL (w+1) (fun j=>if j=w then x else f j):=by
 unfold rfL;rw[anX,anS];refine congr (congrArg _ (amE fun j hj=>?_)) ?_
 ·have:=amn.1 hj
  show frC (f j)=frC (if j=w then x else f j);rw[if_neg qqO]
 ·simp
structure mg (m b:Nat) (v:Nat→Rat):Prop where
 hz:zM (qsL m v)=0
 hs:∀i,i<m→(txQ (v i)).size≤1000000000
 hL:∀i,i<m→RL (v i)≤b
theorem mg.rw {m b:Nat} {v:Nat→Rat} (hm:m≤256) (h:mg m b v):Rj (qsL m v):=⟨by rw[gI];omega,fun i hi=>by rw[gI]at hi;rw[sw _ hi];exact h.hs i hi⟩
noncomputable def ahw (m w:Nat) (q:Nat→Nat→Rat) (v:Nat→Rat):CPT:=aB 129 (dQ [] (lq [tmV m (qmL w q)] [] [.rsl 0 0 m,.int .i64 0] [qmF m w (cM q)])) (aB 113 (aP qp) (aB 114 (aP l7) (iy 161 [stV (qsL m v)] (.int .i64 0) (iy 172 [stV (qsL m v)] (frL m fun i=>can (v i)) noC))))
theorem ae1 {m w b:Nat} {q:Nat→Nat→Rat} {v:Nat→Rat} (h:jC m w b q) (hv:mg m b v):bD Tryz.prog (ahw m w q v):=
 au (bT [] (dA (by rw[←Ko];exact w9 m w q h.hm h.hw h.hs h.hz))) (au (aC iL) (au (aC iV) (bM (by have:=wZ _ (hv.rw h.hm.2);rw[hv.hz]at this;exact this) (bM (Ci m v (by have:=h.hm;omega) hv.hs) aG))))
def auT (w:Nat) (D:bJ Fr) (v:Nat→Fr) (t:Nat) (i:Nat):CL:=.recs 4 (if i<t then rfL (w+1) (auM w D v i)else rfL w (D i))
theorem Kr {m w b:Nat} {q:Nat→Nat→Rat} {v:Nat→Rat} (h:jC m w b q) (hv:mg m b v):
 dH Tryz.prog 169 [tmV m (qmL w q),stV (qsL m v)] [] [.rsl 0 0 m,.int .i64 0] [qmF m (w+1) (auM w (cM q) fun i=>can (v i))]:=by
 have hc:=ae1 h hv;have hmB:=h.hm;have hwB:=h.hw;have hlen:=gI m v;unfold ahw at hc;generalize qsL m v=l at*
 obtain⟨V,hV⟩:∃V:Nat→Fr,(fun i=>can (v i))=V:=⟨_,rfl⟩;have hcV:(frL m fun i=>can (v i))=frL m V:=by rw[←hV]
 rw[hV];rw[hcV]at hc;generalize cM q=D at*
 refine dV (md:=1) (rf:=[5046]) mixed av hc 0 [(0,0)] Tryz.func169 qqR qqR qqR ?_
 repeat'((conv=>whnf);first|(intro hq;(try simp only[vw]at hq);try exact ak hq)|apply aI|exact aj|apply nM|apply fM)
 all_goals((try apply vM);(try simp only[vq]at*);try omega)
 all_goals first|rfl|omega|exact Sup.of rfl|(exfalso;simp_all[dG];done)|(exfalso;simp_all[dG];omega)|skip
 conv=>whnf
 refine aV (X:=Nat) (fun i=>i≤m) (fun i=>[(36,.int .i64 i),(9,.any),(10,.any)]) (fun i=>[(0,.qmat m (fun _=>2) (auT w D V i))]) (fun i=>m-i) 0 ⟨aL,mixed,av,hc,aU⟩ qqR qqO ?_ ?_
 ·repeat'((conv=>whnf);first|intro _|apply aI|exact aj|apply nM|apply fM)
  all_goals((try apply vM);(try simp only[vq]at*);try omega)
  all_goals first|exact⟨fun _ _=>trivial,fun _ _ _=>rfl⟩|rfl
 intro i hi;by_cases hlt:i<m
 ·have e1:auT w D V i i=.recs 4 (rfL w (D i)):=by unfold auT;rw[if_neg qqO]
  have e2:rfL w (D i)++[frC (V i)]=rfL (w+1) (auM w D V i):=by rw[ae0];rfl
  have e3:∀k,k<m→k≠i→auT w D V (i+1) k=auT w D V i k:=fun k hk hne=>by
   unfold auT;by_cases h1:k<i
   ·rw[if_pos h1,if_pos qqO]
   ·rw[if_neg h1,if_neg qqO]
  have e4:auT w D V (i+1) i=.recs 4 (rfL (w+1) (auM w D V i)):=by unfold auT;rw[if_pos qqO]
  have e5:(rfL w (D i)).length=w:=iE _ _;have e6:chunks qL.size 1 (frC (V i))=[frC (V i)]:=rfl
  repeat'((conv=>whnf);first|(intro hq;(try simp only[vw]at hq);try exact ak hq)|apply aI|exact aj|apply nM|apply fM)
  all_goals((try apply vM);(try simp only[vq]at*);try omega)
  all_goals(try simp only[eF,akZ,aoF,if_false,e5,e6,alQ,akq,akm])
  all_goals first
   |omega
   |rfl
   |exact .inr trivial
   |(simp only[eF,akZ]at hq;unfold bA at hq;rw[if_pos rfl]at hq;omega)
   |(refine⟨i+1,[],⟨qqO,qqO⟩,?_⟩
     repeat'((conv=>whnf);first|intro _|apply aI|exact aj|apply nM|apply fM)
     all_goals((try apply vM);(try simp only[vq]at*);try omega)
     all_goals(try simp only[eF,akZ,aoF,if_false,e6])
     all_goals first
      |exact⟨fun k _=>by unfold bA;(repeat' split)<;>rfl,fun k hk _=>by
       by_cases h1:k=i
       ·subst h1
        rw[e4,←e2];unfold bA;rw[if_pos rfl]
       ·rw[e3 k hk h1]
        unfold bA;rw[if_neg h1]⟩
      |rfl
      )
 ·have:i=m:=qqO
  subst this
  repeat'((conv=>whnf);first|(intro hq;(try simp only[vw]at hq);try exact ak hq)|apply aI|exact aj|apply nM|apply fM)
  all_goals((try apply vM);(try simp only[vq]at*);try omega)
  all_goals first
   |omega
   |exact⟨fun _ _=>trivial,fun k hk _=>by unfold auT;rw[if_pos hk]⟩
def dtF (H:List Fr):Nat→Fr
 |0=>oFr
 |t+1=>can ((dtF H t).val*(H.getD t zFr).val)
def dtV (H:List Rat):Nat→Rat
 |0=>1
 |t+1=>dtV H t*H.getD t 0
theorem ahx (H:List Fr):∀t,(dtF H t).OK
 |0=>Vx
 |t+1=>dY _
theorem D8:zFr.val=0:=by rw[yL,dS]
theorem Oj:oFr.val=1:=by rw[sI,dS]
theorem ae2 (H:List Fr) (t:Nat):(dtF H t).val=dtV (H.map Fr.val) t:=by
 induction t with
 |zero=>exact Oj
 |succ t ih=>
  show(can ((dtF H t).val*(H.getD t zFr).val)).val=dtV (H.map Fr.val) t*(H.map Fr.val).getD t 0;rw[dS,ih];congr 1;rw[akG,akG,alJ];cases H[t]? with
  |none=>exact D8
  |some x=>rfl
theorem aiG {H:List Fr} {B:Nat} (h:∀x,x∈H→x.L≤B):∀t,t≤H.length→(dtF H t).L≤1+t*B:=by
 intro t;induction t with
 |zero=>intro _;show oFr.L≤1+0*B;have:oFr.L=1:=by rw[sI,l9];decide+kernel
        omega
 |succ t ih=>
  intro ht;have h1:=ih qqO;have h2:=qZ (dtF H t) (H.getD t zFr);have h3:(H.getD t zFr).L≤B:=h _ (by rw[akG,akL qqO];exact aoD _)
  show(can _).L≤_;rw[akt];omega
theorem Kt {m w:Nat} {q:Nat→Nat→Rat} (hm:1≤m):wdt m (qmL w q)=w:=by
 unfold wdt;rw[if_neg qqO];exact gI _ _
noncomputable def aj6 (m w:Nat) (q:Nat→Nat→Rat) (A:LSp):CPT:=aB 129 (dQ [] (lq [tmV m (qmL w q)] [] [.rsl 0 0 m,.int .i64 0] [qmF m w (cM q)])) (aB 131 (dQ [] A) (iy 130 [tmV m (qmL w q)] (.int .i64 (w:Nat)) (aB 113 (aP qp) (aB 114 (aP l7) (aB 132 (aR ffP) (aB 133 (aR BN) (aB 134 (aR QN) (aB 111 (aR GZ) noC))))))))
theorem Ea {m w b:Nat} {q:Nat→Nat→Rat} (h:jC m w b q):Rm m (qmL w q):=⟨by have:=h.hm;omega,fun i hi=>⟨by unfold qmL;rw[gI];have:=h.hw;omega,fun j hj=>by unfold qmL at hj⊢;rw[gI]at hj;rw[sw _ hj];exact h.hs i hi j hj⟩⟩
theorem ae3 {m w b:Nat} {q:Nat→Nat→Rat} (h:jC m w b q) {A:LSp} (hA:LOK Tryz.prog 131 A):bD Tryz.prog (aj6 m w q A):=
 au (bT [] (dA (by rw[←Ko];exact w9 m w q h.hm h.hw h.hs h.hz))) (au (bT [] hA) (bM (by have:=uJ m (qmL w q) (Ea h);rw[Kt h.hm.1]at this;exact this) (au (aC iL) (au (aC iV) (au (aF BM) (au (aF yB) (au (aF Nu) (au (aF DT) aG))))))))
def deQ (m:Nat) (q:Nat→Nat→Rat):Rat:=if(elQ m m q).piv.length<m then 0 else if(elQ m m q).odd=true then-dtV (elQ m m q).heads m else dtV (elQ m m q).heads m
theorem Y9 {m b:Nat} {q:Nat→Nat→Rat} (h:jC m m b q) (hB:m*Bd b m≤400000000):aD Tryz.prog 33 [tmV m (qmL m q)] (.tup [.str (rsS (deQ m q)),.int .i64 (rsE (deQ m q))]):=by
 have hA:=uL (m:=m) (w:=m) (cols:=m) (M0:=cM q) h.hm (by have:=h.hw;omega) (aku m) h.gl (aky h.hB qqD)
 obtain⟨h1,h2,h3,h4,h5⟩:=jg (yC b) (M:=cM q) (M':=q) (fun r hr j hj=>⟨h.gl r hr j hj,dS _⟩) m (aku m);obtain⟨l1,l2,l3⟩:=fE Ff m m (cM q) m;have hc:=ae3 h (dA hA);unfold deQ;rw[show(elQ m m q).piv=(aN Ff m m (cM q) m).piv from h2,show(elQ m m q).odd=(aN Ff m m (cM q) m).odd from h3,show(elQ m m q).heads=(aN Ff m m (cM q) m).heads.map Fr.val from h4];have hH:∀x,x∈(aN Ff m m (cM q) m).heads→x.OK∧x.L≤Bd b m:=fun x hx=>by
  obtain⟨k,hk,hg,_⟩:=h5 x hx;exact⟨hg.ok,aky hg.le (lM b qqO)⟩
 clear h1 h2 h3 h4 h5;generalize aN Ff m m (cM q) m=S at*
 have hP:(pvI S.piv).length=S.piv.length:=by simp[pvI]
 have hmB:=h.hm;have hd0:rsS 0=⟨#[48]⟩∧rsE 0=0:=by constructor<;>decide+kernel
 generalize hp:pvI S.piv=P at*
 by_cases hlt:S.piv.length<m
 ·rw[if_pos hlt,hd0.1,hd0.2]
  refine ay (md:=1) (rf:=[]) mixed av hc Tryz.func33 qqR qqR qqR ?_
  repeat'((conv=>whnf);first|(intro hq;(try simp only[vw]at hq);try exact ak hq)|apply aI|exact aj|apply nM|apply fM)
  all_goals((try apply vM);(try simp only[vq]at*);try omega)
  all_goals first|rfl|omega|exact Sup.of rfl|(exfalso;simp_all[dG];done)|(exfalso;simp_all[dG];omega)
 ·rw[if_neg hlt]
  have hPm:P.length=m:=qqO;have hHm:S.heads.length=m:=qqO;obtain⟨SM,Sp,H,odd⟩:=S;simp only at*;have hLm:(H.map frC).length=m:=by rw[aoE,hHm]
  have hg:∀t,t<m→(CL.recs 4 (H.map frC)).rcd t=frC (H.getD t zFr):=fun t ht=>by
   show(H.map frC).getD t []=_;rw[akG,akG,alJ,akL qqO];rfl
  have hx:∀t,t<m→FB (H.getD t zFr):=fun t ht=>by
   have:=hH (H.getD t zFr) (by rw[akG,akL qqO];exact aoD _)
   have h2:=h.hB;exact⟨this.1,qqO⟩
  have hdL:∀t,t≤m→(dtF H t).OK∧(dtF H t).L≤400000001:=fun t ht=>⟨ahx H t,by
   have h1:=aiG (B:=Bd b m) (fun x hx=>(hH x hx).2) t qqO;have h2:t*Bd b m≤m*Bd b m:=ak6 _ ht;omega⟩
  have hfb:∀t,t≤m→FB (dtF H t):=fun t ht=>⟨(hdL t ht).1,by have:=(hdL t ht).2;omega⟩
  have hft:FT (dtF H m):=⟨(hdL m qqO).1,by have:=(hdL m qqO).2;omega⟩
  have hng:(dtF H m).OK∧(dtF H m).L≤100000000000:=⟨hft.1,by have:=(hdL m qqO).2;omega⟩
  have hft2:FT (can (-(dtF H m).val)):=⟨dY _,by rw[l9,JB];have:=(hdL m qqO).2;unfold Fr.L at this;omega⟩
  rw[←ae2];generalize hL:H.map frC=L at*
  clear hH hL;cases odd
  all_goals(
   simp only[als,if_false,if_true];refine ay (md:=1) (rf:=[]) mixed av hc Tryz.func33 qqR qqR qqR ?_
   repeat'((conv=>whnf);first|(intro hq;(try simp only[vw]at hq);try exact ak hq)|apply aI|exact aj|apply nM|apply fM)
   all_goals((try apply vM);(try simp only[vq]at*);try omega)
   all_goals first|rfl|omega|exact Sup.of rfl|(exfalso;simp_all[dG];done)|(exfalso;simp_all[dG];omega)|skip
   conv=>whnf
   refine aV (X:=Nat) (fun t=>t≤m) (fun t=>[(42,.int .i64 t),(9,.any)]) (fun t=>[(26,.cells (.pv (frC (dtF H t))) false)]) (fun t=>m-t) 0 ⟨aL,mixed,av,hc,aU⟩ qqR qqO ?_ ?_
   ·all_goals exact pW
   intro t ht;have hfbt:=hfb t ht;by_cases hlt2:t<m
   ·have e4:dtF H (t+1)=can ((dtF H t).val*(H.getD t zFr).val):=rfl
    have hgt:=hg t hlt2;have hxt:=hx t hlt2;generalize dtF H t=a at*
    repeat'((conv=>whnf);first|(intro hq;(try simp only[vw]at hq);try exact ak hq)|apply aI|exact aj|apply nM|apply fM)
    all_goals((try apply vM);(try simp only[vq]at*);try omega)
    all_goals first
     |omega
     |(rw[hgt];rfl)
     |skip
    conv=>whnf
    simp only[amI];rw[hgt]
    repeat'((conv=>whnf);first|(intro hq;(try simp only[vw]at hq);try exact ak hq)|apply aI|exact aj|apply nM|apply fM)
    all_goals((try apply vM);(try simp only[vq]at*);try omega)
    all_goals(try simp only[cO])
    all_goals first
     |omega
     |rfl
     |exact⟨hfbt,hxt⟩
     |(refine⟨t+1,[],⟨qqO,qqO⟩,?_⟩
       rw[e4];all_goals exact pW)
   ·have:t=m:=qqO
    subst this
    repeat'((conv=>whnf);first|(intro hq;(try simp only[vw]at hq);try exact ak hq)|apply aI|exact aj|apply nM|apply fM)
    all_goals((try apply vM);(try simp only[vq]at*);try omega)
    all_goals(try simp only[cO,dS]at*)
    all_goals first
     |omega
     |exact hft
     |exact hft2
     |exact hng
     |exact Sup.of rfl
     )
def Za (w:Nat) (q:Nat→Rat):List ByteArray:=if uM w q=true then []else qsL w q
def Ry (w:Nat) (q:Nat→Rat):Int:=if uM w q=true then 4 else 0
def Ku (w:Nat) (q:Nat→Rat):PV:=.tup [stV (Za w q),.int .i64 (Ry w q)]
theorem ae4 (w:Nat) (f:Nat→Fr) (q:Nat→Rat) (hw:w≤1000000) (hf:∀i,i<w→FT (f i)) (hv:∀i,i<w→(f i).val=q i):aD Tryz.prog 171 [frL w f] (Ku w q):=by
 have h:=J7 w f hw hf;unfold rwR at h;rw[zT hv,VA hv]at h;unfold Ku Za Ry;cases hl:uM w q
 ·rw[hl,if_neg qqS]at h
  simpa using h
 ·rw[hl,if_pos rfl]at h
  simpa using h
theorem ahy (w:Nat) (f:Nat→Fr) (q:Nat→Rat) (hw:w≤1000000) (hf:∀i,i<w→FT (f i)) (hv:∀i,i<w→(f i).val=q i):aD Tryz.prog 171 [.isl (.recs 4 (rfL w f)) .none] (Ku w q):=
 cK (ys:=[frL w f]) (fun S wd vs hA=>⟨hA.1,fun i hi=>by
  have:=hA.2 i hi
  match i,hi with
  |0,_=>exact jB (lu w f) this⟩) (ae4 w f q hw hf hv)
def svF (S:ES Fr) (w:Nat):Nat→Nat→Fr
 |0=>fun _=>zFr
 |t+1=>fun j=>if j=S.piv.getD t 0 then S.M t w else svF S w t j
def svQ (S:ES Rat) (w:Nat):Nat→Nat→Rat
 |0=>fun _=>0
 |t+1=>fun j=>if j=S.piv.getD t 0 then S.M t w else svQ S w t j
abbrev slQ (m w:Nat) (q:Nat→Nat→Rat) (v:Nat→Rat):ES Rat:=aN Fq (w+1) m (auQ w q v) (w+1)
theorem Rz {m w b:Nat} {q:Nat→Nat→Rat} {v:Nat→Rat} (h:jC m w b q) (hv:mg m b v):∀r,r<m→∀j,j<w+1→GL b 0 (auM w (cM q) (fun i=>can (v i)) r j)∧(auM w (cM q) (fun i=>can (v i)) r j).val=auQ w q v r j:=fun r hr j hj=>by
 unfold auM auQ;by_cases e:j=w
 ·rw[if_pos e,if_pos e]
  exact⟨⟨dY _,by rw[l9];exact hv.hL r hr⟩,dS _⟩
 ·rw[if_neg e,if_neg e]
  exact⟨h.gl r hr j qqO,dS _⟩
noncomputable def ahz (m w:Nat) (q:Nat→Nat→Rat) (v:Nat→Rat) (A:LSp) (C:PSp):CPT:=aB 169 (dQ [] (lq [tmV m (qmL w q),stV (qsL m v)] [] [.rsl 0 0 m,.int .i64 0] [qmF m (w+1) (auM w (cM q) fun i=>can (v i))])) (iy 130 [tmV m (qmL w q)] (.int .i64 (w:Nat)) (aB 157 (dQ [] (lq [.rsl 0 0 m] [qmF m (w+1) (auM w (cM q) fun i=>can (v i))] [.int .i64 ((w+1:Nat):Int)] [qmF m (w+1) (auM w (cM q) fun i=>can (v i))])) (aB 131 (dQ [] A) (aB 132 (aR ffP) (aB 170 (dQ [] (lq [.isl (.recs 4 [frC zFr]) .none,.int .i64 (w:Int)] [] [.rsc 0 4 w] [.rowo (.recs 4 (akP w (frC zFr)))])) (aB 171 (Tq C) noC))))))
theorem ae5 {m w b:Nat} {q:Nat→Nat→Rat} {v:Nat→Rat} (h:jC m w b q) (hv:mg m b v) (hw:1≤w) {A:LSp} {C:PSp} (hA:LOK Tryz.prog 131 A) (hC:POK Tryz.prog 171 C):bD Tryz.prog (ahz m w q v A C):=
 au (bT [] (dA (Kr h hv))) (bM (by have:=uJ m (qmL w q) (Ea h);rw[Kt h.hm.1]at this;exact this) (au (bT [] (dA (zU m (w+1) _ h.hm))) (au (bT [] hA) (au (aF BM) (au (bT [] (dA (FQ (frC zFr) w ⟨hw,by have:=h.hw;omega⟩ qqR qqR))) (au (Tt hC) aG))))))
theorem ae6 {S:ES Fr} {Sq:ES Rat} (hp:Sq.piv=S.piv) {w m:Nat} (hM:∀r,r<m→(S.M r w).val=Sq.M r w):∀t,t≤m→∀j,(svF S w t j).val=svQ Sq w t j:=by
 intro t;induction t with
 |zero=>intro _ j;exact D8
 |succ t ih=>
  intro ht j;show(if j=S.piv.getD t 0 then S.M t w else svF S w t j).val=if j=Sq.piv.getD t 0 then Sq.M t w else svQ Sq w t j;rw[hp];split
  ·exact hM t qqO
  ·exact ih qqO j
theorem ahA {S:ES Fr} {w m:Nat} (hM:∀r,r<m→FT (S.M r w)):∀t,t≤m→∀j,FT (svF S w t j):=by
 intro t;induction t with
 |zero=>intro _ j;exact⟨xu,by rw[show svF S w 0 j=zFr from rfl,abu,D7];omega⟩
 |succ t ih=>
  intro ht j;show FT (if j=S.piv.getD t 0 then S.M t w else svF S w t j);split
  ·exact hM t qqO
  ·exact ih qqO j
theorem ae7 (w:Nat) (f:Nat→Fr):(CL.recs 4 (rfL w f)).sub 0 w=.recs 4 (rfL w f):=by
 have:=iE w f;simp only[CL.sub];rw[an0,anZ qqO]
theorem Zb {m w b:Nat} {q:Nat→Nat→Rat} {v:Nat→Rat} (h:jC m w b q) (hv:mg m b v) (hw:1≤w) (hin:w∉(slQ m w q v).piv):
 aD Tryz.prog 93 [tmV m (qmL w q),stV (qsL m v)] (Ku w (svQ (slQ m w q v) w (slQ m w q v).piv.length)):=by
 have hmB:=h.hm;have hwB:=h.hw;have hgl:=Rz h hv;have hA:=uL (m:=m) (w:=w+1) (cols:=w+1) (M0:=auM w (cM q) fun i=>can (v i)) h.hm qqO (aku _) (fun r hr j hj=>(hgl r hr j hj).1) (aky h.hB qqD);obtain⟨h1,h2,h3,h4,_⟩:=jg (yC b) hgl (w+1) (aku _);obtain⟨l1,l2,l3⟩:=fE Ff (w+1) m (auM w (cM q) fun i=>can (v i)) (w+1);have hpv:=xg Ff (w+1) m (auM w (cM q) fun i=>can (v i)) (w+1);have hft:∀r,r<m→FT ((aN Ff (w+1) m (auM w (cM q) fun i=>can (v i)) (w+1)).M r w):=fun r hr=>GL.ft (b:=b) (k:=m) ⟨(h1 r hr w qqO).1.ok,aky (h1 r hr w qqO).1.le (lM b l1)⟩ h.hB;have hC:=ahy w (svF (aN Ff (w+1) m (auM w (cM q) fun i=>can (v i)) (w+1)) w (aN Ff (w+1) m (auM w (cM q) fun i=>can (v i)) (w+1)).piv.length) (svQ (slQ m w q v) w (aN Ff (w+1) m (auM w (cM q) fun i=>can (v i)) (w+1)).piv.length) qqO (fun j _=>ahA hft _ l1 j) (fun j _=>ae6 h2 (fun r hr=>(h1 r hr w qqO).2) _ l1 j);have hc:=ae5 h hv hw (dA hA) (yH hC);rw[h2]at hin⊢;generalize Ry w=RX at*
 clear h1 h3 h4 hgl hft hA hC;generalize svQ (slQ m w q v) w (aN Ff (w+1) m (auM w (cM q) fun i=>can (v i)) (w+1)).piv.length=xq at*
 clear h2;unfold ahz at hc;generalize(auM w (cM q) fun i=>can (v i))=AU at*
 generalize aN Ff (w+1) m AU (w+1)=S at*
 have hmin:min ((w:Int)+1) ((w+1:Nat):Int)=((w+1:Nat):Int):=qqO;have hP:(pvI S.piv).length=S.piv.length:=by simp[pvI]
 refine ay (md:=1) (rf:=[]) mixed av hc Tryz.func93 qqR qqR qqR ?_
 repeat'((conv=>whnf);first|(intro hq;(try simp only[vw]at hq);try exact ak hq)|apply aI|exact aj|apply nM|apply fM)
 all_goals((try apply vM);(try simp only[vq]at*);try omega)
 all_goals first|rfl|omega|exact⟨rfl,rfl⟩|(rw[hmin];exact⟨rfl,rfl⟩)|(rw[hmin])|exact Sup.of rfl|skip
 conv=>whnf
 refine Bt 0 qqR fun l g hl hnd hg=>?_;conv=>whnf
 refine abR ⟨aL,mixed,av,hc,aU⟩ 22 qqR ?_;conv=>whnf
 refine aV (X:=Nat) (fun t=>t≤S.piv.length) (fun t=>[(39,.int .i64 t),(11,.any),(12,.any)]) (fun t=>[(22,.cells (.recs 4 (rfL w (svF S w t))) false)]) (fun t=>S.piv.length-t) 0 ⟨aL,mixed,av,hc,aU⟩ qqR qqO ?_ ?_
 ·repeat'((conv=>whnf);first|intro _|apply aI|exact aj|apply nM|apply fM)
  all_goals((try apply vM);(try simp only[vq]at*);try omega)
  all_goals first|exact⟨zS w,by rw[zS];exact lS _ _⟩|exact lS _ _|exact⟨rfl,lS _ _⟩|exact fun _ _=>trivial|exact⟨fun _ _=>trivial,fun _ _ _=>trivial⟩
 intro t ht;by_cases htl:t<S.piv.length
 ·have hgt:=hg t qqO
  have ht1:(pvI S.piv).getD t 0=((S.piv.getD t 0:Nat):Int):=by simp[pvI,akG,htl]
  have ht3:S.piv.getD t 0∈S.piv:=by rw[akG,akL htl];exact aoD _
  have ht2:S.piv.getD t 0<w:=by
   have h1:=hpv _ ht3;have h2:S.piv.getD t 0≠w:=fun e=>hin (by rw[←e];exact ht3)
   omega
  have hlm:l.getD t 0∈l:=by rw[akG,akL qqO];exact aoD _
  have hset:(rfL w (svF S w t)).set (S.piv.getD t 0) (frC (S.M t w))=rfL w (svF S w (t+1)):=by rw[yK];rfl
  repeat'((conv=>whnf);first|(intro hq;(try simp only[vw]at hq);try exact ak hq)|apply aI|exact aj|apply nM|apply fM)
  all_goals((try apply vM);(try simp only[vq]at*);try omega)
  all_goals(try simp only[eF,akZ,hgt,ht1,amI,iE,cO])
  all_goals first
   |omega
   |exact hlm
   |exact rfl
   |(rw[hset]
     refine⟨t+1,[],⟨qqO,qqO⟩,?_⟩;all_goals exact qR)
 ·have:t=S.piv.length:=qqO
  subst this
  repeat'((conv=>whnf);first|(intro hq;(try simp only[vw]at hq);try exact ak hq)|apply aI|exact aj|apply nM|apply fM)
  all_goals((try apply vM);(try simp only[vq]at*);try omega)
  all_goals first
   |omega
   |exact lS _ _
   |exact Nat.le_of_eq (iE _ _).symm
   |(rw[ae7])
   |exact Sup.of rfl
def ahB (m w:Nat) (D:bJ Fr) (y:Nat→Fr):PSp:=fun ys K=>∃c:Ky,VC (ys=[.isl (.recs 4 (rfL m fun i=>D i c.n)) .none,frL m y]∧c.n≤w)∧K (frV (pdF (fun i=>D i c.n) y m))
theorem ae8 {m w B:Nat} {D:bJ Fr} {y:Nat→Fr} (hm:m≤1000000) (hf:∀c,c≤w→∀i,i<m→FB (D i c)∧FB (y i)∧(D i c).L+(y i).L+1≤B) (hB:1+m*B≤10000000000):POK Tryz.prog 173 (ahB m w D y):=by
 rintro ys K ⟨⟨c⟩,⟨⟨rfl,hc⟩⟩,h1⟩
 refine⟨_,h1,cK (ys:=[frL m fun i=>D i c,frL m y]) (fun S wd vs hA=>⟨hA.1,fun i hi=>?_⟩) (VF m (fun i=>D i c) y hm (hf c hc) hB)⟩;have:=hA.2 i hi
 match i,hi with
 |0,_=>exact jB (lu m fun i=>D i c) this
 |1,_=>exact this
def crQ (m w:Nat) (q:Nat→Nat→Rat) (v y:Nat→Rat):Bool:=(akE (w+1)).all fun c=>decide (pdV (fun i=>auQ w q v i c) y m=if c=w then 1 else 0)
noncomputable def abw (m w:Nat) (q:Nat→Nat→Rat) (v y:Nat→Rat):CPT:=aB 169 (dQ [] (lq [tmV m (qmL w q),stV (qsL m v)] [] [.rsl 0 0 m,.int .i64 0] [qmF m (w+1) (auM w (cM q) fun i=>can (v i))])) (iy 130 [tmV m (qmL w q)] (.int .i64 (w:Nat)) (aB 157 (dQ [] (lq [.rsl 0 0 m] [qmF m (w+1) (auM w (cM q) fun i=>can (v i))] [.int .i64 ((w+1:Nat):Int)] [qmF m (w+1) (auM w (cM q) fun i=>can (v i))])) (aB 113 (aP qp) (aB 114 (aP l7) (iy 161 [stV (qsL m y)] (.int .i64 0) (iy 172 [stV (qsL m y)] (frL m fun i=>can (y i)) (aB 132 (aR ffP) (aB 173 (aR (ahB m w (auM w (cM q) fun i=>can (v i)) fun i=>can (y i))) (aB 174 (aR abl) noC)))))))))
theorem RB {q:Rat} {b:Nat} (h:RL q≤b) (hb:b≤400000000):FB (can q):=JH qqO
theorem Zc {m w b:Nat} {q:Nat→Nat→Rat} {v y:Nat→Rat} (h:jC m w b q) (hv:mg m b v) (hy:mg m b y) (hB:1+m*(b+b+1)≤10000000000) (hb:b≤400000000):bD Tryz.prog (abw m w q v y):=
 au (bT [] (dA (Kr h hv))) (bM (by have:=uJ m (qmL w q) (Ea h);rw[Kt h.hm.1]at this;exact this) (au (bT [] (dA (zU m (w+1) _ h.hm))) (au (aC iL) (au (aC iV) (bM (by have:=wZ _ (hy.rw h.hm.2);rw[hy.hz]at this;exact this) (bM (Ci m y (by have:=h.hm;omega) hy.hs) (au (aF BM) (au (aF (ae8 (B:=b+b+1) (by have:=h.hm;omega) (fun c hc i hi=>by
  obtain⟨g1,g2⟩:=Rz h hv i hi c qqO;have h3:=hy.hL i hi;have h4:=g1.le;unfold Bd at h4;have h5:(can (y i)).L≤b:=by rw[l9];exact h3
  exact⟨⟨g1.ok,qqO⟩,RB h3 hb,qqO⟩) hB)) (au (aF ael) aG)))))))))
theorem Zd (n:Nat) (f:Nat→Fr):rfL n f++[frC (f n)]=rfL (n+1) f:=by simp[rfL,anX]
theorem Ze {m w b:Nat} {q:Nat→Nat→Rat} {v y:Nat→Rat} (h:jC m w b q) (hv:mg m b v) (hy:mg m b y) (hB:1+m*(b+b+1)≤10000000000) (hb:b≤400000000):
 aD Tryz.prog 95 [tmV m (qmL w q),stV (qsL m v),stV (qsL m y)] (.int .i64 (if crQ m w q v y=true then 0 else 19)):=by
 have hmB:=h.hm;have hwB:=h.hw;have hc:=Zc h hv hy hB hb;unfold abw at hc;have hgl:=Rz h hv;have hpd:∀c,c≤w→FB (pdF (fun i=>auM w (cM q) (fun i=>can (v i)) i c) (fun i=>can (y i)) m)∧(pdF (fun i=>auM w (cM q) (fun i=>can (v i)) i c) (fun i=>can (y i)) m).val=pdV (fun i=>auQ w q v i c) y m:=fun c hc=>by
  have hx:=Kq (n:=m) (f:=fun i=>auM w (cM q) (fun i=>can (v i)) i c) (g:=fun i=>can (y i)) m (aku m);have hL:=abv (n:=m) (B:=b+b+1) (f:=fun i=>auM w (cM q) (fun i=>can (v i)) i c) (g:=fun i=>can (y i)) (fun i hi=>by
   have h1:=(hgl i hi c qqO).1.le;unfold Bd at h1;have h2:=hy.hL i hi;have h5:(can (y i)).L≤b:=by rw[l9];exact h2
   show(auM w (cM q) (fun i=>can (v i)) i c).L+(can (y i)).L+1≤_;omega) m (aku m)
  refine⟨⟨hx.1,qqO⟩,hx.2.trans ?_⟩;have:∀t,t≤m→pdV (fun i=>(auM w (cM q) (fun i=>can (v i)) i c).val) (fun i=>(can (y i)).val) t=pdV (fun i=>auQ w q v i c) y t:=fun t=>by
   induction t with
   |zero=>intro _;rfl
   |succ t ih=>
    intro ht;show pdV _ _ t+(auM w (cM q) (fun i=>can (v i)) t c).val*(can (y t)).val=pdV _ _ t+auQ w q v t c*y t;rw[ih qqO,(hgl t qqO c qqO).2,dS]
  exact this m (aku m)
 have hcr:∀c,c≤w→crQ m w q v y=true→pdV (fun i=>auQ w q v i c) y m=if c=w then 1 else 0:=fun c hc hq=>of_decide_eq_true (amd.1 hq c (amn.2 qqO));have hcr2:(∀c,c≤w→pdV (fun i=>auQ w q v i c) y m=if c=w then 1 else 0)→crQ m w q v y=true:=fun hq=>amd.2 fun c hc=>decide_eq_true (hq c (by have:=amn.1 hc;omega))
 have hpd2:=fun c hc=>(hpd c hc).1;have hpd3:=fun c hc=>(hpd c hc).2;clear hpd hgl;generalize hPV:(fun c=>pdV (fun i=>auQ w q v i c) y m)=PV1 at*
 have hPV':∀c,pdV (fun i=>auQ w q v i c) y m=PV1 c:=fun c=>congrFun hPV c;simp only[hPV']at hcr hcr2 hpd3;generalize crQ m w q v y=R at*
 generalize(auM w (cM q) fun i=>can (v i))=AU at*
 have hly:=gI m y;generalize qsL m y=ly at*
 generalize(fun i=>can (y i))=Y at*
 refine ay (md:=1) (rf:=[]) mixed av hc Tryz.func95 qqR qqR qqR ?_
 repeat'((conv=>whnf);first|(intro hq;(try simp only[vw]at hq);try exact ak hq)|apply aI|exact aj|apply nM|apply fM)
 all_goals((try apply vM);(try simp only[vq]at*);try omega)
 all_goals first|rfl|omega|exact⟨rfl,rfl⟩|(exfalso;simp_all[dG];done)|(exfalso;simp_all[dG];omega)|exact Sup.of rfl|skip
 conv=>whnf
 refine aib ⟨aL,mixed,av,hc,aU⟩ 0 (fnM (w+1) AU) qqR (fun i hi=>⟨rfl,lu _ _⟩) ?_;conv=>whnf
 refine P9 ⟨aL,mixed,av,hc,aU⟩ 0 qqR ?_;conv=>whnf
 refine aV (X:=Nat) (fun c=>c≤w+1∧∀j,j<c→PV1 j=if j=w then 1 else 0) (fun c=>[(43,.int .i64 c),(11,.any),(12,.any),(14,.any),(15,.any),(48,.any),(46,.any),(47,.any)]) (fun _=>[]) (fun c=>w+1-c) 0 ⟨aL,mixed,av,hc,aU⟩ qqR ⟨qqO,fun j hj=>qqO⟩ ?_ ?_
 ·all_goals exact wE
 intro c ⟨hcl,hok⟩;obtain⟨ky,rfl⟩:∃ky:Ky,c=ky.n:=⟨⟨c⟩,rfl⟩;by_cases hlt:ky.n<w+1
 ·have hcw:=hpd2 ky.n qqO
  have hcv:=hpd3 ky.n qqO;have hRf:PV1 ky.n≠(if ky.n=w then 1 else 0)→R=false:=fun hne=>by
   cases R with
   |false=>rfl
   |true=>exact absurd (hcr ky.n qqO rfl) hne
  have nxt:PV1 ky.n=(if ky.n=w then 1 else 0)→∀j,j<ky.n+1→PV1 j=if j=w then 1 else 0:=fun a j hj=>by
   by_cases e:j=ky.n
   ·rw[e];exact a
   ·exact hok j qqO
  clear hcr hcr2 hok hpd2 hpd3;have hfz:FB zFr:=RB (b:=1) (q:=0) (by rw[D7];omega) qqO
  have hfo:FB oFr:=by rw[sI];exact RB (b:=1) qqV qqO
  have hch:∀x:Fr,chunks qL.size 1 (frC x)=[frC x]:=fun x=>rfl;have hov:Fr.val ⟨⟨1,[]⟩,⟨fI.s,fI.w⟩⟩=1:=Oj;have hzv:Fr.val ⟨⟨0,[]⟩,⟨fI.s,fI.w⟩⟩=0:=D8;have hsn:=fun r=>Zd r fun i=>AU i ky.n
  repeat'((conv=>whnf);first|(intro hq;(try simp only[vw]at hq);try exact ak hq)|apply aI|exact aj|apply nM|apply fM)
  all_goals((try apply vM);(try simp only[vq]at*);try omega)
  all_goals first|omega|skip
  conv=>whnf
  refine aV (X:=Nat) (fun r=>r≤m) (fun r=>[(48,.int .i64 r),(14,.any),(12,.isl (.recs 4 (rfL r fun i=>AU i ky.n)) (.own 3))]) (fun r=>[(3,.tok 4 r)]) (fun r=>m-r) 0 ⟨aL,mixed,av,hc,aU⟩ qqR qqO ?_ ?_
  ·all_goals exact pW
  intro r hr;have hl1:=iE r fun i=>AU i ky.n;by_cases hrm:r<m
  ·have hs:=hsn r
   repeat'((conv=>whnf);first|(intro hq;(try simp only[vw]at hq);try exact ak hq)|apply aI|exact aj|apply nM|apply fM)
   all_goals((try apply vM);(try simp only[vq]at*);try omega)
   all_goals(try simp only[eF,akZ,hch,alQ,akq,akm,hl1])
   all_goals first
    |omega
    |exact rfl
    |(refine⟨r+1,[],⟨qqO,qqO⟩,?_⟩
      repeat'((conv=>whnf);first|intro _|apply aI|exact aj|apply nM|apply fM)
      all_goals((try apply vM);(try simp only[vq]at*);try omega)
      all_goals first|exact congrArg (CL.recs 4) hs|exact hs|rfl)
  ·have:r=m:=qqO
   subst this;by_cases hcw2:ky.n=w
   ·rw[if_pos hcw2]at hRf nxt
    repeat'((conv=>whnf);first|refine Exists.intro (ky) ?_|(intro hq;(try simp only[vw]at hq);try exact ak hq)|apply aI|exact aj|apply nM|apply fM)
    all_goals((try apply vM);(try simp only[vq]at*);try omega)
    all_goals(try simp only[cO,hcv]at*)
    all_goals first
     |omega
     |exact⟨rfl,qqO⟩
     |exact⟨hcw,hfo⟩
     |(have hq2:¬PV1 ky.n=1:=by rw[hov]at hq;simpa using hq
       rw[hRf hq2];exact Sup.of rfl)
     |(have hq2:PV1 ky.n=1:=by rw[hov]at hq;simpa using hq
       refine⟨ky.n+1,[],⟨⟨qqO,nxt hq2⟩,qqO⟩,?_⟩;all_goals exact pW)
   ·rw[if_neg hcw2]at hRf nxt
    repeat'((conv=>whnf);first|refine Exists.intro (ky) ?_|(intro hq;(try simp only[vw]at hq);try exact ak hq)|apply aI|exact aj|apply nM|apply fM)
    all_goals((try apply vM);(try simp only[vq]at*);try omega)
    all_goals(try simp only[cO,hcv]at*)
    all_goals first
     |omega
     |exact⟨rfl,qqO⟩
     |exact⟨hcw,hfz⟩
     |(have hq2:¬PV1 ky.n=0:=by rw[hzv]at hq;simpa using hq
       rw[hRf hq2];exact Sup.of rfl)
     |(have hq2:PV1 ky.n=0:=by rw[hzv]at hq;simpa using hq
       refine⟨ky.n+1,[],⟨⟨qqO,nxt hq2⟩,qqO⟩,?_⟩;all_goals exact pW)
 ·have:ky.n=w+1:=qqO
  have hR:R=true:=hcr2 fun j hj=>hok j qqO;rw[hR]
  repeat'((conv=>whnf);first|(intro hq;(try simp only[vw]at hq);try exact ak hq)|apply aI|exact aj|apply nM|apply fM)
  all_goals((try apply vM);(try simp only[vq]at*);try omega)
  all_goals first
   |omega
   |(rw[if_neg qqO,if_pos trivial];exact Sup.of rfl)
   |exact Sup.of rfl
end Go.Eng.YtmkagljofpddpaaGreatDoor
namespace Go.Eng.YtmkagljofpddpaaGreatDoor
open Go.Proofs Go.Eng.Dig
set_option linter.unusedSimpArgs false
set_option linter.unusedVariables false
set_option maxHeartbeats 0
set_option maxRecDepth 100000
theorem FU (a b:List Int) (hl:a.length≤1000000000∧b.length≤1000000000):aD Tryz.prog 51 [.isl (.ints .i64 a) .none,.isl (.ints .i64 b) .none] (.bp (decide (a=b))):=by
 by_cases hab:a.length=b.length
 ·skip
  refine ay (md:=1) (rf:=[]) mixed av aG Tryz.func51 qqR qqR qqR ?_
  repeat'((conv=>whnf);first|(intro hq;(try simp only[vw]at hq);try exact ak hq)|apply aI|exact aj|apply nM|apply fM)
  all_goals((try apply vM);(try simp only[vq]at*);try omega)
  all_goals try(exfalso;omega)
  conv=>whnf
  refine aV (X:=Nat) (fun i=>i≤a.length∧∀j,j<i→a.getD j 0=b.getD j 0) (fun i=>[(5,.int .i64 i)]) (fun _=>[]) (fun i=>a.length-i) 0 ⟨aL,mixed,av,aG,aU⟩ qqR ⟨qqO,fun j h=>qqO⟩ ?_ ?_
  ·all_goals exact aW
  intro i ⟨h1,h2⟩;have h2':∀_:Unit,∀j,j<i→a.getD j 0=b.getD j 0:=fun _=>h2;clear h2;by_cases hlt:i<a.length
  ·by_cases he:a.getD i 0=b.getD i 0
   ·all_goals exact Fe
   ·have hm:decide (a=b)=false:=decide_eq_false (fun hm=>he (by rw[hm]))
    rw[hm];all_goals exact Fg
  ·have:i=a.length:=qqO
   subst this;have hm:decide (a=b)=true:=decide_eq_true (by
    refine amC hab fun j g1 g2=>?_;have:=h2' () j g1;rw[akG,akL g1,akG,akL g2]at this;exact this)
   rw[hm];all_goals exact jy
 ·have hm:decide (a=b)=false:=decide_eq_false (fun hm=>hab (by rw[hm]))
  rw[hm];refine ay (md:=1) (rf:=[]) mixed av aG Tryz.func51 qqR qqR qqR ?_;all_goals exact jy
def G9:PSp:=fun xs K=>match xs with
 | [.isl (.ints .i64 a) .none,.isl (.ints .i64 b) .none]=>VC (a.length≤1000000000∧b.length≤1000000000)∧K (.bp (decide (a=b)))
 |_=>False
theorem Ol:POK Tryz.prog 51 G9:=by
 intro xs K h;unfold G9 at h;split at h
 ·exact⟨_,h.2,FU _ _ h.1.get⟩
 ·exact h.elim
noncomputable def aj7:CPT:=aB 51 (aP G9) noC
theorem Eb:bD Tryz.prog aj7:=au (aC Ol) aG
def RD (m:Nat) (f:Nat→List Int):PV:=.isl (.gen m fun i=>.isl (.ints .i64 (f i)) .none) .none
def aiH (m k:Nat) (f g:Nat→List Int):Prop:=m=k∧∀i,i<m→f i=g i
theorem VG (m k:Nat) (f g:Nat→List Int) (hm:m≤1000000∧k≤1000000) (hf:∀i,i<m→(f i).length≤1000000000) (hg:∀i,i<k→(g i).length≤1000000000) (b:Bool) (hb:b=true↔aiH m k f g):
 aD Tryz.prog 61 [RD m f,RD k g] (.bp b):=by
 by_cases hmk:m=k
 ·subst hmk
  refine ay (md:=1) (rf:=[]) mixed av Eb Tryz.func61 qqR qqR qqR ?_
  repeat'((conv=>whnf);first|(intro hq;(try simp only[vw]at hq);try exact ak hq)|apply aI|exact aj|apply nM|apply fM)
  all_goals((try apply vM);(try simp only[vq]at*);try omega)
  all_goals try(exfalso;omega)
  conv=>whnf
  refine aV (X:=Nat) (fun i=>i≤m∧∀j,j<i→f j=g j) (fun i=>[(5,.int .i64 i)]) (fun _=>[]) (fun i=>m-i) 0 ⟨aL,mixed,av,Eb,aU⟩ qqR ⟨qqO,fun j h=>qqO⟩ ?_ ?_
  ·all_goals exact aW
  intro i ⟨h1,h2⟩;have h2':∀_:Unit,∀j,j<i→f j=g j:=fun _=>h2;clear h2;by_cases hlt:i<m
  ·have k1:=hf i hlt
   have k2:=hg i hlt;by_cases he:f i=g i
   ·all_goals exact Fh
   ·have hm:b=false:=aoP.2 fun hh=>he ((hb.1 hh).2 i hlt)
    rw[hm];all_goals exact Fj
  ·have:i=m:=qqO
   subst this;have hm:b=true:=hb.2 ⟨rfl,h2' ()⟩;rw[hm];all_goals exact jy
 ·have hm':b=false:=aoP.2 fun hh=>hmk (hb.1 hh).1
  rw[hm'];refine ay (md:=1) (rf:=[]) mixed av Eb Tryz.func61 qqR qqR qqR ?_;all_goals exact jy
end Go.Eng.YtmkagljofpddpaaGreatDoor
namespace Go.Eng.YtmkagljofpddpaaGreatDoor
open Go.Proofs Go.Eng.Dig Go.Eng.Dec Go.Eng.Pm
set_option linter.unusedSimpArgs false
set_option linter.unusedVariables false
set_option maxHeartbeats 0
set_option maxRecDepth 100000
theorem VH (a b:List ByteArray) (hl:a.length≤1000000000∧b.length≤1000000000):aD Tryz.prog 106 [.isl (.strs a) .none,.isl (.strs b) .none] (.bp (decide (a=b))):=by
 by_cases hab:a.length=b.length
 ·skip
  refine ay (md:=1) (rf:=[]) mixed av aG Tryz.func106 qqR qqR qqR ?_
  repeat'((conv=>whnf);first|(intro hq;(try simp only[vw]at hq);try exact ak hq)|apply aI|exact aj|apply nM|apply fM)
  all_goals((try apply vM);(try simp only[vq]at*);try omega)
  all_goals try(exfalso;omega)
  conv=>whnf
  refine aV (X:=Nat) (fun i=>i≤a.length∧∀j,j<i→a.getD j .empty=b.getD j .empty) (fun i=>[(5,.int .i64 i)]) (fun _=>[]) (fun i=>a.length-i) 0 ⟨aL,mixed,av,aG,aU⟩ qqR ⟨qqO,fun j h=>qqO⟩ ?_ ?_
  ·all_goals exact aW
  intro i ⟨h1,h2⟩;have h2':∀_:Unit,∀j,j<i→a.getD j .empty=b.getD j .empty:=fun _=>h2;clear h2;by_cases hlt:i<a.length
  ·by_cases he:a.getD i .empty=b.getD i .empty
   ·all_goals exact Fe
   ·have hm:decide (a=b)=false:=decide_eq_false (fun hm=>he (by rw[hm]))
    rw[hm];all_goals exact Fg
  ·have:i=a.length:=qqO
   subst this;have hm:decide (a=b)=true:=decide_eq_true (by
    refine amC hab fun j g1 g2=>?_;have:=h2' () j g1;rw[akG,akL g1,akG,akL g2]at this;exact this)
   rw[hm];all_goals exact jy
 ·have hm:decide (a=b)=false:=decide_eq_false (fun hm=>hab (by rw[hm]))
  rw[hm];refine ay (md:=1) (rf:=[]) mixed av aG Tryz.func106 qqR qqR qqR ?_;all_goals exact jy
def He:PSp:=fun xs K=>match xs with
 | [.isl (.strs a) .none,.isl (.strs b) .none]=>VC (a.length≤1000000000∧b.length≤1000000000)∧K (.bp (decide (a=b)))
 |_=>False
theorem Om:POK Tryz.prog 106 He:=by
 intro xs K h;unfold He at h;split at h
 ·exact⟨_,h.2,VH _ _ h.1.get⟩
 ·exact h.elim
noncomputable def aj8:CPT:=aB 106 (aP He) noC
theorem Ec:bD Tryz.prog aj8:=au (aC Om) aG
def ahC (m k:Nat) (f g:Nat→List ByteArray):Prop:=m=k∧∀i,i<m→f i=g i
theorem VI (m k:Nat) (f g:Nat→List ByteArray) (hm:m≤1000000∧k≤1000000) (hf:∀i,i<m→(f i).length≤1000000000) (hg:∀i,i<k→(g i).length≤1000000000) (b:Bool) (hb:b=true↔ahC m k f g):
 aD Tryz.prog 77 [tmV m f,tmV k g] (.bp b):=by
 by_cases hmk:m=k
 ·subst hmk
  refine ay (md:=1) (rf:=[]) mixed av Ec Tryz.func77 qqR qqR qqR ?_
  repeat'((conv=>whnf);first|(intro hq;(try simp only[vw]at hq);try exact ak hq)|apply aI|exact aj|apply nM|apply fM)
  all_goals((try apply vM);(try simp only[vq]at*);try omega)
  all_goals try(exfalso;omega)
  conv=>whnf
  refine aV (X:=Nat) (fun i=>i≤m∧∀j,j<i→f j=g j) (fun i=>[(5,.int .i64 i)]) (fun _=>[]) (fun i=>m-i) 0 ⟨aL,mixed,av,Ec,aU⟩ qqR ⟨qqO,fun j h=>qqO⟩ ?_ ?_
  ·all_goals exact aW
  intro i ⟨h1,h2⟩;have h2':∀_:Unit,∀j,j<i→f j=g j:=fun _=>h2;clear h2;by_cases hlt:i<m
  ·have k1:=hf i hlt
   have k2:=hg i hlt;by_cases he:f i=g i
   ·all_goals exact Fh
   ·have hm:b=false:=aoP.2 fun hh=>he ((hb.1 hh).2 i hlt)
    rw[hm];all_goals exact Fj
  ·have:i=m:=qqO
   subst this;have hm:b=true:=hb.2 ⟨rfl,h2' ()⟩;rw[hm];all_goals exact jy
 ·have hm':b=false:=aoP.2 fun hh=>hmk (hb.1 hh).1
  rw[hm'];refine ay (md:=1) (rf:=[]) mixed av Ec Tryz.func77 qqR qqR qqR ?_;all_goals exact jy
theorem uN (l:List (List Int)):gK (.rows .i64 l) (.gen l.length fun i=>.isl (.ints .i64 (l.getD i [])) .none):=⟨rfl,rfl,fun j hj=>by simp only[CL.get]⟩
theorem VJ (a b:List (List Int)) (hl:a.length≤1000000∧b.length≤1000000) (ha:∀r,r∈a→r.length≤1000000000) (hb:∀r,r∈b→r.length≤1000000000):aD Tryz.prog 61 [.isl (.rows .i64 a) .none,.isl (.rows .i64 b) .none] (.bp (decide (a=b))):=by
 refine cK (ys:=[RD a.length fun i=>a.getD i [],RD b.length fun i=>b.getD i []]) (fun S wd vs hA=>⟨hA.1,fun i hi=>?_⟩) (VG a.length b.length (fun i=>a.getD i []) (fun i=>b.getD i []) hl (fun i hi=>?_) (fun i hi=>?_) _ ?_)
 ·have:=hA.2 i hi
  match i,hi with
  |0,_=>exact jB (uN a) this
  |1,_=>exact jB (uN b) this
 ·exact ha _ (by rw[akG,akL hi];exact aoD _)
 ·exact hb _ (by rw[akG,akL hi];exact aoD _)
 ·rw[decide_eq_true_iff]
  constructor
  ·rintro rfl;exact⟨rfl,fun _ _=>rfl⟩
  ·rintro⟨h1,h2⟩
   refine amC h1 fun j g1 g2=>?_;have:a.getD j []=b.getD j []:=h2 j g1;rw[akG,akL g1,akG,akL g2]at this;exact this
end Go.Eng.YtmkagljofpddpaaGreatDoor
namespace Go.Eng.YtmkagljofpddpaaGreatDoor
open Go.Proofs Go.Eng.Pm
set_option linter.unusedSimpArgs false
set_option linter.unusedVariables false
set_option maxHeartbeats 0
set_option maxRecDepth 100000
theorem RF (p:List Int) (hp:p.length≤1000000):aD Tryz.prog 80 [.isl (.ints .i64 p) .none] (.int .i64 (bZ 5 p)):=by
 unfold bZ;refine ay (md:=1) (rf:=[]) mixed av aG Tryz.func80 qqR qqR qqR ?_
 repeat'((conv=>whnf);first|(intro hq;(try simp only[vw]at hq);try exact ak hq)|apply aI|exact aj|apply nM|apply fM)
 all_goals((try apply vM);(try simp only[vq]at*);try omega)
 ·rw[if_pos qqO];exact Sup.of rfl
 all_goals try exact .inl trivial
 rw[if_neg qqO];conv=>whnf
 refine aV (X:=Nat) (fun i=>i≤p.length∧∀j,j<i→qy p j=0) (fun i=>[(14,.int .i64 i)]) (fun i=>[(0,.cells (.bools (jP p i)) false)]) (fun i=>p.length-i) 0 ⟨aL,mixed,av,aG,aU⟩ qqR ⟨qqO,fun j hj=>qqO⟩ ?_ ?_
 ·all_goals exact Fu
 intro i ⟨hi,hok⟩;have hsl:=FM p i;by_cases hlt:i<p.length
 ·have eS:qy p i=if p.getD i 0<0∨p.length≤p.getD i 0∨p.getD i 0∈p.take i then 14 else 0:=rfl
  have eA:=JW p i (p.getD i 0);have fin:∀e,qy p i=e→e≠0→iM (qy p) p.length=e:=fun e a1 a2=>(kT hlt (by rw[a1];exact a2) hok).trans a1
  all_goals exact Fv
 ·have:p.length=i:=qqO
  rw[jL (n:=p.length) (by rw[this];exact hok)]
  all_goals exact wm
theorem RG (p:List Int) (hp:p.length≤1000000):aD Tryz.prog 20 [.isl (.ints .i64 p) .none] (.int .i64 (bZ 5 p)):=by
 unfold bZ;refine ay (md:=1) (rf:=[]) mixed av aG Tryz.func20 qqR qqR qqR ?_
 repeat'((conv=>whnf);first|(intro hq;(try simp only[vw]at hq);try exact ak hq)|apply aI|exact aj|apply nM|apply fM)
 all_goals((try apply vM);(try simp only[vq]at*);try omega)
 ·rw[if_pos qqO];exact Sup.of rfl
 all_goals try exact .inl trivial
 rw[if_neg qqO];conv=>whnf
 refine aV (X:=Nat) (fun i=>i≤p.length∧∀j,j<i→qy p j=0) (fun i=>[(4,.int .i64 i)]) (fun i=>[(0,.cells (.bools (jP p i)) false)]) (fun i=>p.length-i) 0 ⟨aL,mixed,av,aG,aU⟩ qqR ⟨qqO,fun j hj=>qqO⟩ ?_ ?_
 ·all_goals exact Fu
 intro i ⟨hi,hok⟩;have hsl:=FM p i;by_cases hlt:i<p.length
 ·have eS:qy p i=if p.getD i 0<0∨p.length≤p.getD i 0∨p.getD i 0∈p.take i then 14 else 0:=rfl
  have eA:=JW p i (p.getD i 0);have fin:∀e,qy p i=e→e≠0→iM (qy p) p.length=e:=fun e a1 a2=>(kT hlt (by rw[a1];exact a2) hok).trans a1
  all_goals exact Fv
 ·have:p.length=i:=qqO
  rw[jL (n:=p.length) (by rw[this];exact hok)]
  all_goals exact wm
def Cj:PSp:=fun xs K=>match xs with
 | [.isl (.ints .i64 p) .none]=>VC (p.length≤1000000)∧K (.int .i64 (bZ 5 p))
 |_=>False
theorem Kv:POK Tryz.prog 80 Cj:=by
 intro xs K h;unfold Cj at h;split at h
 ·exact⟨_,h.2,RF _ h.1.get⟩
 ·exact h.elim
def Kw:PSp:=fun xs K=>match xs with
 | [.isl (.ints .i64 p) .none]=>VC (p.length≤1000000)∧K (.int .i64 (bZ 5 p))
 |_=>False
theorem Zf:POK Tryz.prog 20 Kw:=by
 intro xs K h;unfold Kw at h;split at h
 ·exact⟨_,h.2,RG _ h.1.get⟩
 ·exact h.elim
def cmpL (p q:List Int):List Int:=q.map fun x=>p.getD x.toNat 0
theorem jD (p q:List Int):(cmpL p q).length=q.length:=by simp[cmpL]
theorem aj9 (p q:List Int) (i:Nat) (hi:i<q.length):(cmpL p q).take i++[p.getD (q.getD i 0).toNat 0]=(cmpL p q).take (i+1):=by
 rw[aoQ];simp[cmpL,akG,hi]
theorem VK (k:IntKind) (e:Int):Sup (dX [PV.nils,.int .i64 e]) (.tup [.isl (.ints k []) .none,.int .i64 e]):=by all_goals(refine Sup.via ?_;repeat'((conv=>whnf);first|intro _|apply aI|exact aj|apply nM|apply fM);all_goals((try apply vM);(try simp only[vq]at*);try omega);all_goals(try(simp[CL.sub];done)))
noncomputable def Zg:CPT:=aB 80 (aP Cj) (aB 113 (aP qp) (aB 114 (aP l7) noC))
theorem lT:bD Tryz.prog Zg:=au (aC Kv) (au (aC iL) (au (aC iV) aG))
def uO (p q:List Int):Int:=dG [bZ 5 p,bZ 5 q,if p.length=q.length then 0 else 2]
theorem Kz (p q:List Int) (hp:p.length≤1000000∧q.length≤1000000):aD Tryz.prog 81 [.isl (.ints .i64 p) .none,.isl (.ints .i64 q) .none] (.tup [.isl (.ints .i64 (if uO p q=0 then cmpL p q else [])) .none,.int .i64 (uO p q)]):=by
 have hraw:dG [bZ 5 p,bZ 5 q,if decide (¬(p.length:Int)=q.length)=true then 2 else 0]=uO p q:=by
  unfold uO;congr 3;by_cases e:p.length=q.length
  ·rw[if_pos e,if_neg (by simp[e])]
  ·rw[if_neg e,if_pos (decide_eq_true qqO)]
 have hraw2:dG [bZ 5 p,bZ 5 q,if decide ((p.length:Int)≠q.length)=true then 2 else 0]=uO p q:=hraw;by_cases h:uO p q=0
 ·rw[if_pos h]
  have hz:=h;unfold uO at hz;simp only[dG]at hz;have h1:bZ 5 p=0:=by
   (repeat' split at hz)<;>simp_all
  have h2:bZ 5 q=0:=by
   (repeat' split at hz)<;>simp_all
  have h3:p.length=q.length:=by
   (repeat' split at hz)<;>simp_all
  have hP:=oD qqD h1;have hQ:=oD qqD h2;have hl:=zL qqD h2;clear hz h1 h2;refine ay (md:=1) (rf:=[]) mixed av lT Tryz.func81 qqR qqR qqR ?_
  repeat'((conv=>whnf);first|(intro hq;(try simp only[vw]at hq);try exact ak hq)|apply aI|exact aj|apply nM|apply fM)
  all_goals((try apply vM);(try simp only[vq]at*);try omega)
  all_goals(try simp only[hraw,hraw2]at*)
  all_goals(try contradiction)
  all_goals(try simp only[h]at*)
  all_goals(try contradiction)
  all_goals(try omega)
  conv=>whnf
  refine aV (X:=Nat) (fun i=>i≤q.length) (fun i=>[(27,.int .i64 i),(9,.any),(7,.isl (.ints .i64 ((cmpL p q).take i)) (.own 5))]) (fun i=>[(5,.tok 1 i)]) (fun i=>q.length-i) 0 ⟨aL,mixed,av,lT,aU⟩ qqR qqO ?_ ?_
  ·all_goals exact aW
  intro i hi;have hcl:=jD p q;by_cases hlt:i<q.length
  ·have e:=hQ.rng i hlt
   have ht:=aj9 p q i hlt;have hlen:((cmpL p q).take i).length=i:=by rw[alm];omega
   have hlen2:((cmpL p q).take (i+1)).length=i+1:=by rw[alm];omega
   repeat'((conv=>whnf);first|(intro hq;(try simp only[vw]at hq);try exact ak hq)|apply aI|exact aj|apply nM|apply fM)
   all_goals((try apply vM);(try simp only[vq]at*);try omega)
   all_goals(try simp only[ht])
   all_goals first
    |omega
    |(refine⟨i+1,[],⟨qqO,qqO⟩,?_⟩
      all_goals exact aW)
  ·have:i=q.length:=qqO
   subst this;rw[show(cmpL p q).take q.length=cmpL p q by rw[←hcl,amJ]]
   all_goals exact iq
 ·rw[if_neg h]
  refine ay (md:=1) (rf:=[]) mixed av lT Tryz.func81 qqR qqR qqR ?_
  repeat'((conv=>whnf);first|(intro hq;(try simp only[vw]at hq);try exact ak hq)|apply aI|exact aj|apply nM|apply fM)
  all_goals((try apply vM);(try simp only[vq]at*);try omega)
  all_goals(try simp only[hraw,hraw2]at*)
  all_goals first|(exfalso;contradiction)|omega|exact Sup.of rfl|exact VK _ _
def uP (p:List Int):Nat→List Int
 |0=>akP p.length 0
 |i+1=>(uP p i).set (ap p i) i
theorem uQ (p:List Int):∀i,(uP p i).length=p.length:=by
 intro i;induction i with
 |zero=>simp[uP]
 |succ i ih=>simp[uP,ih]
theorem VL (k:IntKind) (l:List Int) (n:Nat) (e:Int) (h:l.length=n):Sup (dX [PV.isl ((CL.ints k l).sub 0 n) .none,.int .i64 e]) (.tup [.isl (.ints k l) .none,.int .i64 e]):=by
 subst h;refine Sup.of ?_;simp[dX,CL.sub]
theorem LP (p:List Int) (hp:p.length≤1000000):aD Tryz.prog 82 [.isl (.ints .i64 p) .none] (.tup [.isl (.ints .i64 (if bZ 5 p=0 then uP p p.length else [])) .none,.int .i64 (bZ 5 p)]):=by
 by_cases h:bZ 5 p=0
 ·have hP:=oD qqD h
  have hl:=zL qqD h;rw[if_pos h];refine ay (md:=1) (rf:=[]) mixed av lT Tryz.func82 qqR qqR qqR ?_
  repeat'((conv=>whnf);first|(intro hq;(try simp only[vw]at hq);try exact ak hq)|apply aI|exact aj|apply nM|apply fM)
  all_goals((try apply vM);(try simp only[vq]at*);try omega)
  all_goals(try contradiction)
  all_goals(try exact .inl trivial)
  rw[h];conv=>whnf
  refine aV (X:=Nat) (fun i=>i≤p.length) (fun i=>[(18,.int .i64 i),(6,.any),(7,.any)]) (fun i=>[(4,.cells (.ints .i64 (uP p i)) false)]) (fun i=>p.length-i) 0 ⟨aL,mixed,av,lT,aU⟩ qqR qqO ?_ ?_
  ·all_goals exact Fx
  intro i hi;have hil:=uQ p i;by_cases hlt:i<p.length
  ·have e:=hP.rng i hlt
   repeat'((conv=>whnf);first|(intro hq;(try simp only[vw]at hq);try exact ak hq)|apply aI|exact aj|apply nM|apply fM)
   all_goals((try apply vM);(try simp only[vq]at*);try omega)
   all_goals first
    |omega
    |(refine⟨i+1,[],⟨qqO,qqO⟩,?_⟩
      all_goals exact Fx)
  ·have:i=p.length:=qqO
   subst this
   repeat'((conv=>whnf);first|(intro hq;(try simp only[vw]at hq);try exact ak hq)|apply aI|exact aj|apply nM|apply fM)
   all_goals((try apply vM);(try simp only[vq]at*);try omega)
   all_goals first|exact VL _ _ _ _ hil|omega
 ·rw[if_neg h]
  refine ay (md:=1) (rf:=[]) mixed av lT Tryz.func82 qqR qqR qqR ?_;all_goals exact Fy
theorem LQ (p:List Int):aD Tryz.prog 167 [.isl (.ints .i64 p) .none] (.fn (.func 217) [] [.ip (.pv [.isl (.ints .i64 p) .none]) 0]):=by
 refine ay (md:=1) (rf:=[]) mixed av aG Tryz.func167 qqR qqR qqR ?_;all_goals exact EK
def zW (c:List Int):PV:=.isl (.ints .i64 c) .none
def xw (p:List Int) (i t:Nat):List Int:=(akE t).map fun k=>((it p k i:Nat):Int)
theorem KA (p:List Int) (i t:Nat):(xw p i t).length=t:=by simp[xw]
theorem VN (p:List Int) (i t:Nat):xw p i t++[((it p t i:Nat):Int)]=xw p i (t+1):=by simp[xw,anX]
theorem xA (p:List Int) (h:OK p) (hl:p.length≤1000000):PZ Tryz.prog 217 [] [.ip (.pv [.isl (.ints .i64 p) .none]) 0] 1 ((cys p).map zW):=by
 refine Xp (md:=1) (rf:=[]) mixed av Tryz.func217 qqR qqR qqR fun G go b hY=>⟨_,aG,?_⟩;obtain⟨L,hL⟩:∃L,L=(cys p).map zW:=⟨_,rfl⟩;have hlen:L.length=(gG p p.length).length:=by simp[hL,cys]
 have hget:∀i,i<p.length→hd p i=true→L[(gG p i).length]? =some (zW (cyc p i)):=fun i hi hh=>by
  have:∀m,i<m→m≤p.length→(gG p m)[(gG p i).length]? =some (cyc p i):=by
   intro m;induction m with
   |zero=>intro h;omega
   |succ m ih=>
    intro h1 h2;rw[nY];by_cases e:i=m
    ·subst e
     rw[if_pos hh,List.getElem?_append_right (aku _),Nat.sub_self];rfl
    ·have:=ih qqO qqO
     rw[amr (amq.1 this).1];exact this
  rw[hL,alJ,show(cys p)[(gG p i).length]? =some (cyc p i)from this p.length qqO (aku _)];rfl
 have hle:∀i,i<p.length→hd p i=true→(gG p i).length<L.length:=fun i hi hh=>(amq.1 (hget i hi hh)).1;rw[←hL]at hY⊢;have W:Walk Tryz.prog none sV tab.get noC (Xo b 1 G go L):=⟨aL,mixed,av,aG,hY _ _⟩;have stop:∀i c,L[i]? =some c→GoTo go L i→go (L.take i++[c])=false→L.take i++[c]=kL go [] L:=fun i c hc hg h=>by
  rw[gN hc]at h⊢;rw[Tf (amq.1 hc).1 hg h]
 have cont:∀i c,L[i]? =some c→GoTo go L i→go (L.take i++[c])=true→GoTo go L (i+1):=fun i c hc hg h=>hg.succ (by rw[←gN hc];exact h)
 have done:GoTo go L L.length→L.take L.length=kL go [] L:=fun hg=>by rw[Xn (aku _) hg];simp
 clear hL
 repeat'((conv=>whnf);first|intro _|apply aI|exact aj|apply nM|apply fM)
 all_goals((try apply vM);(try simp only[vq]at*);try omega)
 all_goals try exact .inl trivial
 conv=>whnf
 refine aV (X:=Nat) (fun i=>i≤p.length∧GoTo go L (gG p i).length) (fun i=>[(12,.int .i64 i),(4,.any),(5,.any),(6,.any)]) (fun i=>[(0,.ext G (L.take (gG p i).length)),(1,.cells (.bools (snL p i 0)) false)]) (fun i=>p.length-i) 0 W qqR ⟨qqO,.zero⟩ ?_ ?_
 ·repeat'((conv=>whnf);first|intro _|apply aI|exact aj|apply nM|apply fM)
  all_goals((try apply vM);(try simp only[vq]at*);try omega)
  all_goals first|exact JZ p|exact(JZ p).symm|simp[gG]|skip
 intro i ⟨hi,hgo⟩;have hn:=NU p i;by_cases hlt:i<p.length
 ·have hrng:=fun t=>jQ h hlt t
  have hper:=eB h hlt;have hat:∀t,(snL p i t).getD (it p t i) false=snB p i t (it p t i):=fun t=>ahk (hrng t) i t
  repeat'((conv=>whnf);first|intro _|apply aI|exact aj|apply nM|apply fM)
  all_goals((try apply vM);(try simp only[vq]at*);try omega)
  conv=>whnf
  refine aV (X:=Nat) (fun t=>(t=0∨hd p i=true∧t≤per p i)) (fun t=>[(6,.int .i64 (it p t i:Nat)),(5,.isl (.ints .i64 (xw p i t)) (.own 5))]) (fun t=>[(1,.cells (.bools (snL p i t)) false),(5,.tok 1 t)]) (fun t=>per p i-t) 0 W qqR (.inl rfl) ?_ ?_
  ·all_goals exact aW
  intro t ht;have hnt:=NU p i t;have hol:=KA p i t;have ha:=hat t;have hr:=hrng t;clear hat hrng;by_cases hs:snB p i t (it p t i)=true
  ·rw[hs]at ha
   by_cases hh:hd p i=true
   ·have ht:t=per p i:=by
     rcases Nat.lt_or_ge t (per p i)with g|g
     ·rw[ahl h hlt hh g]at hs;cases hs
     ·rcases ht with e|⟨_,e⟩
      ·omega
      ·omega
    subst ht;have hgt:=hget i hlt hh;have e1:gG p (i+1)=gG p i++[cyc p i]:=by rw[nY,if_pos hh]
    have e2:(gG p (i+1)).length=(gG p i).length+1:=by rw[e1];simp
    have e3:xw p i (per p i)=cyc p i:=rfl;have e4:=YE h hlt hh;have hcl:=kF p i;rw[e3];clear e3 hol;have hstop:=stop _ _ hgt hgo;have hcont:=cont _ _ hgt hgo;have hnx:=agL hgt hgo;have htk:=gN hgt;unfold zW at hstop hcont hnx htk
    repeat'((conv=>whnf);first|(intro hq;(try simp only[vw]at hq);try exact ak hq)|apply aI|exact aj|apply nM|apply fM)
    all_goals((try apply vM);(try simp only[vq]at*);try omega)
    all_goals first
     |(simp only[ha,alj,ali,reduceCtorEq,als]at*;done)
     |omega
     |exact hnx
     |(refine hstop ?_;rename_i g1 g2;simpa using g1)
     |(refine⟨i+1,[],⟨⟨qqO,?_⟩,qqO⟩,?_⟩
       ·rw[e2];refine hcont ?_;rename_i g1 g2;simpa using g1
       ·rw[e2,←e4]
        repeat'((conv=>whnf);first|intro _|apply aI|exact aj|apply nM|apply fM)
        all_goals((try apply vM);(try simp only[vq]at*);try omega)
        all_goals first|exact htk|exact htk.symm|skip)
   ·have ht:t=0:=ht.elim id fun g=>absurd g.1 hh
    subst ht;have e4:=YF h hlt (aoP.2 hh);have e2:(gG p (i+1)).length=(gG p i).length:=by rw[nY,if_neg hh];simp
    have e0:xw p i 0=[]:=rfl
    repeat'((conv=>whnf);first|(intro hq;(try simp only[vw]at hq);try exact ak hq)|apply aI|exact aj|apply nM|apply fM)
    all_goals((try apply vM);(try simp only[vq]at*);try omega)
    all_goals first
     |(simp only[ha,alj,ali,reduceCtorEq,als]at*;done)
     |omega
     |(refine⟨i+1,[],⟨⟨qqO,by rw[e2];exact hgo⟩,qqO⟩,?_⟩
       rw[e2,←e4];all_goals exact aW)
  ·have hs:=aoP.2 hs
   rw[hs]at ha;have hh:hd p i=true:=by
    rcases ht with e|e
    ·subst e
     cases hh:hd p i with
     |true=>rfl
     |false=>have:=ahn hh;rw[show it p 0 i=i from rfl]at hs;rw[hs]at this;cases this
    ·exact e.1
   have ht:t<per p i:=by
    refine Nat.lt_of_not_le fun g=>?_;have:t=per p i:=by rcases ht with e|e<;>omega
    subst this;rw[ahm h hlt]at hs;cases hs
   have e4:=aeB h hlt (t:=t);have e5:=VN p i t;have e6:=o8 h hr;have e7:((it p (t+1) i:Nat):Int)=p.getD (it p t i) 0:=e6;have hol2:=KA p i (t+1)
   repeat'((conv=>whnf);first|(intro hq;(try simp only[vw]at hq);try exact ak hq)|apply aI|exact aj|apply nM|apply fM)
   all_goals((try apply vM);(try simp only[vq]at*);try omega)
   all_goals(try simp only[e5])
   all_goals first
    |(simp only[ha,alj,ali,reduceCtorEq,als]at*;done)
    |omega
    |(refine⟨t+1,[],⟨.inr ⟨hh,qqO⟩,qqO⟩,?_⟩
      rw[←e4,e7];all_goals exact aW)
 ·have:p.length=i:=qqO
  subst this;rw[←hlen]at hgo
  repeat'((conv=>whnf);first|intro _|apply aI|exact aj|apply nM|apply fM)
  all_goals((try apply vM);(try simp only[vq]at*);try omega)
  all_goals first|(rw[←hlen];exact done hgo)
end Go.Eng.YtmkagljofpddpaaGreatDoor
namespace Go.Eng.Pm
set_option linter.unusedSimpArgs false
set_option linter.unusedVariables false
def iC (p:List Int) (k:Int) (L:List (List Int)):List Int:=(akE p.length).map fun x:Nat=>if L.any (fun c=>c.contains (x:Int))=true then((pw p k x:Nat):Int)else 0
theorem Zh (p:List Int) (k:Int) (L:List (List Int)):(iC p k L).length=p.length:=by simp[iC]
theorem KC (p:List Int) (k:Int):iC p k []=akP p.length 0:=by
 refine amC (by simp[iC]) fun j h1 h2=>by simp[iC]
theorem Zi (p:List Int) (k:Int) (L:List (List Int)):iC p k (L++[[]])=iC p k L:=by
 unfold iC;simp
theorem Zj {p:List Int} (k:Int) (L:List (List Int)) (c:List Int) (t:Nat) (ht:t<c.length) (h0:0≤c.getD t 0):
 (iC p k (L++[c.take t])).set (c.getD t 0).toNat ((pw p k (c.getD t 0).toNat:Nat):Int)=iC p k (L++[c.take (t+1)]):=by
 refine amC (by simp[iC]) fun j h1 h2=>?_
 have htk:c.take (t+1)=c.take t++[c.getD t 0]:=by
  rw[aoQ,akG,akL ht];rfl
 rw[amF];simp only[iC,amG,amH,List.any_append,List.any_cons,List.any_nil,aoy,htk,List.contains_append,List.contains_cons,List.contains_nil];by_cases e:(c.getD t 0).toNat=j
 ·rw[if_pos e,if_pos]
  ·rw[e]
  ·have:((j:Int)==c.getD t 0)=true:=by rw[beq_iff_eq];omega
   rw[this,aoR,aoR]
 ·rw[if_neg e]
  have:((j:Int)==c.getD t 0)=false:=by rw[beq_eq_false_iff_ne];omega
  rw[this,aoy]
theorem VO {p:List Int} (k:Int) (L:List (List Int)) (i:Nat) (hi:i<L.length) (c:List Int) (hc:L.getD i []=c):iC p k (L.take i++[c.take c.length])=iC p k (L.take (i+1)):=by
 rw[amJ,aoQ,akL hi];rw[akG,akL hi]at hc;simp only[alo]at hc;rw[hc];rfl
theorem yM {p:List Int} {c:List Int} (hc:c∈cys p):∃i,i<p.length∧hd p i=true∧c=cyc p i:=by
 unfold cys gG at hc;obtain⟨i,hi,rfl⟩:=aoL.1 hc;obtain⟨h1,h2⟩:=aoS.1 hi;exact⟨i,amn.1 h1,h2,rfl⟩
theorem Oo {p:List Int} {i:Nat} (hi:i<(cys p).length):∃x,x<p.length∧hd p x=true∧(cys p).getD i []=cyc p x:=by
 refine yM ?_;rw[akG,akL hi];exact aoD _
theorem Zk {p:List Int} (h:OK p) (k:Int):iC p k (cys p)=pwL p k:=by
 refine amC (by simp[iC,pwL]) fun x h1 h2=>?_
 have hx:x<p.length:=by simpa [iC]using h1
 simp only[iC,pwL,amG,amH];rw[if_pos];obtain⟨i,g1,g2,g3⟩:=least h x hx;rw[aoz];refine⟨cyc p i,?_,?_⟩
 ·unfold cys gG
  exact aoL.2 ⟨i,aoS.2 ⟨amn.2 qqO,g2⟩,rfl⟩
 ·rw[List.contains_iff_mem,NT h qqO]
  exact g3
theorem ahD {p:List Int} {x t:Nat} (ht:t<per p x):0≤(cyc p x).getD t 0:=by rw[BX p x t ht];omega
theorem aiI {p:List Int} (h:OK p) {x t:Nat} (hx:x<p.length) (ht:t<per p x) (k:Int):
 (cyc p x).getD (((t:Int)+k % (per p x:Nat)) % (per p x:Nat)).toNat 0=((pw p k ((cyc p x).getD t 0).toNat:Nat):Int):=by
 obtain⟨h1,h2,h3,h4⟩:=eB h hx;have hm0:=aoi k (show((per p x:Nat):Int)≠0 by omega)
 have hm1:=aoj k (show 0<((per p x:Nat):Int) by omega)
 unfold pw;rw[BX p x t ht,amI,su h hx t,←jW];generalize hr:k % (per p x:Nat)=r at*
 obtain⟨m,rfl⟩:=Int.eq_ofNat_of_zero_le hm0;rw[amI,show((t:Int)+(m:Int)) % ((per p x:Nat):Int)=(((t+m) % per p x:Nat):Int) by rw[Int.natCast_emod];rfl,amI]
 rw[BX p x _ (Nat.mod_lt _ h1),JY h hx,Nat.add_comm]
theorem zX {α:Type} {L:List (List Int)} {f:List Int→α} {i:Nat} {x:α} (hx:(L.map f)[i]? =some x):i<L.length∧x=f (L.getD i []):=by
 rw[alJ]at hx;cases h:L[i]? with
 |none=>rw[h]at hx;cases hx
 |some y=>
  rw[h]at hx;cases hx
  exact⟨(amq.1 h).1,by rw[akG,h];rfl⟩
end Go.Eng.Pm
namespace Go.Eng.YtmkagljofpddpaaGreatDoor
open Go.Proofs Go.Eng.Pm
set_option linter.unusedSimpArgs false
set_option linter.unusedVariables false
set_option maxHeartbeats 0
set_option maxRecDepth 100000
def cyF (p:List Int):PV:=.fn (.func 217) [] [.ip (.pv [.isl (.ints .i64 p) .none]) 0]
theorem Ed (p:List Int):(cys p).length≤p.length:=J2 p _
def hsC (l:List (List Int)):Nat→List (Nat × AO):=fun i=>[(0,.cells (.pv [.isl (.rows .i64 (l.take i)) (.own 5)]) false),(5,.tok 1 i)]
theorem VP (p:List Int) (h:OK p) (hl:p.length≤1000000):aD Tryz.prog 218 [.nils,cyF p] (.isl (.rows .i64 (cys p)) .none):=by
 have hI:=xA p h hl;have hcl:=Ed p;generalize cys p=l at hI hcl⊢
 refine ay (md:=1) (rf:=[]) mixed av aG Tryz.func218 qqR qqR qqR ?_
 repeat'((conv=>whnf);first|intro _|apply aI|exact aj|apply nM|apply fM)
 all_goals((try apply vM);(try simp only[vq]at*);try omega)
 conv=>whnf
 refine zu aL mixed av aG (fun r=>aU) (fs:=[]) (cs:=[.ip (.pv [.isl (.ints .i64 p) .none]) 0]) (l.map zW) (fun _=>true) (hsC l) qqR qqR qqR hI qqR qqR qqR qqR ?_ ?_ ?_
 ·all_goals exact aW
 ·intro hall
  rw[aoE]
  repeat'((conv=>whnf);first|intro _|apply aI|exact aj|apply nM|apply fM)
  all_goals((try apply vM);(try simp only[vq]at*);try omega)
  all_goals(try rw[amJ])
  all_goals exact Sup.of rfl
 ·intro i x hx hall lp
  obtain⟨hi,rfl⟩:=zX hx;have e1:(l.take i).length=i:=by rw[alm];omega
  have e2:l.take i++[l.getD i []]=l.take (i+1):=by
   rw[aoQ,akG,akL hi];rfl
  repeat'((conv=>whnf);first|intro _|apply aI|exact aj|apply nM|apply fM)
  all_goals((try apply vM);(try simp only[vq]at*);try omega)
  all_goals(try(simp only[alQ,alm,akq,akm];omega))
  refine⟨[],?_⟩
  repeat'((conv=>whnf);first|intro _|apply aI|exact aj|apply nM|apply fM)
  all_goals((try apply vM);(try simp only[vq]at*);try omega)
  all_goals(try(rw[e2]))
def RH:PSp:=fun xs K=>match xs with
 | [.nils,.fn (.func f) [] [.ip (.pv [.isl (.ints .i64 p) .none]) 0]]=>VC (f=217∧OK p∧p.length≤1000000)∧K (.isl (.rows .i64 (cys p)) .none)
 |_=>False
theorem ae9:POK Tryz.prog 218 RH:=by
 intro xs K hk;unfold RH at hk;split at hk
 ·obtain⟨⟨rfl,h,hl⟩,hk⟩:=hk
  exact⟨_,hk,VP _ h hl⟩
 ·exact hk.elim
noncomputable def akb:CPT:=aB 218 (GI RH) noC
theorem afa:bD Tryz.prog akb:=au (IW ae9) aG
theorem VQ (p:List Int) (h:OK p) (hl:p.length≤1000000):aD Tryz.prog 168 [cyF p] (.isl (.rows .i64 (cys p)) .none):=by
 refine ay (md:=1) (rf:=[]) mixed av afa Tryz.func168 qqR qqR qqR ?_
 repeat'((conv=>whnf);first|intro _|apply aI|exact aj|apply nM|apply fM)
 all_goals((try apply vM);(try simp only[vq]at*);try omega)
 all_goals first|exact⟨h,hl⟩|exact⟨rfl,h,hl⟩|exact Sup.of rfl
def RI:PSp:=fun xs K=>match xs with
 | [.fn (.func f) [] [.ip (.pv [.isl (.ints .i64 p) .none]) 0]]=>VC (f=217∧OK p∧p.length≤1000000)∧K (.isl (.rows .i64 (cys p)) .none)
 |_=>False
theorem afb:POK Tryz.prog 168 RI:=by
 intro xs K hk;unfold RI at hk;split at hk
 ·obtain⟨⟨rfl,h,hl⟩,hk⟩:=hk
  exact⟨_,hk,VQ _ h hl⟩
 ·exact hk.elim
def RJ:PSp:=fun xs K=>match xs with
 | [.isl (.ints .i64 p) .none]=>K (cyF p)
 |_=>False
theorem VR:POK Tryz.prog 167 RJ:=by
 intro xs K hk;unfold RJ at hk;split at hk
 ·exact⟨_,hk,LQ _⟩
 ·exact hk.elim
noncomputable def akc:CPT:=aB 168 (GI RI) (aB 167 (aP RJ) Zg)
theorem Oq:bD Tryz.prog akc:=au (IW afb) (au (aC VR) lT)
theorem ahE (e:Int):Sup (dX [PV.nils,.int .i64 e]) (.tup [.isl (.rows .i64 []) .none,.int .i64 e]):=by all_goals(refine Sup.via ?_;repeat'((conv=>whnf);first|intro _|apply aI|exact aj|apply nM|apply fM);all_goals((try apply vM);(try simp only[vq]at*);try omega);all_goals(try(simp[CL.sub];done)))
theorem xB (p:List Int) (hp:p.length≤1000000):aD Tryz.prog 84 [.isl (.ints .i64 p) .none] (.tup [.isl (.rows .i64 (if bZ 5 p=0 then cys p else [])) .none,.int .i64 (bZ 5 p)]):=by
 by_cases h:bZ 5 p=0
 ·have hP:=oD qqD h
  rw[if_pos h];refine ay (md:=1) (rf:=[]) mixed av Oq Tryz.func84 qqR qqR qqR ?_
  repeat'((conv=>whnf);first|(intro hq;(try simp only[vw]at hq);try exact ak hq)|apply aI|exact aj|apply nM|apply fM)
  all_goals((try apply vM);(try simp only[vq]at*);try omega)
  all_goals first|contradiction|exact⟨hP,hp⟩|exact⟨rfl,hP,hp⟩|(rw[h];exact Sup.of rfl)
 ·rw[if_neg h]
  refine ay (md:=1) (rf:=[]) mixed av Oq Tryz.func84 qqR qqR qqR ?_
  repeat'((conv=>whnf);first|(intro hq;(try simp only[vw]at hq);try exact ak hq)|apply aI|exact aj|apply nM|apply fM)
  all_goals((try apply vM);(try simp only[vq]at*);try omega)
  all_goals first|(exfalso;contradiction)|exact ahE _
def sgT (l:List (List Int)):Int:=l.foldl (fun s c=>if c.length % 2=0 then 0-s else s) 1
theorem xC (l:List (List Int)):sgT l=1∨sgT l= -1:=by
 have:∀(l:List (List Int)) (s:Int),s=1∨s= -1→l.foldl (fun s c=>if c.length % 2=0 then 0-s else s) s=1∨l.foldl (fun s c=>if c.length % 2=0 then 0-s else s) s= -1:=by
  intro l;induction l with
  |nil=>intro s h;exact h
  |cons c l ih=>intro s h;exact ih _ (by simp only;split<;>omega)
 exact this l 1 (.inl rfl)
theorem Zl {l:List (List Int)} {i:Nat} (hi:i<l.length):sgT (l.take (i+1))=if(l.getD i []).length % 2=0 then 0-sgT (l.take i)else sgT (l.take i):=by
 have e2:l.take (i+1)=l.take i++[l.getD i []]:=by
  rw[aoQ,akG,akL hi];rfl
 rw[e2,sgT,List.foldl_append];rfl
noncomputable def akd:CPT:=aB 167 (aP RJ) Zg
theorem nu:bD Tryz.prog akd:=au (aC VR) lT
def hsS (l:List (List Int)):Nat→List (Nat × AO):=fun i=>[(4,.cells (.pv [.int .i64 (sgT (l.take i))]) false)]
theorem Ck (p:List Int) (hp:p.length≤1000000) (h:bZ 5 p=0):aD Tryz.prog 85 [.isl (.ints .i64 p) .none] (.tup [.int .i64 (sgT (cys p)),.int .i64 0]):=by
 have hP:=oD qqD h;have hI:=xA p hP hp;have hcl:=Ed p;have hle:∀i,i<(cys p).length→((cys p).getD i []).length≤p.length:=fun i hi=>by
  obtain⟨x,h1,h2,h3⟩:=Oo hi;rw[h3,kF];exact(eB hP h1).2.1
 generalize cys p=l at hI hcl hle⊢
 refine ay (md:=1) (rf:=[]) mixed av nu Tryz.func85 qqR qqR qqR ?_
 repeat'((conv=>whnf);first|(intro hq;(try simp only[vw]at hq);try exact ak hq)|apply aI|exact aj|apply nM|apply fM)
 all_goals((try apply vM);(try simp only[vq]at*);try omega)
 all_goals(try contradiction)
 conv=>whnf
 refine zu aL mixed av nu (fun r=>aU) (fs:=[]) (cs:=[.ip (.pv [.isl (.ints .i64 p) .none]) 0]) (l.map zW) (fun _=>true) (hsS l) qqR qqR qqR hI qqR qqR qqR qqR ?_ ?_ ?_
 ·all_goals exact aW
 ·intro hall
  rw[aoE]
  repeat'((conv=>whnf);first|intro _|apply aI|exact aj|apply nM|apply fM)
  all_goals((try apply vM);(try simp only[vq]at*);try omega)
  all_goals(try rw[amJ])
  all_goals first|exact Sup.of rfl
 ·intro i x hx hall lp
  obtain⟨hi,rfl⟩:=zX hx;have e1:=xC (l.take i);have e2:=Zl hi;have e3:=hle i hi;generalize l.getD i []=c at*
  have htm:(c.length:Int).tmod 2=((c.length % 2:Nat):Int):=by rw[aok qqO];omega
  repeat'((conv=>whnf);first|(intro hq;(try simp only[vw]at hq);try exact ak hq)|apply aI|exact aj|apply nM|apply fM)
  all_goals((try apply vM);(try simp only[vq]at*);try omega)
  all_goals first
   |omega
   |(refine⟨[],?_⟩
     simp only[hsS,e2];first|rw[if_pos qqO]|rw[if_neg qqO]
     repeat'((conv=>whnf);first|intro _|apply aI|exact aj|apply nM|apply fM)
     all_goals((try apply vM);(try simp only[vq]at*);try omega)
     all_goals first|omega|skip)
theorem VT (p:List Int) (hp:p.length≤1000000):aD Tryz.prog 85 [.isl (.ints .i64 p) .none] (.tup [.int .i64 (if bZ 5 p=0 then sgT (cys p)else 0),.int .i64 (bZ 5 p)]):=by
 by_cases h:bZ 5 p=0
 ·rw[if_pos h,h];exact Ck p hp h
 ·rw[if_neg h]
  refine ay (md:=1) (rf:=[]) mixed av nu Tryz.func85 qqR qqR qqR ?_
  repeat'((conv=>whnf);first|(intro hq;(try simp only[vw]at hq);try exact ak hq)|apply aI|exact aj|apply nM|apply fM)
  all_goals((try apply vM);(try simp only[vq]at*);try omega)
  all_goals first|(exfalso;contradiction)|exact Sup.of rfl
end Go.Eng.YtmkagljofpddpaaGreatDoor
