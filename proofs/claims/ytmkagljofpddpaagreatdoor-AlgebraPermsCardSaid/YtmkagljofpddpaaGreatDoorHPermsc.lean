/- Contracts of functions of the program: what each returns. Their conditions stand in them. -/
import Derived.Test.YtmkagljofpddpaaGreatDoorHPermsb
open Bool renaming false_eq_true→akC,eq_false_iff→an0,not_true→aku,not_false→akt,or_false→anJ,or_true→an2
open Classical renaming byContradiction→anZ
open Int renaming toNat_natCast→alR,emod_nonneg→anr,emod_lt_of_pos→ant,tmod_eq_emod_of_nonneg→anu,le_refl→anV,toNat→amj
open List renaming getD_eq_getElem?_getD→ajQ,getElem?_eq_getElem→ajV,getElem_mem→anO,getElem_of_mem→ajU,length_map→anP,length_set→ake,length_append→akY,length_cons→ajA,length_nil→ajw,map_append→amZ,range→ajO,ext_getElem→alL,getElem_set→alO,getElem_map→alP,getElem_range→alQ,map_congr_left→alN,mem_range→aly,mem_append→ajR,range_succ→am4,filter_append→anS,getElem?_append_left→alB,replicate→ajZ,getElem?_append→akN,length_replicate→anT,getElem?_replicate→akV,length_take→akw,mem_map→anW,mem_replicate→anX,any_eq_true→anK,take→amM,drop→amN,drop_zero→am7,take_of_length_le→am6,getElem?_map→akR,all_eq_true→alm,take_add_one→an1,take_length→alS,getElem?_eq_some_iff→alA,mem_filter→an3
open Nat renaming zero_le→akA,le_trans→ajI,mul_one→aj9,zero_add→aj2,add_zero→ajx,lt_irrefl→anQ,lt_succ_self→anR,le_refl→ajE,sub_zero→anU,min_eq_left→aks,beq→ajW,zero_div→anY,zero_mul→akD,succ_mul→ajD,mul_le_mul_right→akh
open Option renaming getD_some→aky
namespace Go.Eng.YtmkagljofpddpaaGreatDoor
open Go.Proofs Go.Eng.Dig Go.Eng.Dec Go.Eng.ElG
set_option linter.unusedSimpArgs false
set_option linter.unusedVariables false
set_option maxHeartbeats 0
set_option maxRecDepth 100000
theorem eB:P8.size=1:=by rfl
theorem BP:P7.size=1:=by rfl
structure CXf where
 c:Nat
 l:List Nat
 D:bL Fr
structure CIf (cols w m:Nat) (M0:bL Fr) (l0:List Nat) (x:CXf):Prop where
 hc:x.c≤cols
 hl:x.l.length=m
 hn:x.l.Nodup
 hi:∀b,b∈l0→b∈x.l
 ho:∀r,r<m→x.l.getD r 0∈l0
 hD:∀r,r<m→∀j,x.D (x.l.getD r 0) j=(aN Ff w m M0 x.c).M r j
structure RXf where
 i:Nat
 D:bL Fr
structure RIf (w m:Nat) (M:bL Fr) (n c:Nat) (L:List Nat) (x:RXf):Prop where
 hi:x.i≤m
 hD:∀r,r<m→∀j,x.D (L.getD r 0) j=if r<x.i then dD Ff w M n c r j else M r j
abbrev fnM (w:Nat) (D:bL Fr):RC:=.fn 4 w fun b j=>frC (D b j)
theorem ad8 {a b:Fr} (h:frC a=frC b):a=b:=by
 obtain⟨⟨s,w⟩,⟨t,v⟩⟩:=a;obtain⟨⟨s',w'⟩,⟨t',v'⟩⟩:=b;simp only[frC,List.cons.injEq,PV.int.injEq,PV.nnl.injEq,CL.ints.injEq,true_and,and_true]at h;obtain⟨rfl,rfl,rfl,rfl⟩:=h;rfl
noncomputable def BQ (g:Nat→Nat→List PV):bL Fr:=fun b=>open Classical in if h:∃d:Nat→Fr,g b=fun j=>frC (d j)then h.choose else fun _=>⟨⟨0,[]⟩,⟨0,[]⟩⟩
theorem J5 {g:Nat→Nat→List PV} {b:Nat} {d:Nat→Fr} (h:g b=fun j=>frC (d j)):(g b=fun j=>frC (BQ g b j))∧BQ g b=d:=by
 have hx:∃d:Nat→Fr,g b=fun j=>frC (d j):=⟨d,h⟩;have e:BQ g b=hx.choose:=by unfold BQ;rw[dif_pos hx]
 have h2:=hx.choose_spec;rw[e];refine⟨h2,funext fun j=>?_⟩;exact(ad8 (congrFun (h.symm.trans h2) j)).symm
def odC (P:List Int) (H:List (List PV)) (o:Bool):List PV:=[.nils,.isl (.ints .i64 P) (.own 4),.isl (.recs 4 H) (.own 5),.bp o]
theorem zF {m w cols b:Nat} {M0:bL Fr} (hm:1≤m∧m≤256) (hw:w≤1000) (hcw:cols≤w) (h0:∀r,r<m→∀j,j<w→GL b 0 (M0 r j)) (hB:Bd b m≤1000000000):
 dI Tryz.prog 131 [.agg [],.rsl 0 0 m,.int .i64 (cols:Int)] [.pmat m (fnM w M0)]
  [.agg [.rsl 0 0 (aN Ff w m M0 cols).piv.length,.isl (.ints .i64 (pvI (aN Ff w m M0 cols).piv)) .none,.isl (.recs 4 ((aN Ff w m M0 cols).heads.map frC)) .none,.bp (aN Ff w m M0 cols).odd]] [.pmat m (fnM w (aN Ff w m M0 cols).M)]:=by
 refine FX (pre:=[]) (post:=[]) (enters' Tryz.func131 (by rfl) (by rfl)) fun l g hl hnd hg=>?_
 obtain⟨D0,hD0⟩:∃D0:bL Fr,D0=BQ g:=⟨_,rfl⟩;have hlm:∀r,r<m→l.getD r 0∈l:=fun r hr=>by
  rw[ajQ,ajV (by omega)];exact anO _
 have h00:∀i,i<m→∀j,D0 (l.getD i 0) j=M0 i j:=fun i hi j=>by
  rw[hD0,(J5 (hg i hi)).2]
 have hgb:∀b,b∈l→g b=fun j=>frC (D0 b j):=fun b hb=>by
  obtain⟨i,hi,rfl⟩:=ajU hb;have:=hg i (by omega)
  rw[ajQ,ajV hi]at this;rw[hD0];exact(J5 this).1
 have hlen:=fun c=>fE Ff w m M0 c;have hhom:=fun c hc=>iZ (yt b) (M':=fun i j=>(M0 i j).val) (fun r hr j hj=>⟨h0 r hr j hj,rfl⟩) c (show c≤w from hc);refine dW (md:=0) (rf:=[]) mixed av kr 1 [] Tryz.func131 (by rfl) (by rfl) (by rfl) ?_
 conv=>whnf
 refine aU (X:=CXf) (CIf cols w m M0 l) (fun x=>[(17,.int .i64 x.c)]) (fun x=>[(0,.mat l x.l (fnM w x.D)),(3,.cells (.pv (odC (pvI (aN Ff w m M0 x.c).piv) ((aN Ff w m M0 x.c).heads.map frC) (aN Ff w m M0 x.c).odd)) false),
  (4,.tok 1 (aN Ff w m M0 x.c).piv.length),(5,.tok 4 (aN Ff w m M0 x.c).heads.length)]) (fun x=>cols-x.c) ⟨0,l,D0⟩ ⟨aJ,mixed,av,kr,aR⟩ (by rfl) ?_ ?_ ?_
 ·exact⟨akA _,hl,hnd,fun _ h=>h,hlm,h00⟩
 ·all_goals exact aW
 ·rintro⟨c,lx,D⟩ ⟨x1,x2,x3,x4,x5,x6⟩
  simp only at x1 x2 x3 x4 x5 x6;obtain⟨y1,y2,y3⟩:=hlen c;have hsucc:aN Ff w m M0 (c+1)=iU Ff w m (aN Ff w m M0 c) c:=rfl;by_cases hcw2:c<cols
  ·obtain⟨h1,_,_,_,_⟩:=hhom c (by omega)
   have hG:∀r,r<m→∀j,j<w→GL b (aN Ff w m M0 c).piv.length ((aN Ff w m M0 c).M r j):=fun r hr j hj=>(h1 r hr j hj).1;clear h1 hhom hlen;generalize aN Ff w m M0 c=S at*
   have hPn:(pvI S.piv).length=S.piv.length:=by simp[pvI]
   have hHn:(S.heads.map frC).length=S.piv.length:=by rw[anP,y3]
   have hBn:Bd b S.piv.length≤1000000000:=ajI (lG b (by omega)) hB
   have hZ:∀r,r<m→(S.M r c).OK:=fun r hr=>(hG r hr c (by omega)).ok
   generalize hP:pvI S.piv=P at*
   generalize hH:S.heads.map frC=H at*
   generalize hO:S.odd=od at*
   rw[←hPn]at hG hBn
   repeat'((conv=>whnf);first|(intro hq;(try simp only[vw]at hq);try exact ak hq)|apply aI|exact aj|apply nM|apply fM)
   all_goals((try apply vM);(try simp only[vq]at*);try omega)
   conv=>whnf
   refine aU (X:=Nat) (fun a=>(P.length≤a∧a≤m)∧∀r,P.length≤r→r<a→Ff.z (S.M r c)=true) (fun a=>[(10,.int .i64 a)]) (fun _=>[]) (fun a=>m-a) P.length ⟨aJ,mixed,av,kr,aR⟩ (by rfl) ⟨by omega,fun r h1 h2=>by omega⟩ ?_ ?_
   ·all_goals exact eT
   ·rintro a ⟨⟨ha1,ha2⟩,haz⟩
    by_cases ham:a<m
    ·have ea:D (lx.getD a 0) c=S.M a c:=x6 a ham c
     have hnm:P.length<m:=by omega
     have hL:∀r,r<m→(swl lx P.length a).getD r 0∈l:=fun r hr=>by
      rw[tY (by omega) (by omega)];exact x5 _ (Br hnm ham hr)
     have hza:=hZ a ham;have hza':(D (lx.getD a 0) c).OK:=by rw[ea];exact hza
     have hsw:lx.getD a 0=(swl lx P.length a).getD P.length 0:=by rw[lq (by omega) (by omega),if_pos rfl]
     have hfb:FB (D (lx.getD a 0) c):=by rw[ea];exact(hG a ham c (by omega)).fb (by omega)
     repeat'((conv=>whnf);first|(intro hq;(try simp only[vw]at hq);try exact ak hq)|apply aI|exact aj|apply nM|apply fM)
     all_goals((try apply vM);(try simp only[vq]at*);try omega)
     all_goals(try first|rfl|(simp only[BP,eB,rZ,aj9,aj2,ajx,alR,ake,x2,cK,akY,chunks,ajA,ajw];first|omega|exact x5 _ (by omega)|exact hza'|exact hL _ hnm))
     ·simp only[eB,aj9,cK,ea]at hq
      refine⟨a+1,[],⟨⟨by omega,fun r h1 h2=>?_⟩,by omega⟩,?_⟩
      ·by_cases er:r=a
       ·subst er;exact decide_eq_true hq
       ·exact haz r h1 (by omega)
      ·all_goals exact eT
     ·rename_i hq1
      simp only[eB,aj9,cK]at hq1⊢;rw[show((lx.set P.length (lx.getD a 0)).set a (lx.getD P.length 0))=swl lx P.length a from rfl,←hsw];exact⟨hfb,hq1⟩
     rename_i hq1;simp only[eB,rZ,aj9,cK]at hq1⊢;have g1:∀r,(swl lx P.length a).getD r 0=if r=P.length then lx.getD a 0 else if r=a then lx.getD P.length 0 else lx.getD r 0:=fun r=>lq (by omega) (by omega)
     have g2:(swl lx P.length a).length=m:=by simp[swl,x2]
     have g3:=EZ (n:=P.length) (a:=a) (by omega) (by omega) x3
     have g4:∀b,b∈l→b∈swl lx P.length a:=fun b hb=>MK (by omega) (by omega) (x4 b hb)
     have g5:∀r,r<m→∀j,D ((swl lx P.length a).getD r 0) j=fZ S.M P.length a r j:=fun r hr j=>by
      rw[g1];unfold fZ;by_cases h1:r=P.length
      ·rw[if_pos h1,if_pos h1];exact x6 a ham j
      ·rw[if_neg h1,if_neg h1]
       by_cases h2:r=a
       ·rw[if_pos h2,if_pos h2];exact x6 _ hnm j
       ·rw[if_neg h2,if_neg h2];exact x6 r hr j
     have g6:∀r,r<m→∀j,j<w→GL b P.length (fZ S.M P.length a r j):=fun r hr j hj=>by
      unfold fZ;by_cases h1:r=P.length
      ·rw[if_pos h1];exact hG a ham j hj
      ·rw[if_neg h1]
       by_cases h2:r=a
       ·rw[if_pos h2];exact hG _ hnm j hj
       ·rw[if_neg h2];exact hG r hr j hj
     have hfz:Ff.z (S.M a c)=false:=decide_eq_false (by rw[←ea];exact hq1)
     have hfind:findAt Ff S.M c S.piv.length m=a:=by
      rw[←hPn];exact wF ham (by omega) hfz (fun r h1 h2=>haz r (by omega) h2)
     rw[show((lx.set P.length (lx.getD a 0)).set a (lx.getD P.length 0))=swl lx P.length a from rfl];generalize swl lx P.length a=L at*
     generalize hM1:fZ S.M P.length a=M1 at*
     have hs:D (L.getD P.length 0) c=M1 P.length c:=g5 _ hnm c;rw[hs];have hbn:=hL _ hnm;generalize hbd:L.getD P.length 0=bn at*
     have e1:∀j,D bn j=M1 P.length j:=fun j=>by rw[←hbd];exact g5 _ hnm j
     generalize hsv:M1 P.length c=sv at*
     obtain⟨iv,hiv⟩:∃iv,iv=can (sv.val⁻¹):=⟨_,rfl⟩;have giv:FB iv∧iv.L≤1000000000:=by
      have h1:=g6 _ hnm c (by omega)
      rw[hsv]at h1;have h2:=QM sv;have h3:=h1.le;rw[hiv];exact⟨⟨dY _,by omega⟩,by omega⟩
     rw[←hiv];conv=>whnf
     refine aU (X:=Nat) (fun k=>k≤w) (fun k=>[(30,.any),(80,.any),(94,.int .i64 k)]) (fun k=>[(0,.mat l L (fnM w (fun b j=>if b=bn∧j<k then can ((D b j).val*iv.val)else D b j)))]) (fun k=>w-k) 0 ⟨aJ,mixed,av,kr,aR⟩ (by rfl) (by omega) ?_ ?_
     ·all_goals exact EA
     ·intro k hk
      by_cases hkw:k<w
      ·have e2:=e1 k
       have e3:=g6 _ hnm k hkw;have e4:FB (D bn k):=by rw[e2];exact e3.fb (by omega)
       repeat'((conv=>whnf);first|(intro hq;(try simp only[vw]at hq);try exact ak hq)|apply aI|exact aj|apply nM|apply fM)
       all_goals((try apply vM);(try simp only[vq]at*);try omega)
       all_goals(try first|rfl|(simp only[BP,eB,rZ,aj9,aj2,ajx,alR,ake,g2,hbd,cK,akY,chunks,ajA,ajw];first|omega|exact hL _ (by omega)|assumption))
       ·simp only[eB,aj9,hbd,cK]
        rw[if_neg (fun h=>absurd h.2 (anQ _))];exact⟨e4,giv.1⟩
       ·refine⟨k+1,[],⟨by omega,by omega⟩,?_⟩
        simp only[eB,aj9,hbd,cK]
        repeat'((conv=>whnf);first|intro _|apply aI|exact aj|apply nM|apply fM)
        all_goals((try apply vM);(try simp only[vq]at*);try omega)
        intro b hb;unfold bB;by_cases eb:b=bn
        ·subst eb
         rw[if_pos rfl];refine funext fun j=>?_;by_cases ej:j=k
         ·subst ej
          simp only[true_and,anQ,and_false,if_false,if_true,anR]
         ·have hx:(j<k+1)=(j<k):=propext ⟨fun h=>by omega,fun h=>by omega⟩
          simp only[if_neg ej,true_and,hx]
        ·rw[if_neg eb]
         refine funext fun j=>congrArg frC ?_;rw[if_neg (fun h=>eb h.1),if_neg (fun h=>eb h.1)]
      ·have hkk:k=w:=by omega
       subst hkk;obtain⟨D2,hD2⟩:∃D2:bL Fr,D2=fun b j=>if b=bn∧j<k then can ((D b j).val*iv.val)else D b j:=⟨_,rfl⟩;have d1:∀r,r<m→∀j,D2 (L.getD r 0) j=dM Ff k M1 P.length iv r j:=fun r hr j=>by
        rw[hD2];unfold dM;by_cases er:r=P.length
        ·subst er
         rw[if_pos rfl];simp only[hbd,true_and];by_cases ej:j<k
         ·rw[if_pos ej,if_pos ej,e1 j];rfl
         ·rw[if_neg ej,if_neg ej,e1 j]
        ·have:L.getD r 0≠bn:=fun h=>er ((jQ.1 g3) r P.length (by omega) (by omega) (h.trans hbd.symm))
         simp only;rw[if_neg (fun h=>this h.1),if_neg er];exact g5 r hr j
       have d2:∀r,r<m→∀j,j<k→FB (dM Ff k M1 P.length iv r j)∧(dM Ff k M1 P.length iv r j).L≤2000000000:=fun r hr j hj=>by
        unfold dM;by_cases er:r=P.length
        ·subst er
         rw[if_pos rfl,if_pos hj];have h1:=g6 _ hnm j hj;have h2:=h1.le;have h3:=qP (M1 P.length j) iv;have h4:=giv.2;exact⟨⟨dY _,by show(can _).L≤_;omega⟩,by show(can _).L≤_;omega⟩
        ·rw[if_neg er]
         have h1:=g6 r hr j hj;have h2:=h1.le;exact⟨h1.fb (by omega),by omega⟩
       have hM2c:∀r,r<m→r≠P.length→(dM Ff k M1 P.length iv r c)=M1 r c∧(M1 r c).L≤1000000000:=fun r hr h=>by
        have h1:=(g6 r hr c (by omega)).le
        exact⟨by unfold dM;rw[if_neg h],by omega⟩
       generalize hM2:dM Ff k M1 P.length iv=M2 at*
       rw[show(fnM k fun b j=>if b=bn∧j<k then can ((D b j).val*iv.val)else D b j)=fnM k D2 by rw[hD2]]
       clear hD2
       repeat'((conv=>whnf);first|(intro hq;(try simp only[vw]at hq);try exact ak hq)|apply aI|exact aj|apply nM|apply fM)
       all_goals((try apply vM);(try simp only[vq]at*);try omega)
       conv=>whnf
       refine aU (X:=RXf) (RIf k m M2 P.length c L) (fun x=>[(117,.int .i64 x.i)]) (fun x=>[(0,.mat l L (fnM k x.D))]) (fun x=>m-x.i) ⟨0,D2⟩ ⟨aJ,mixed,av,kr,aR⟩ (by rfl) ⟨akA _,fun r hr j=>by show _=if r<0 then _ else _;rw[if_neg (by omega)];exact d1 r hr j⟩ ?_ ?_
       ·all_goals exact eT
       ·rintro⟨i,D3⟩ ⟨i1,i2⟩
        simp only at i1 i2;by_cases him:i<m
        ·have hiw:D3 (L.getD i 0) c=M2 i c:=by rw[i2 i him c,if_neg (by omega)]
         have hbi:=hL _ him;have ti:=d2 i him c (by omega)
         have f1:∀j,D3 (L.getD i 0) j=M2 i j:=fun j=>by rw[i2 i him j,if_neg (by omega)]
         have f2:∀j,D3 bn j=M2 P.length j:=fun j=>by
          rw[←hbd,i2 _ hnm j];split
          ·unfold dD;rw[if_pos (.inl rfl)]
          ·rfl
         have tok:(D3 (L.getD i 0) c).OK:=by rw[hiw];exact ti.1.ok
         repeat'((conv=>whnf);first|(intro hq;(try simp only[vw]at hq);try exact ak hq)|apply aI|exact aj|apply nM|apply fM)
         all_goals((try apply vM);(try simp only[vq]at*);try omega)
         all_goals(try first|rfl|(simp only[BP,eB,rZ,aj9,aj2,ajx,alR,ake,g2,hbd,cK];first|omega|exact hL _ (by omega)|exact tok))
         ·have hz:=hq
          simp only[eB,aj9,cK,hiw]at hz;refine⟨⟨i+1,D3⟩,[],⟨⟨by(show i+1≤m);omega,fun r hr j=>?_⟩,by(show m-(i+1)<m-i);omega⟩,?_⟩
          ·show D3 (L.getD r 0) j=if r<i+1 then dD Ff k M2 P.length c r j else M2 r j
           rw[i2 r hr j];by_cases e5:r<i
           ·rw[if_pos e5,if_pos (by omega)]
           ·rw[if_neg e5]
            by_cases e6:r=i
            ·subst e6
             rw[if_pos (by omega)]
             unfold dD;rw[if_pos (.inr (decide_eq_true hz))]
            ·rw[if_neg (by omega)]
          ·all_goals exact eT
         ·have hz:=hq
          simp only[eB,rZ,aj9,cK,hiw]at hz⊢;have hni:i≠P.length:=by omega
          have hne:L.getD i 0≠bn:=fun h=>by
           have:=(jQ.1 g3) i P.length (by omega) (by omega) (h.trans hbd.symm)
           omega
          obtain⟨hq1',hq2'⟩:=hM2c i him hni;rw[←hq1']at hq2';generalize hbi2:L.getD i 0=bi at*
          generalize htv:M2 i c=tv at*
          conv=>whnf
          refine aU (X:=Nat) (fun q=>q≤k) (fun q=>[(132,.any),(141,.int .i64 q)]) (fun q=>[(0,.mat l L (fnM k (fun b j=>if b=bi∧j<q then iA (D3 b j) (can (tv.val*(M2 P.length j).val))else D3 b j)))]) (fun q=>k-q) 0 ⟨aJ,mixed,av,kr,aR⟩ (by rfl) (by omega) ?_ ?_
          ·all_goals exact EA
          ·intro q hqk
           by_cases hqw:q<k
           ·have u1:=f1 q
            have u2:=f2 q;have u3:=d2 _ hnm q hqw;have u4:=d2 _ him q hqw;have u5:=qP tv (M2 P.length q);have u6:FB (can (tv.val*(M2 P.length q).val)):=⟨dY _,by omega⟩
            repeat'((conv=>whnf);first|(intro hq;(try simp only[vw]at hq);try exact ak hq)|apply aI|exact aj|apply nM|apply fM)
            all_goals((try apply vM);(try simp only[vq]at*);try omega)
            all_goals(try first|rfl|(simp only[BP,eB,rZ,aj9,aj2,ajx,alR,ake,g2,hbd,hbi2,cK];first|omega|exact hL _ (by omega)|assumption))
            ·simp only[eB,aj9,hbd,cK]
             rw[if_neg (fun h=>hne h.1.symm),u2];exact⟨ti.1,u3.1⟩
            ·simp only[eB,aj9,hbd,hbi2,cK]
             rw[if_neg (fun h=>absurd h.2 (anQ _)),if_neg (fun h=>hne h.1.symm),u1,u2];exact⟨u4.1,u6⟩
            ·refine⟨q+1,[],⟨by omega,by omega⟩,?_⟩
             simp only[eB,aj9,hbd,hbi2,cK]
             repeat'((conv=>whnf);first|intro _|apply aI|exact aj|apply nM|apply fM)
             all_goals((try apply vM);(try simp only[vq]at*);try omega)
             intro b hb;unfold bB;by_cases eb:b=bi
             ·subst eb
              rw[if_pos rfl];refine funext fun j=>?_;by_cases ej:j=q
              ·subst ej
               simp only[true_and,anQ,and_false,if_false,if_true,anR,u2]
              ·have hx:(j<q+1)=(j<q):=propext ⟨fun h=>by omega,fun h=>by omega⟩
               simp only[if_neg ej,true_and,hx]
             ·rw[if_neg eb]
              refine funext fun j=>congrArg frC ?_;rw[if_neg (fun h=>eb h.1),if_neg (fun h=>eb h.1)]
           ·have hqq:q=k:=by omega
            subst hqq
            repeat'((conv=>whnf);first|(intro hq;(try simp only[vw]at hq);try exact ak hq)|apply aI|exact aj|apply nM|apply fM)
            all_goals((try apply vM);(try simp only[vq]at*);try omega)
            refine⟨⟨i+1,fun b j=>if b=bi∧j<q then iA (D3 b j) (can (tv.val*(M2 P.length j).val))else D3 b j⟩,[],⟨⟨by(show i+1≤m);omega,fun r hr j=>?_⟩,by(show m-(i+1)<m-i);omega⟩,?_⟩
            ·show(if L.getD r 0=bi∧j<q then iA (D3 (L.getD r 0) j) (can (tv.val*(M2 P.length j).val))else D3 (L.getD r 0) j)=if r<i+1 then dD Ff q M2 P.length c r j else M2 r j
             by_cases er:r=i
             ·subst er
              rw[if_pos (anR r),hbi2];have hcl:dD Ff q M2 P.length c r j=if j<q then iA (M2 r j) (can (tv.val*(M2 P.length j).val))else M2 r j:=by
               unfold dD;rw[htv,if_neg (fun h=>h.elim hni (fun h2=>hz (of_decide_eq_true h2)))];rfl
              rw[hcl,f1 j];by_cases ej:j<q
              ·rw[if_pos ⟨rfl,ej⟩,if_pos ej]
              ·rw[if_neg (fun h=>ej h.2),if_neg ej]
             ·have:L.getD r 0≠bi:=fun h=>er (jQ.1 g3 r i (by omega) (by omega) (h.trans hbi2.symm))
              rw[if_neg (fun h=>this h.1),i2 r hr j];by_cases e5:r<i
              ·rw[if_pos e5,if_pos (by omega)]
              ·rw[if_neg e5,if_neg (by omega)]
            ·all_goals exact eT
         ·have hin:i=P.length:=by omega
          refine⟨⟨i+1,D3⟩,[],⟨⟨by(show i+1≤m);omega,fun r hr j=>?_⟩,by(show m-(i+1)<m-i);omega⟩,?_⟩
          ·show D3 (L.getD r 0) j=if r<i+1 then dD Ff k M2 P.length c r j else M2 r j
           rw[i2 r hr j];by_cases e5:r<i
           ·rw[if_pos e5,if_pos (by omega)]
           ·rw[if_neg e5]
            by_cases e6:r=i
            ·rw[if_pos (by omega)]
             unfold dD;rw[if_pos (.inl (by omega))]
            ·rw[if_neg (by omega)]
          ·all_goals exact eT
        ·have hii:i=m:=by omega
         have hstep:iU Ff k m S c=⟨dD Ff k M2 P.length c,S.piv++[c],S.heads++[sv],S.odd !=decide (P.length≠a)⟩:=by
          have hi2:Ff.inv sv=iv:=hiv.symm;unfold iU;rw[hfind,if_neg (by omega),←hPn,hM1,hsv,hi2,hM2]
         have hpv:pvI (S.piv++[c])=P++[(c:Int)]:=by rw[←hP];simp[pvI]
         have hhd:(S.heads++[sv]).map frC=H++[frC sv]:=by rw[amZ,hH];rfl
         have hl1:(S.piv++[c]).length=S.piv.length+1:=by simp
         have hl2:(S.heads++[sv]).length=S.heads.length+1:=by simp
         repeat'((conv=>whnf);first|(intro hq;(try simp only[vw]at hq);try exact ak hq)|apply aI|exact aj|apply nM|apply fM)
         all_goals((try apply vM);(try simp only[vq]at*);try omega)
         ·rw[akY,ajA,ajw];omega
         ·refine⟨⟨c+1,L,D3⟩,[],⟨⟨by(show c+1≤cols);omega,g2,g3,g4,hL,fun r hr j=>?_⟩,by(show cols-(c+1)<cols-c);omega⟩,?_⟩
          ·show D3 (L.getD r 0) j=(aN Ff k m M0 (c+1)).M r j
           rw[hsucc,hstep,i2 r hr j,if_pos (by omega)]
          ·simp only[hsucc,hstep,hpv,hhd,hl1,hl2,hO]
           repeat'((conv=>whnf);first|intro _|apply aI|exact aj|apply nM|apply fM)
           all_goals((try apply vM);(try simp only[vq]at*);try omega)
           all_goals first
            |exact fun _ _=>trivial
            |(have hd:decide ((P.length:Int)≠(a:Int))=decide (P.length≠a):=decide_eq_decide.2 ⟨fun h=>by omega,fun h=>by omega⟩
              rw[hd];rfl)
    ·have hstep:iU Ff w m S c=S:=by
      unfold iU;rw[qX (fun r h1 h2=>haz r (by omega) (by omega)),if_pos rfl]
     repeat'((conv=>whnf);first|(intro hq;(try simp only[vw]at hq);try exact ak hq)|apply aI|exact aj|apply nM|apply fM)
     all_goals((try apply vM);(try simp only[vq]at*);try omega)
     refine⟨⟨c+1,lx,D⟩,[],⟨⟨by(show c+1≤cols);omega,x2,x3,x4,x5,fun r hr j=>?_⟩,by(show cols-(c+1)<cols-c);omega⟩,?_⟩
     ·show D (lx.getD r 0) j=(aN Ff w m M0 (c+1)).M r j
      rw[hsucc,hstep];exact x6 r hr j
     ·simp only[hsucc,hstep,hP,hH,hO]
      all_goals exact eT
  ·have hcc:c=cols:=by omega
   subst hcc;have hPn:(pvI (aN Ff w m M0 c).piv).length=(aN Ff w m M0 c).piv.length:=by simp[pvI]
   repeat'((conv=>whnf);first|(intro hq;(try simp only[vw]at hq);try exact ak hq)|apply aI|exact aj|apply nM|apply fM)
   all_goals((try apply vM);(try simp only[vq]at*);try omega)
   conv=>whnf
   repeat'((conv=>whnf);first|intro _|apply aI|exact aj|apply nM|apply fM)
   all_goals((try apply vM);(try simp only[vq]at*);try omega)
   all_goals first
    |exact x4 _ (by assumption)
    |omega
    |(refine funext fun j=>congrArg frC ?_;exact x6 _ (by assumption) j)
end Go.Eng.YtmkagljofpddpaaGreatDoor
namespace Go.Eng.YtmkagljofpddpaaGreatDoor
open Go.Proofs Go.Eng.ElG
set_option linter.unusedSimpArgs false
set_option linter.unusedVariables false
set_option maxHeartbeats 0
set_option maxRecDepth 100000
def cO (w:Nat) (f:Nat→Int):List Int:=(ajO w).map f
theorem fC (w:Nat) (f:Nat→Int):(cO w f).length=w:=by simp[cO]
theorem qd {w:Nat} (f:Nat→Int) {j:Nat} (h:j<w):(cO w f).getD j 0=f j:=by
 simp[cO,ajQ,List.getElem?_range h]
theorem qg {w:Nat} (f:Nat→Int) (k:Nat) (v:Int):(cO w f).set k v=cO w (fun j=>if j=k then v else f j):=by
 apply alL
 ·simp[cO]
 ·intro j h1 h2
  simp only[cO,ake,anP,List.length_range]at h1;rw[alO];simp only[cO,alP,alQ];by_cases e:k=j
  ·subst e;simp
  ·rw[if_neg e,if_neg (fun h=>e h.symm)]
theorem ku {w:Nat} {f g:Nat→Int} (h:∀j,j<w→f j=g j):cO w f=cO w g:=by
 unfold cO;exact alN (fun j hj=>h j (aly.1 hj))
def Fp (p:Int):Fld Int:=⟨fun a=>decide (a=0),fun a b=>(a-b+p) % p,fun a b=>a*b % p,fun a=>(mW a p).1⟩
structure PrI (p:Int):Prop where
 lo:2≤p
 hi:p≤999999999
def InP (p:Int) (x:Int):Prop:=0≤x∧x<p
theorem ng {p:Int} (h:PrI p) (x:Int):InP p (x % p):=⟨anr _ (by have:=h.lo;omega),ant _ (by have:=h.lo;omega)⟩
theorem ad9 {p x y:Int} (h:PrI p) (hx:InP p x) (hy:InP p y):0≤x*y∧x*y≤999999998000000001:=by
 obtain⟨a,b⟩:=hx;obtain⟨c,d⟩:=hy;have:=h.hi;have h1:=Int.mul_le_mul (show x≤999999999 by omega) (show y≤999999999 by omega) c (by omega)
 exact⟨Int.mul_nonneg a c,by omega⟩
noncomputable def ai5:CPT:=aB 142 (aP QW) noC
theorem aea:bC Tryz.prog ai5:=au (aC UL) aF
abbrev rsV (p:Int):PV:=.agg [.int .i64 p]
theorem Yw (p a:Int):aD Tryz.prog 332 [rsV p,.int .i64 a] (.bp (decide (a=0))):=by
 refine ay (md:=1) (rf:=[]) mixed av aF Tryz.func332 (by rfl) (by rfl) (by rfl) ?_
 all_goals exact vU
theorem Yx (p a:Int) (h:PrI p) (ha:InP p a):aD Tryz.prog 331 [rsV p,.int .i64 a] (.int .i64 (mW a p).1):=by
 obtain⟨h1,h2⟩:=h;obtain⟨a1,a2⟩:=ha;refine ay (md:=1) (rf:=[]) mixed av aea Tryz.func331 (by rfl) (by rfl) (by rfl) ?_
 repeat'((conv=>whnf);first|(intro hq;(try simp only[vw]at hq);try exact ak hq)|apply aI|exact aj|apply nM|apply fM)
 all_goals((try apply vM);(try simp only[vq]at*);try omega)
 all_goals first|exact⟨by omega,by omega⟩|exact Sup.of rfl
theorem Yy (p a b:Int) (h:PrI p) (ha:InP p a) (hb:InP p b):aD Tryz.prog 333 [rsV p,.int .i64 a,.int .i64 b] (.int .i64 (a*b % p)):=by
 obtain⟨m1,m2⟩:=ad9 h ha hb;obtain⟨h1,h2⟩:=h;have e:(a*b).tmod p=a*b % p:=anu m1;refine ay (md:=1) (rf:=[]) mixed av aF Tryz.func333 (by rfl) (by rfl) (by rfl) ?_
 all_goals exact qI
theorem J6 (p a b:Int) (h:PrI p) (ha:InP p a) (hb:InP p b):aD Tryz.prog 334 [rsV p,.int .i64 a,.int .i64 b] (.int .i64 ((a-b+p) % p)):=by
 obtain⟨h1,h2⟩:=h;obtain⟨a1,a2⟩:=ha;obtain⟨b1,b2⟩:=hb;have e:(a-b+p).tmod p=(a-b+p) % p:=anu (by omega)
 refine ay (md:=1) (rf:=[]) mixed av aF Tryz.func334 (by rfl) (by rfl) (by rfl) ?_
 all_goals exact qI
theorem zG (p a:Int) (h:PrI p) (ha: -999999999≤a∧a≤999999999):aD Tryz.prog 214 [rsV p,.int .i64 a] (.int .i64 (a % p)):=by
 obtain⟨h1,h2⟩:=h;obtain⟨e,e2,e3⟩:=nW a p (by omega)
 refine ay (md:=1) (rf:=[]) mixed av aF Tryz.func214 (by rfl) (by rfl) (by rfl) ?_
 all_goals exact qI
def zH (C:Int→Int→Prop) (r:Int→Int→PV):PSp:=fun xs K=>match xs with
 | [.agg [.int .i64 p],.int .i64 a]=>VC (C p a)∧K (r p a)
 |_=>False
def J7 (C:Int→Int→Int→Prop) (r:Int→Int→Int→PV):PSp:=fun xs K=>match xs with
 | [.agg [.int .i64 p],.int .i64 a,.int .i64 b]=>VC (C p a b)∧K (r p a b)
 |_=>False
theorem sj {g:FuncId} {C:Int→Int→Prop} {r:Int→Int→PV} (h:∀p a,C p a→aD Tryz.prog g [rsV p,.int .i64 a] (r p a)):POK Tryz.prog g (zH C r):=by
 intro xs K hk;unfold zH at hk;split at hk
 ·exact⟨_,hk.2,h _ _ hk.1.get⟩
 ·exact hk.elim
theorem DF {g:FuncId} {C:Int→Int→Int→Prop} {r:Int→Int→Int→PV} (h:∀p a b,C p a b→aD Tryz.prog g [rsV p,.int .i64 a,.int .i64 b] (r p a b)):POK Tryz.prog g (J7 C r):=by
 intro xs K hk;unfold J7 at hk;split at hk
 ·exact⟨_,hk.2,h _ _ _ hk.1.get⟩
 ·exact hk.elim
noncomputable def ai6:CPT:=aB 332 (aP (zH (fun _ _=>True) fun p a=>.bp (decide (a=0)))) (aB 331 (aP (zH (fun p a=>PrI p∧InP p a) fun p a=>.int .i64 (mW a p).1)) (aB 333 (aP (J7 (fun p a b=>PrI p∧InP p a∧InP p b) fun p a b=>.int .i64 (a*b % p))) (aB 334 (aP (J7 (fun p a b=>PrI p∧InP p a∧InP p b) fun p a b=>.int .i64 ((a-b+p) % p))) (aB 214 (aP (zH (fun p a=>PrI p∧ -999999999≤a∧a≤999999999) fun p a=>.int .i64 (a % p))) noC))))
theorem kC:bC Tryz.prog ai6:=au (aC (sj fun p a _=>Yw p a)) (au (aC (sj fun p a h=>Yx p a h.1 h.2)) (au (aC (DF fun p a b h=>Yy p a b h.1 h.2.1 h.2.2)) (au (aC (DF fun p a b h=>J6 p a b h.1 h.2.1 h.2.2)) (au (aC (sj fun p a h=>zG p a h.1 h.2)) aF))))
theorem aeb {p:Int} (h:PrI p) (a:Int):InP p (mW a p).1:=ng h _
theorem aaR {p:Int} (h:PrI p):Hom (Fp p) (Fp p) id (fun _=>InP p)where
 up:=fun c x h=>h
 z:=fun c x h=>rfl
 scale:=fun c a s ha hs h0=>⟨rfl,ng h _⟩
 clear:=fun c a t b s ha ht hb hs h0=>⟨rfl,ng h _⟩
abbrev inC (a:Int):List PV:=[.int .i64 a]
theorem iV:Xc.size=1:=by rfl
theorem GU:Xd.size=1:=by rfl
structure CXi where
 c:Nat
 l:List Nat
 D:bL Int
structure CIi (p:Int) (cols w m:Nat) (M0:bL Int) (l0:List Nat) (x:CXi):Prop where
 hc:x.c≤cols
 hl:x.l.length=m
 hn:x.l.Nodup
 hi:∀b,b∈l0→b∈x.l
 ho:∀r,r<m→x.l.getD r 0∈l0
 hD:∀r,r<m→∀j,x.D (x.l.getD r 0) j=(aN (Fp p) w m M0 x.c).M r j
structure RXi where
 i:Nat
 D:bL Int
structure RIi (p:Int) (w m:Nat) (M:bL Int) (n c:Nat) (L:List Nat) (x:RXi):Prop where
 hi:x.i≤m
 hD:∀r,r<m→∀j,x.D (L.getD r 0) j=if r<x.i then dD (Fp p) w M n c r j else M r j
abbrev fnI (w:Nat) (D:bL Int):RC:=.ints .i64 fun b=>cO w (D b)
theorem Vh {l:List Nat} (h:l.Nodup) {i:Nat} (hi:i<l.length):l.idxOf (l.getD i 0)=i:=by
 rw[ajQ,ajV hi];exact h.idxOf_getElem i hi
def odI (P:List Int) (H:List Int) (o:Bool):List PV:=[.nils,.isl (.ints .i64 P) (.own 4),.isl (.ints .i64 H) (.own 5),.bp o]
theorem J8 {p:Int} {m w cols:Nat} {M0:bL Int} (hp:PrI p) (hm:1≤m∧m≤256) (hw:w≤1000) (hcw:cols≤w) (h0:∀r,r<m→∀j,j<w→InP p (M0 r j)):
 dI Tryz.prog 150 [rsV p,.rsl 0 0 m,.int .i64 (cols:Int)] [.pmat m (fnI w M0)]
  [.agg [.rsl 0 0 (aN (Fp p) w m M0 cols).piv.length,.isl (.ints .i64 (pvI (aN (Fp p) w m M0 cols).piv)) .none,.isl (.ints .i64 (aN (Fp p) w m M0 cols).heads) .none,.bp (aN (Fp p) w m M0 cols).odd]] [.pmat m (fnI w (aN (Fp p) w m M0 cols).M)]:=by
 refine Bl (pre:=[]) (post:=[]) (enters' Tryz.func150 (by rfl) (by rfl)) fun l g hl hnd hg=>?_
 obtain⟨D0,hD0⟩:∃D0:bL Int,D0=fun b=>M0 (l.idxOf b):=⟨_,rfl⟩;have hlm:∀r,r<m→l.getD r 0∈l:=fun r hr=>by
  rw[ajQ,ajV (by omega)];exact anO _
 have h00:∀i,i<m→∀j,D0 (l.getD i 0) j=M0 i j:=fun i hi j=>by
  rw[hD0];simp only[Vh hnd (show i<l.length by omega)]
 have hgb:∀b,b∈l→g b=cO w (D0 b):=fun b hb=>by
  obtain⟨i,hi,rfl⟩:=ajU hb;have:=hg i (by omega)
  have h2:=Vh hnd hi;rw[ajQ,ajV hi]at this h2;rw[hD0];simp only[aky]at this h2;simp only[h2];exact this
 have hlen:=fun c=>fE (Fp p) w m M0 c;have hhom:=fun c hc=>iZ (aaR hp) (M':=M0) (fun r hr j hj=>⟨h0 r hr j hj,rfl⟩) c (show c≤w from hc);refine dW (md:=0) (rf:=[]) mixed av kC 1 [] Tryz.func150 (by rfl) (by rfl) (by rfl) ?_
 conv=>whnf
 refine aU (X:=CXi) (CIi p cols w m M0 l) (fun x=>[(17,.int .i64 x.c)]) (fun x=>[(0,.mat l x.l (fnI w x.D)),(3,.cells (.pv (odI (pvI (aN (Fp p) w m M0 x.c).piv) (aN (Fp p) w m M0 x.c).heads (aN (Fp p) w m M0 x.c).odd)) false),
  (4,.tok 1 (aN (Fp p) w m M0 x.c).piv.length),(5,.tok 1 (aN (Fp p) w m M0 x.c).heads.length)]) (fun x=>cols-x.c) ⟨0,l,D0⟩ ⟨aJ,mixed,av,kC,aR⟩ (by rfl) ?_ ?_ ?_
 ·exact⟨akA _,hl,hnd,fun _ h=>h,hlm,h00⟩
 ·all_goals exact aW
 ·rintro⟨c,lx,D⟩ ⟨x1,x2,x3,x4,x5,x6⟩
  simp only at x1 x2 x3 x4 x5 x6;obtain⟨y1,y2,y3⟩:=hlen c;have hsucc:aN (Fp p) w m M0 (c+1)=iU (Fp p) w m (aN (Fp p) w m M0 c) c:=rfl;by_cases hcw2:c<cols
  ·obtain⟨h1,_,_,_,_⟩:=hhom c (by omega)
   have hG:∀r,r<m→∀j,j<w→InP p ((aN (Fp p) w m M0 c).M r j):=fun r hr j hj=>(h1 r hr j hj).1;clear h1 hhom hlen;have mgc:∀f:Nat→Int,(cO w f).getD c 0=f c:=fun f=>qd f (by omega)
   generalize aN (Fp p) w m M0 c=S at*
   have hPn:(pvI S.piv).length=S.piv.length:=by simp[pvI]
   have hHn:S.heads.length=S.piv.length:=y3;have hZ:∀r,r<m→InP p (S.M r c):=fun r hr=>hG r hr c (by omega)
   generalize hP:pvI S.piv=P at*
   obtain⟨H,hH⟩:∃H,S.heads=H:=⟨_,rfl⟩;rw[hH]at hHn y3⊢;generalize hO:S.odd=od at*
   repeat'((conv=>whnf);first|(intro hq;(try simp only[vw]at hq);try exact ak hq)|apply aI|exact aj|apply nM|apply fM)
   all_goals((try apply vM);(try simp only[vq]at*);try omega)
   conv=>whnf
   refine aU (X:=Nat) (fun a=>(P.length≤a∧a≤m)∧∀r,P.length≤r→r<a→(Fp p).z (S.M r c)=true) (fun a=>[(10,.int .i64 a)]) (fun _=>[]) (fun a=>m-a) P.length ⟨aJ,mixed,av,kC,aR⟩ (by rfl) ⟨by omega,fun r h1 h2=>by omega⟩ ?_ ?_
   ·all_goals exact eT
   ·rintro a ⟨⟨ha1,ha2⟩,haz⟩
    by_cases ham:a<m
    ·have ea:D (lx.getD a 0) c=S.M a c:=x6 a ham c
     have hnm:P.length<m:=by omega
     have hL:∀r,r<m→(swl lx P.length a).getD r 0∈l:=fun r hr=>by
      rw[tY (by omega) (by omega)];exact x5 _ (Br hnm ham hr)
     have hza:=hZ a ham;have hza':InP p (D (lx.getD a 0) c):=by rw[ea];exact hza
     have hsw:lx.getD a 0=(swl lx P.length a).getD P.length 0:=by rw[lq (by omega) (by omega),if_pos rfl]
     have hfb:InP p (D (lx.getD a 0) c):=by rw[ea];exact hG a ham c (by omega)
     repeat'((conv=>whnf);first|(intro hq;(try simp only[vw]at hq);try exact ak hq)|apply aI|exact aj|apply nM|apply fM)
     all_goals((try apply vM);(try simp only[vq]at*);try omega)
     all_goals(try first|rfl|(simp only[GU,iV,zi,aj9,aj2,ajx,alR,ake,x2,fC,mgc,akY,chunks,ajA,ajw];first|omega|exact x5 _ (by omega)|exact hza'|exact hL _ hnm))
     ·simp only[iV,aj9,mgc,ea]at hq
      refine⟨a+1,[],⟨⟨by omega,fun r h1 h2=>?_⟩,by omega⟩,?_⟩
      ·by_cases er:r=a
       ·subst er;exact decide_eq_true hq
       ·exact haz r h1 (by omega)
      ·all_goals exact eT
     ·rename_i hq1
      simp only[iV,aj9,mgc]at hq1⊢;rw[show((lx.set P.length (lx.getD a 0)).set a (lx.getD P.length 0))=swl lx P.length a from rfl,←hsw];exact⟨hp,hfb⟩
     rename_i hq1;simp only[iV,zi,aj9,mgc]at hq1⊢;have g1:∀r,(swl lx P.length a).getD r 0=if r=P.length then lx.getD a 0 else if r=a then lx.getD P.length 0 else lx.getD r 0:=fun r=>lq (by omega) (by omega)
     have g2:(swl lx P.length a).length=m:=by simp[swl,x2]
     have g3:=EZ (n:=P.length) (a:=a) (by omega) (by omega) x3
     have g4:∀b,b∈l→b∈swl lx P.length a:=fun b hb=>MK (by omega) (by omega) (x4 b hb)
     have g5:∀r,r<m→∀j,D ((swl lx P.length a).getD r 0) j=fZ S.M P.length a r j:=fun r hr j=>by
      rw[g1];unfold fZ;by_cases h1:r=P.length
      ·rw[if_pos h1,if_pos h1];exact x6 a ham j
      ·rw[if_neg h1,if_neg h1]
       by_cases h2:r=a
       ·rw[if_pos h2,if_pos h2];exact x6 _ hnm j
       ·rw[if_neg h2,if_neg h2];exact x6 r hr j
     have g6:∀r,r<m→∀j,j<w→InP p (fZ S.M P.length a r j):=fun r hr j hj=>by
      unfold fZ;by_cases h1:r=P.length
      ·rw[if_pos h1];exact hG a ham j hj
      ·rw[if_neg h1]
       by_cases h2:r=a
       ·rw[if_pos h2];exact hG _ hnm j hj
       ·rw[if_neg h2];exact hG r hr j hj
     have hfz:(Fp p).z (S.M a c)=false:=decide_eq_false (by rw[←ea];exact hq1)
     have hfind:findAt (Fp p) S.M c S.piv.length m=a:=by
      rw[←hPn];exact wF ham (by omega) hfz (fun r h1 h2=>haz r (by omega) h2)
     rw[show((lx.set P.length (lx.getD a 0)).set a (lx.getD P.length 0))=swl lx P.length a from rfl];generalize swl lx P.length a=L at*
     generalize hM1:fZ S.M P.length a=M1 at*
     have hs:D (L.getD P.length 0) c=M1 P.length c:=g5 _ hnm c;rw[hs];have hbn:=hL _ hnm;generalize hbd:L.getD P.length 0=bn at*
     have e1:∀j,D bn j=M1 P.length j:=fun j=>by rw[←hbd];exact g5 _ hnm j
     have hlw:=fC w (D bn);generalize hsv:M1 P.length c=sv at*
     obtain⟨iv,hiv⟩:∃iv,iv=(mW sv p).1:=⟨_,rfl⟩;have giv:InP p iv:=by rw[hiv];exact aeb hp _
     rw[←hiv];conv=>whnf
     refine aU (X:=Nat) (fun k=>k≤w) (fun k=>[(30,.any),(80,.any),(94,.int .i64 k)]) (fun k=>[(0,.mat l L (fnI w (fun b j=>if b=bn∧j<k then D b j*iv % p else D b j)))]) (fun k=>w-k) 0 ⟨aJ,mixed,av,kC,aR⟩ (by rfl) (by omega) ?_ ?_
     ·all_goals exact EB
     ·intro k hk
      by_cases hkw:k<w
      ·have e2:=e1 k
       have e3:=g6 _ hnm k hkw;have mgk:∀f:Nat→Int,(cO w f).getD k 0=f k:=fun f=>qd f hkw;have e4:InP p (D bn k):=by rw[e2];exact e3
       repeat'((conv=>whnf);first|(intro hq;(try simp only[vw]at hq);try exact ak hq)|apply aI|exact aj|apply nM|apply fM)
       all_goals((try apply vM);(try simp only[vq]at*);try omega)
       all_goals(try first|rfl|(simp only[GU,iV,zi,aj9,aj2,ajx,alR,ake,g2,hbd,fC,akY,chunks,ajA,ajw];first|omega|exact hL _ (by omega)|assumption))
       ·simp only[iV,aj9,hbd,mgk]
        rw[if_neg (fun h=>absurd h.2 (anQ _))];exact⟨hp,e4,giv⟩
       ·refine⟨k+1,[],⟨by omega,by omega⟩,?_⟩
        simp only[iV,aj9,hbd,mgk]
        repeat'((conv=>whnf);first|intro _|apply aI|exact aj|apply nM|apply fM)
        all_goals((try apply vM);(try simp only[vq]at*);try omega)
        intro b hb;unfold bB;by_cases eb:b=bn
        ·subst eb
         rw[if_pos rfl];rw[qg];refine ku fun j hj=>?_;by_cases ej:j=k
         ·subst ej
          simp only[true_and,anQ,and_false,if_false,if_true,anR]
         ·have hx:(j<k+1)=(j<k):=propext ⟨fun h=>by omega,fun h=>by omega⟩
          simp only[if_neg ej,true_and,hx]
        ·rw[if_neg eb]
         refine ku fun j hj=>?_;rw[if_neg (fun h=>eb h.1),if_neg (fun h=>eb h.1)]
      ·have hkk:k=w:=by omega
       subst hkk;obtain⟨D2,hD2⟩:∃D2:bL Int,D2=fun b j=>if b=bn∧j<k then D b j*iv % p else D b j:=⟨_,rfl⟩;have d1:∀r,r<m→∀j,D2 (L.getD r 0) j=dM (Fp p) k M1 P.length iv r j:=fun r hr j=>by
        rw[hD2];unfold dM;by_cases er:r=P.length
        ·subst er
         rw[if_pos rfl];simp only[hbd,true_and];by_cases ej:j<k
         ·rw[if_pos ej,if_pos ej,e1 j];rfl
         ·rw[if_neg ej,if_neg ej,e1 j]
        ·have:L.getD r 0≠bn:=fun h=>er ((jQ.1 g3) r P.length (by omega) (by omega) (h.trans hbd.symm))
         simp only;rw[if_neg (fun h=>this h.1),if_neg er];exact g5 r hr j
       have d2:∀r,r<m→∀j,j<k→InP p (dM (Fp p) k M1 P.length iv r j):=fun r hr j hj=>by
        unfold dM;by_cases er:r=P.length
        ·subst er
         rw[if_pos rfl,if_pos hj];exact ng hp _
        ·rw[if_neg er]
         exact g6 r hr j hj
       generalize hM2:dM (Fp p) k M1 P.length iv=M2 at*
       rw[show(fnI k fun b j=>if b=bn∧j<k then D b j*iv % p else D b j)=fnI k D2 by rw[hD2]]
       clear hD2
       repeat'((conv=>whnf);first|(intro hq;(try simp only[vw]at hq);try exact ak hq)|apply aI|exact aj|apply nM|apply fM)
       all_goals((try apply vM);(try simp only[vq]at*);try omega)
       conv=>whnf
       refine aU (X:=RXi) (RIi p k m M2 P.length c L) (fun x=>[(117,.int .i64 x.i)]) (fun x=>[(0,.mat l L (fnI k x.D))]) (fun x=>m-x.i) ⟨0,D2⟩ ⟨aJ,mixed,av,kC,aR⟩ (by rfl) ⟨akA _,fun r hr j=>by show _=if r<0 then _ else _;rw[if_neg (by omega)];exact d1 r hr j⟩ ?_ ?_
       ·all_goals exact eT
       ·rintro⟨i,D3⟩ ⟨i1,i2⟩
        simp only at i1 i2;by_cases him:i<m
        ·have hiw:D3 (L.getD i 0) c=M2 i c:=by rw[i2 i him c,if_neg (by omega)]
         have hbi:=hL _ him;have ti:=d2 i him c (by omega)
         have f1:∀j,D3 (L.getD i 0) j=M2 i j:=fun j=>by rw[i2 i him j,if_neg (by omega)]
         have f2:∀j,D3 bn j=M2 P.length j:=fun j=>by
          rw[←hbd,i2 _ hnm j];split
          ·unfold dD;rw[if_pos (.inl rfl)]
          ·rfl
         have tok:InP p (D3 (L.getD i 0) c):=by rw[hiw];exact ti
         repeat'((conv=>whnf);first|(intro hq;(try simp only[vw]at hq);try exact ak hq)|apply aI|exact aj|apply nM|apply fM)
         all_goals((try apply vM);(try simp only[vq]at*);try omega)
         all_goals(try first|rfl|(simp only[GU,iV,zi,aj9,aj2,ajx,alR,ake,g2,hbd,mgc,fC];first|omega|exact hL _ (by omega)|exact tok))
         ·have hz:=hq
          simp only[iV,aj9,mgc,hiw]at hz;refine⟨⟨i+1,D3⟩,[],⟨⟨by(show i+1≤m);omega,fun r hr j=>?_⟩,by(show m-(i+1)<m-i);omega⟩,?_⟩
          ·show D3 (L.getD r 0) j=if r<i+1 then dD (Fp p) k M2 P.length c r j else M2 r j
           rw[i2 r hr j];by_cases e5:r<i
           ·rw[if_pos e5,if_pos (by omega)]
           ·rw[if_neg e5]
            by_cases e6:r=i
            ·subst e6
             rw[if_pos (by omega)]
             unfold dD;rw[if_pos (.inr (decide_eq_true hz))]
            ·rw[if_neg (by omega)]
          ·all_goals exact eT
         ·have hz:=hq
          simp only[iV,zi,aj9,mgc,hiw]at hz⊢;have hni:i≠P.length:=by omega
          have hne:L.getD i 0≠bn:=fun h=>by
           have:=(jQ.1 g3) i P.length (by omega) (by omega) (h.trans hbd.symm)
           omega
          generalize hbi2:L.getD i 0=bi at*
          have hlw2:=fC k (D3 bi);generalize htv:M2 i c=tv at*
          conv=>whnf
          refine aU (X:=Nat) (fun q=>q≤k) (fun q=>[(132,.any),(141,.int .i64 q)]) (fun q=>[(0,.mat l L (fnI k (fun b j=>if b=bi∧j<q then(D3 b j-tv*M2 P.length j % p+p) % p else D3 b j)))]) (fun q=>k-q) 0 ⟨aJ,mixed,av,kC,aR⟩ (by rfl) (by omega) ?_ ?_
          ·all_goals exact EB
          ·intro q hqk
           by_cases hqw:q<k
           ·have u1:=f1 q
            have u2:=f2 q;have u3:=d2 _ hnm q hqw;have u4:=d2 _ him q hqw;have mgq:∀f:Nat→Int,(cO k f).getD q 0=f q:=fun f=>qd f hqw;have u6:InP p (tv*M2 P.length q % p):=ng hp _
            repeat'((conv=>whnf);first|(intro hq;(try simp only[vw]at hq);try exact ak hq)|apply aI|exact aj|apply nM|apply fM)
            all_goals((try apply vM);(try simp only[vq]at*);try omega)
            all_goals(try first|rfl|(simp only[GU,iV,zi,aj9,aj2,ajx,alR,ake,g2,hbd,hbi2,mgq,fC];first|omega|exact hL _ (by omega)|assumption))
            ·simp only[iV,aj9,hbd,mgq]
             rw[if_neg (fun h=>hne h.1.symm),u2];exact⟨hp,ti,u3⟩
            ·simp only[iV,aj9,hbd,hbi2,mgq]
             rw[if_neg (fun h=>absurd h.2 (anQ _)),if_neg (fun h=>hne h.1.symm),u1,u2];exact⟨hp,u4,u6⟩
            ·refine⟨q+1,[],⟨by omega,by omega⟩,?_⟩
             simp only[iV,aj9,hbd,hbi2,mgq]
             repeat'((conv=>whnf);first|intro _|apply aI|exact aj|apply nM|apply fM)
             all_goals((try apply vM);(try simp only[vq]at*);try omega)
             intro b hb;unfold bB;by_cases eb:b=bi
             ·subst eb
              rw[if_pos rfl];rw[qg];refine ku fun j hj=>?_;by_cases ej:j=q
              ·subst ej
               simp only[true_and,anQ,and_false,if_false,if_true,anR,u2]
              ·have hx:(j<q+1)=(j<q):=propext ⟨fun h=>by omega,fun h=>by omega⟩
               simp only[if_neg ej,true_and,hx]
             ·rw[if_neg eb]
              refine ku fun j hj=>?_;rw[if_neg (fun h=>eb h.1),if_neg (fun h=>eb h.1)]
           ·have hqq:q=k:=by omega
            subst hqq
            repeat'((conv=>whnf);first|(intro hq;(try simp only[vw]at hq);try exact ak hq)|apply aI|exact aj|apply nM|apply fM)
            all_goals((try apply vM);(try simp only[vq]at*);try omega)
            refine⟨⟨i+1,fun b j=>if b=bi∧j<q then(D3 b j-tv*M2 P.length j % p+p) % p else D3 b j⟩,[],⟨⟨by(show i+1≤m);omega,fun r hr j=>?_⟩,by(show m-(i+1)<m-i);omega⟩,?_⟩
            ·show(if L.getD r 0=bi∧j<q then(D3 (L.getD r 0) j-tv*M2 P.length j % p+p) % p else D3 (L.getD r 0) j)=if r<i+1 then dD (Fp p) q M2 P.length c r j else M2 r j
             by_cases er:r=i
             ·subst er
              rw[if_pos (anR r),hbi2];have hcl:dD (Fp p) q M2 P.length c r j=if j<q then(M2 r j-tv*M2 P.length j % p+p) % p else M2 r j:=by
               unfold dD;rw[htv,if_neg (fun h=>h.elim hni (fun h2=>hz (of_decide_eq_true h2)))];rfl
              rw[hcl,f1 j];by_cases ej:j<q
              ·rw[if_pos ⟨rfl,ej⟩,if_pos ej]
              ·rw[if_neg (fun h=>ej h.2),if_neg ej]
             ·have:L.getD r 0≠bi:=fun h=>er (jQ.1 g3 r i (by omega) (by omega) (h.trans hbi2.symm))
              rw[if_neg (fun h=>this h.1),i2 r hr j];by_cases e5:r<i
              ·rw[if_pos e5,if_pos (by omega)]
              ·rw[if_neg e5,if_neg (by omega)]
            ·all_goals exact eT
         ·have hin:i=P.length:=by omega
          refine⟨⟨i+1,D3⟩,[],⟨⟨by(show i+1≤m);omega,fun r hr j=>?_⟩,by(show m-(i+1)<m-i);omega⟩,?_⟩
          ·show D3 (L.getD r 0) j=if r<i+1 then dD (Fp p) k M2 P.length c r j else M2 r j
           rw[i2 r hr j];by_cases e5:r<i
           ·rw[if_pos e5,if_pos (by omega)]
           ·rw[if_neg e5]
            by_cases e6:r=i
            ·rw[if_pos (by omega)]
             unfold dD;rw[if_pos (.inl (by omega))]
            ·rw[if_neg (by omega)]
          ·all_goals exact eT
        ·have hii:i=m:=by omega
         have hstep:iU (Fp p) k m S c=⟨dD (Fp p) k M2 P.length c,S.piv++[c],S.heads++[sv],S.odd !=decide (P.length≠a)⟩:=by
          have hi2:(Fp p).inv sv=iv:=hiv.symm;unfold iU;rw[hfind,if_neg (by omega),←hPn,hM1,hsv,hi2,hM2]
         have hpv:pvI (S.piv++[c])=P++[(c:Int)]:=by rw[←hP];simp[pvI]
         have hhd:S.heads++[sv]=H++[sv]:=by rw[hH]
         have hl1:(S.piv++[c]).length=S.piv.length+1:=by simp
         have hl2:(S.heads++[sv]).length=S.heads.length+1:=by simp
         repeat'((conv=>whnf);first|(intro hq;(try simp only[vw]at hq);try exact ak hq)|apply aI|exact aj|apply nM|apply fM)
         all_goals((try apply vM);(try simp only[vq]at*);try omega)
         ·rw[akY,ajA,ajw];omega
         ·refine⟨⟨c+1,L,D3⟩,[],⟨⟨by(show c+1≤cols);omega,g2,g3,g4,hL,fun r hr j=>?_⟩,by(show cols-(c+1)<cols-c);omega⟩,?_⟩
          ·show D3 (L.getD r 0) j=(aN (Fp p) k m M0 (c+1)).M r j
           rw[hsucc,hstep,i2 r hr j,if_pos (by omega)]
          ·simp only[hsucc,hstep,hpv,hhd,hl1,hl2,hO]
           repeat'((conv=>whnf);first|intro _|apply aI|exact aj|apply nM|apply fM)
           all_goals((try apply vM);(try simp only[vq]at*);try omega)
           all_goals first
            |exact fun _ _=>trivial
            |(rw[akY];rfl)
            |(have hd:decide ((P.length:Int)≠(a:Int))=decide (P.length≠a):=decide_eq_decide.2 ⟨fun h=>by omega,fun h=>by omega⟩
              rw[hd];rfl)
    ·have hstep:iU (Fp p) w m S c=S:=by
      unfold iU;rw[qX (fun r h1 h2=>haz r (by omega) (by omega)),if_pos rfl]
     repeat'((conv=>whnf);first|(intro hq;(try simp only[vw]at hq);try exact ak hq)|apply aI|exact aj|apply nM|apply fM)
     all_goals((try apply vM);(try simp only[vq]at*);try omega)
     refine⟨⟨c+1,lx,D⟩,[],⟨⟨by(show c+1≤cols);omega,x2,x3,x4,x5,fun r hr j=>?_⟩,by(show cols-(c+1)<cols-c);omega⟩,?_⟩
     ·show D (lx.getD r 0) j=(aN (Fp p) w m M0 (c+1)).M r j
      rw[hsucc,hstep];exact x6 r hr j
     ·simp only[hsucc,hstep,hP,hH,hO]
      all_goals exact eT
  ·have hcc:c=cols:=by omega
   subst hcc;have hPn:(pvI (aN (Fp p) w m M0 c).piv).length=(aN (Fp p) w m M0 c).piv.length:=by simp[pvI]
   repeat'((conv=>whnf);first|(intro hq;(try simp only[vw]at hq);try exact ak hq)|apply aI|exact aj|apply nM|apply fM)
   all_goals((try apply vM);(try simp only[vq]at*);try omega)
   conv=>whnf
   repeat'((conv=>whnf);first|intro _|apply aI|exact aj|apply nM|apply fM)
   all_goals((try apply vM);(try simp only[vq]at*);try omega)
   all_goals first
    |exact x4 _ (by assumption)
    |omega
    |(refine ku fun j hj=>?_;exact x6 _ (by assumption) j)
end Go.Eng.YtmkagljofpddpaaGreatDoor
namespace Go.Eng.ElG
set_option linter.unusedSimpArgs false
set_option linter.unusedVariables false
variable {α β:Type}
theorem wX (F:Fld α) (w m:Nat) (M:bL α):∀c x,x∈(aN F w m M c).piv→x<c:=by
 intro c;induction c with
 |zero=>intro x h;cases h
 |succ c ih=>
  intro x h;rw[show aN F w m M (c+1)=iU F w m (aN F w m M c) c from rfl]at h;unfold iU at h;split at h
  ·have:=ih x h;omega
  ·simp only[ajR,List.mem_singleton]at h
   rcases h with h|h
   ·have:=ih x h;omega
   ·omega
def bK (piv:List Nat) (w:Nat):List Nat:=(ajO w).filter fun c=>decide (c∉piv)
theorem BR (piv:List Nat):bK piv 0=[]:=rfl
theorem uH {piv:List Nat} {c:Nat} (h:c∈piv):bK piv (c+1)=bK piv c:=by
 unfold bK;rw[am4,anS];simp[h]
theorem lI {piv:List Nat} {c:Nat} (h:c∉piv):bK piv (c+1)=bK piv c++[c]:=by
 unfold bK;rw[am4,anS];simp[h]
theorem Vi {piv:List Nat} {c:Nat}:∀{w:Nat},c≤w→∀{r:Nat},r<(bK piv c).length→(bK piv w).getD r 0=(bK piv c).getD r 0:=by
 intro w;induction w with
 |zero=>intro h r hr;rw[show c=0 by omega]
 |succ w ih=>
  intro h r hr;by_cases e:c=w+1
  ·rw[e]
  ·have h1:=ih (by omega) hr
   by_cases hp:w∈piv
   ·rw[uH hp];exact h1
   ·have h2:r<(bK piv w).length:=by
     clear h1;have:∀w,c≤w→(bK piv c).length≤(bK piv w).length:=fun w=>by
      induction w with
      |zero=>intro h;rw[show c=0 by omega];exact ajE _
      |succ w ih=>
       intro h;by_cases e:c=w+1
       ·rw[e];exact ajE _
       ·have:=ih (by omega)
        by_cases hp:w∈piv
        ·rw[uH hp];exact this
        ·rw[lI hp];simp;omega
     have:=this w (by omega)
     omega
    rw[lI hp,ajQ,alB h2,←ajQ];exact h1
theorem BS {piv:List Nat} {c w:Nat} (hp:c∉piv) (h:c<w):(bK piv w).getD (bK piv c).length 0=c:=by
 have:=Vi (piv:=piv) (c:=c+1) (w:=w) (by omega) (r:=(bK piv c).length) (by rw[lI hp];simp)
 rw[this,lI hp];simp[ajQ]
theorem jR (piv:List Nat) (w:Nat):(bK piv w).length≤w:=by
 unfold bK;have:=List.length_filter_le (fun c=>decide (c∉piv)) (ajO w);simpa using this
theorem qQ {piv:List Nat} {w c:Nat}:c∈bK piv w↔c<w∧c∉piv:=by simp[bK]
def fH (F:Fld α) (z o:α) (S:ES α) (c:Nat):Nat→Nat→α
 |0=>fun j=>if j=c then o else z
 |t+1=>fun j=>if j=S.piv.getD t 0 then F.sub z (S.M t c)else fH F z o S c t j
def kH (F:Fld α) (z o:α) (S:ES α) (w:Nat):bL α:=fun r=>fH F z o S ((bK S.piv w).getD r 0) S.piv.length
def gP (F:Fld α) (z o:α) (w m:Nat) (M:bL α):ES α:=
 aN F w (bK (aN F w m M w).piv w).length (kH F z o (aN F w m M w) w) w
end Go.Eng.ElG
namespace Go.Eng.YtmkagljofpddpaaGreatDoor
open Go.Proofs Go.Eng.Dig
set_option linter.unusedSimpArgs false
set_option linter.unusedVariables false
set_option maxHeartbeats 0
set_option maxRecDepth 100000
noncomputable def ai7:CPT:=aB 189 (aP rO) noC
theorem aec:bC Tryz.prog ai7:=au (aC uf) aF
theorem Vj (x y:Int) (hx:0≤x∧x<18446744073709551616) (hy:0≤y∧y<18446744073709551616):aD Tryz.prog 219 [.int .u64 x,.int .u64 y] (.tup [.int .u64 (x*y / 18446744073709551616),.int .u64 (x*y % 18446744073709551616)]):=by
 refine ay (md:=1) (rf:=[]) mixed av aec Tryz.func219 (by rfl) (by rfl) (by rfl) ?_
 repeat'((conv=>whnf);first|(intro hq;(try simp only[vw]at hq);try exact ak hq)|apply aI|exact aj|apply nM|apply fM)
 all_goals((try apply vM);(try simp only[vq]at*);try omega)
 all_goals first|exact⟨hx.1,hx.2,hy.1,hy.2⟩|exact Sup.of rfl
def Rl:PSp:=fun xs K=>match xs with
 | [.int .u64 x,.int .u64 y]=>VC (0≤x∧x<18446744073709551616∧0≤y∧y<18446744073709551616)∧K (.tup [.int .u64 (x*y / 18446744073709551616),.int .u64 (x*y % 18446744073709551616)])
 |_=>False
theorem aed:POK Tryz.prog 219 Rl:=by
 intro xs K hk;unfold Rl at hk;split at hk
 ·obtain⟨h1,h2,h3,h4⟩:=hk.1.get
  exact⟨_,hk.2,Vj _ _ ⟨h1,h2⟩ ⟨h3,h4⟩⟩
 ·exact hk.elim
def rpL {α:Type} (v z:α) (n j:Nat):List α:=ajZ j v++ajZ (n-j) z
theorem yE {α:Type} (v z:α) {n j:Nat} (h:j≤n):(rpL v z n j).length=n:=by simp[rpL];omega
theorem J9 {α:Type} (v z:α) {n j q:Nat} (h:j+q≤n) (hq:q≤j):(rpL v z n j).take j++(((rpL v z n j).drop 0).take q++(rpL v z n j).drop (j+q))=rpL v z n (j+q):=by
 have e0:=yE v z (show j≤n by omega)
 have e1:=yE v z h;have hg:∀j i,(rpL v z n j)[i]? =if i<j then some v else if i<j+(n-j)then some z else none:=fun j i=>by
  unfold rpL;rw[akN,anT,akV,akV];by_cases a:i<j
  ·simp[a]
  ·rw[if_neg a,if_neg a]
   by_cases b:i<j+(n-j)
   ·rw[if_pos b,if_pos (by omega)]
   ·rw[if_neg b,if_neg (by omega)]
 refine List.ext_getElem? fun i=>?_;rw[akN,akN,akw,akw,List.length_drop,e0];simp only[List.getElem?_take,List.getElem?_drop,hg,aj2,anU];rw[aks (show j≤n by omega),aks (show q≤n by omega)]
 (repeat' split)<;>first|rfl|omega
theorem NS {α:Type} (v z:α) {n:Nat} (h:1≤n):(ajZ n z).take 0++(([v].drop 0).take 1++(ajZ n z).drop (0+1))=rpL v z n 1:=by
 simp[rpL]
theorem NT {α:Type} (v z:α) (n:Nat):rpL v z n n=ajZ n v:=by simp[rpL]
noncomputable def ai8:CPT:=aB 219 (aP Rl) noC
theorem yF:bC Tryz.prog ai8:=au (aC aed) aF
theorem Vk (v:Int) (n:Nat) (hn:1≤n∧n≤1000000):dI Tryz.prog 216 [.isl (.ints .i64 [v]) .none,.int .i64 n] [] [.rsl 0 0 n] [.cells (.ints .i64 (ajZ n v)) false]:=by
 have h2:((1:Nat):Int)*(n:Int) / 18446744073709551616=0:=by omega
 have h3:((1:Nat):Int)*(n:Int) % 18446744073709551616=n:=by omega
 have h4:(((1:Nat):Int)*(n:Int) % 18446744073709551616).toNat=n:=by rw[h3];omega
 have h5:min 1 n=1:=by omega
 refine dW (md:=1) (rf:=[]) mixed av yF 0 [(4,0)] Tryz.func216 (by rfl) (by rfl) (by rfl) ?_
 repeat'((conv=>whnf);first|(intro hq;(try simp only[vw]at hq);try exact ak hq)|apply aI|exact aj|apply nM|apply fM)
 all_goals((try apply vM);(try simp only[vq]at*);try omega)
 all_goals(try simp only[h3,h4,h5,anT])
 ·exact .inl trivial
 ·omega
 conv=>whnf
 simp only[h3,h4,alR,h5];rw[NS v 0 hn.1];refine aU (X:=Nat) (fun j=>1≤j∧j≤n) (fun j=>[(8,.int .i64 j)]) (fun j=>[(4,.cells (.ints .i64 (rpL v 0 n j)) false)]) (fun j=>n-j) 1 ⟨aJ,mixed,av,yF,aR⟩ (by rfl) ⟨by omega,by omega⟩ ?_ ?_
 ·all_goals exact mM
 intro j hj;have hl:=yE v 0 hj.2;by_cases hlt:j<n
 ·have hq':min j (n-j)≤j:=by omega
  have hs:=J9 v 0 (n:=n) (j:=j) (q:=min j (n-j)) (by omega) (by omega)
  repeat'((conv=>whnf);first|(intro hq;(try simp only[vw]at hq);try exact ak hq)|apply aI|exact aj|apply nM|apply fM)
  all_goals((try apply vM);(try simp only[vq]at*);try omega)
  all_goals first
   |omega
   |(refine⟨j+min j (n-j),[],⟨by omega,by omega⟩,?_⟩
     simp only[anU,hs]
     repeat'((conv=>whnf);first|intro _|apply aI|exact aj|apply nM|apply fM)
     all_goals((try apply vM);(try simp only[vq]at*);try omega)
     all_goals first|omega|rfl)
 ·have:j=n:=by omega
  subst this;rw[NT]
  repeat'((conv=>whnf);first|(intro hq;(try simp only[vw]at hq);try exact ak hq)|apply aI|exact aj|apply nM|apply fM)
  all_goals((try apply vM);(try simp only[vq]at*);try omega)
  all_goals(conv=>whnf)
  all_goals(try repeat'((conv=>whnf);first|(intro hq;(try simp only[vw]at hq);try exact ak hq)|apply aI|exact aj|apply nM|apply fM))
  all_goals(try all_goals((try apply vM);(try simp only[vq]at*);try omega))
  all_goals first|omega|exact Sup.of rfl
def ixI (l:List Int) (c:Int):Int:=if c∈l then(l.idxOf c:Nat)else-1
theorem agH {l:List Int} {c:Int} {i:Nat} (hi:i<l.length) (h:∀j,j<i→l.getD j 0≠c) (e:l.getD i 0=c):ixI l c=i:=by
 have hm:c∈l:=by
  rw[←e,ajQ,ajV hi];exact anO _
 unfold ixI;rw[if_pos hm];have h1:=List.idxOf_lt_length_of_mem hm;have h2:l.getD (l.idxOf c) 0=c:=by rw[ajQ,ajV h1];exact List.getElem_idxOf h1
 have h3:¬l.idxOf c<i:=fun g=>h _ g h2;have h4:¬i<l.idxOf c:=fun g=>by
  have:=List.not_of_lt_findIdx g;rw[ajQ,ajV hi]at e;simp at this e;exact this e
 omega
theorem agI {l:List Int} {c:Int} (h:∀j,j<l.length→l.getD j 0≠c):ixI l c= -1:=by
 unfold ixI;rw[if_neg];intro hm;obtain⟨i,hi,e⟩:=ajU hm;refine h i hi ?_;rw[ajQ,ajV hi];exact e
theorem Vl (l:List Int) (c:Int):decide (0≤ixI l c)=decide (c∈l):=by
 rw[decide_eq_decide];unfold ixI;split<;>simp[*]
theorem index_spec (l:List Int) (c:Int) (hl:l.length≤1000000000):aD Tryz.prog 245 [.isl (.ints .i64 l) .none,.int .i64 c] (.int .i64 (ixI l c)):=by
 refine ay (md:=1) (rf:=[]) mixed av aF Tryz.func245 (by rfl) (by rfl) (by rfl) ?_
 repeat'((conv=>whnf);first|(intro hq;(try simp only[vw]at hq);try exact ak hq)|apply aI|exact aj|apply nM|apply fM)
 all_goals((try apply vM);(try simp only[vq]at*);try omega)
 conv=>whnf
 refine aU (X:=Nat) (fun i=>i≤l.length∧∀j,j<i→l.getD j 0≠c) (fun i=>[(8,.int .i64 i),(5,.any)]) (fun _=>[]) (fun i=>l.length-i) 0 ⟨aJ,mixed,av,aF,aR⟩ (by rfl) ⟨by omega,fun j h=>by omega⟩ ?_ ?_
 ·all_goals exact aW
 intro i hi;obtain⟨h1,h2⟩:=hi;have h2':∀_:Unit,∀j,j<i→l.getD j 0≠c:=fun _=>h2;clear h2;by_cases hlt:i<l.length
 ·by_cases he:l.getD i 0=c
  ·have:=agH hlt (h2' ()) he
   repeat'((conv=>whnf);first|(intro hq;(try simp only[vw]at hq);try exact ak hq)|apply aI|exact aj|apply nM|apply fM)
   all_goals((try apply vM);(try simp only[vq]at*);try omega)
   all_goals first|omega|(rw[this];exact Sup.of rfl)|(exfalso;simp_all;done)
  ·repeat'((conv=>whnf);first|(intro hq;(try simp only[vw]at hq);try exact ak hq)|apply aI|exact aj|apply nM|apply fM)
   all_goals((try apply vM);(try simp only[vq]at*);try omega)
   all_goals first
    |omega
    |(refine⟨i+1,[],⟨⟨by omega,fun j hj=>by
       by_cases e:j=i
       ·subst e;exact he
       ·exact h2' () j (by omega)⟩,by omega⟩,?_⟩
      all_goals exact aW)
    |(exfalso;simp_all;done)
 ·have:i=l.length:=by omega
  subst this;have:=agI (h2' ())
  repeat'((conv=>whnf);first|(intro hq;(try simp only[vw]at hq);try exact ak hq)|apply aI|exact aj|apply nM|apply fM)
  all_goals((try apply vM);(try simp only[vq]at*);try omega)
  all_goals first|omega|(rw[this];exact Sup.of rfl)
def Kc:PSp:=fun xs K=>match xs with
 | [.isl (.ints .i64 l) .none,.int .i64 c]=>VC (l.length≤1000000000)∧K (.int .i64 (ixI l c))
 |_=>False
theorem Yz:POK Tryz.prog 245 Kc:=by
 intro xs K hk;unfold Kc at hk;split at hk
 ·exact⟨_,hk.2,index_spec _ _ hk.1.get⟩
 ·exact hk.elim
noncomputable def ai9:CPT:=aB 245 (aP Kc) noC
theorem aee:bC Tryz.prog ai9:=au (aC Yz) aF
theorem Vm (l:List Int) (c:Int) (hl:l.length≤1000000000):aD Tryz.prog 215 [.isl (.ints .i64 l) .none,.int .i64 c] (.bp (decide (c∈l))):=by
 refine ay (md:=1) (rf:=[]) mixed av aee Tryz.func215 (by rfl) (by rfl) (by rfl) ?_
 repeat'((conv=>whnf);first|(intro hq;(try simp only[vw]at hq);try exact ak hq)|apply aI|exact aj|apply nM|apply fM)
 all_goals((try apply vM);(try simp only[vq]at*);try omega)
 all_goals first|omega|(rw[Vl];exact Sup.of rfl)|(rw[←Vl];exact Sup.of rfl)
def GV:PSp:=fun xs K=>match xs with
 | [.isl (.ints .i64 l) .none,.int .i64 c]=>VC (l.length≤1000000000)∧K (.bp (decide (c∈l)))
 |_=>False
theorem NU:POK Tryz.prog 215 GV:=by
 intro xs K hk;unfold GV at hk;split at hk
 ·exact⟨_,hk.2,Vm _ _ hk.1.get⟩
 ·exact hk.elim
end Go.Eng.YtmkagljofpddpaaGreatDoor
namespace Go.Eng.YtmkagljofpddpaaGreatDoor
open Go.Proofs Go.Eng.ElG
set_option linter.unusedSimpArgs false
set_option linter.unusedVariables false
set_option maxHeartbeats 0
set_option maxRecDepth 100000
def kU (args:List PV) (objs:List AO) (vs:List PV) (objs':List AO):LSp:=fun ys os K=>VC (ys=args∧os=objs)∧K vs objs'
theorem dA {g:FuncId} {args vs:List PV} {objs objs':List AO} (h:dI Tryz.prog g args objs vs objs'):LOK Tryz.prog g (kU args objs vs objs'):=by
 intro xs os K hk;unfold kU at hk;obtain⟨rfl,rfl⟩:=hk.1.get;exact⟨_,_,hk.2,h⟩
def ls3 (A B C:LSp):LSp:=fun ys os K=>match os with
 | [.pmat _ _]=>A ys os K
 | [.qmat _ _ _]=>B ys os K
 | []=>C ys os K
 |_=>False
theorem Vn {g:FuncId} {A B C:LSp} (h1:LOK Tryz.prog g A) (h2:LOK Tryz.prog g B) (h3:LOK Tryz.prog g C):LOK Tryz.prog g (ls3 A B C):=by
 intro xs os K hk;unfold ls3 at hk;split at hk
 ·exact h1 _ _ _ hk
 ·exact h2 _ _ _ hk
 ·exact h3 _ _ _ hk
 ·exact hk.elim
theorem Vo (p:Int) (cols:Nat) (hcol:cols≤1000):dI Tryz.prog 150 [rsV p,.nils,.int .i64 (cols:Int)] [] [.agg [.nils,.any,.any,.any]] []:=by
 refine dW (md:=0) (rf:=[]) mixed av kC 0 [] Tryz.func150 (by rfl) (by rfl) (by rfl) ?_
 conv=>whnf
 refine aU (X:=Nat) (fun c=>c≤cols) (fun c=>[(17,.int .i64 c)]) (fun c=>[]) (fun c=>cols-c) 0 ⟨aJ,mixed,av,kC,aR⟩ (by rfl) (by omega) ?_ ?_
 ·all_goals exact aW
 intro c hc;by_cases hlt:c<cols
 ·repeat'((conv=>whnf);first|(intro hq;(try simp only[vw]at hq);try exact ak hq)|apply aI|exact aj|apply nM|apply fM)
  all_goals((try apply vM);(try simp only[vq]at*);try omega)
  conv=>whnf
  refine aU (X:=Unit) (fun _=>True) (fun _=>[(10,.int .i64 0)]) (fun _=>[]) (fun _=>0) () ⟨aJ,mixed,av,kC,aR⟩ (by rfl) True.intro ?_ ?_
  ·all_goals exact aW
  intro _ _;all_goals exact EC
 ·have:c=cols:=by omega
  subst this
  repeat'((conv=>whnf);first|(intro hq;(try simp only[vw]at hq);try exact ak hq)|apply aI|exact aj|apply nM|apply fM)
  all_goals((try apply vM);(try simp only[vq]at*);try omega)
  all_goals exact anV 0
def BU (id n:Nat):PV:=match n with
 |0=>.nils
 |j+1=>.rsl id 0 (j+1)
def Rm (id n:Nat) (c:Nat→CL):List (Nat × AO):=match n with
 |0=>[]
 |j+1=>[(id,.qmat (j+1) (fun _=>2) c)]
theorem YA {p:Int} (hp:PrI p) {S:ES Int} {m w:Nat} (hS:∀r,r<m→∀j,j<w→InP p (S.M r j)) {c:Nat} (hc:c<w):∀t,t≤m→∀j,InP p (fH (Fp p) 0 1 S c t j):=by
 intro t;induction t with
 |zero=>
  intro _ j;have:=hp.lo;show InP p (if j=c then 1 else 0);unfold InP;split<;>omega
 |succ t ih=>
  intro ht j;show InP p (if j=S.piv.getD t 0 then(0-S.M t c+p) % p else fH (Fp p) 0 1 S c t j);split
  ·exact ng hp _
  ·exact ih (by omega) j
theorem Vp (w:Nat):ajZ w (0:Int)=cO w fun _=>0:=by
 apply alL
 ·simp[cO]
 ·intro j h1 h2;simp[cO]
theorem su {l:List Nat} {c:Nat}:((c:Int)∈pvI l)↔c∈l:=by
 unfold pvI;rw[anW];constructor
 ·rintro⟨x,h,e⟩
  have:x=c:=Int.ofNat.inj e;rw[←this];exact h
 ·exact fun h=>⟨c,h,rfl⟩
theorem Vq {p:Int} {m w cols:Nat} {M0:bL Int} (hp:PrI p) (hm:1≤m∧m≤256) (hw:w≤1000) (hcw:cols≤w) (h0:∀r,r<m→∀j,j<w→InP p (M0 r j)):
 dI Tryz.prog 150 [rsV p,.rsl 0 0 m,.int .i64 (cols:Int)] [.qmat m (fun _=>2) fun i=>.ints .i64 (cO w (M0 i))]
  [.agg [.rsl 0 0 (aN (Fp p) w m M0 cols).piv.length,.isl (.ints .i64 (pvI (aN (Fp p) w m M0 cols).piv)) .none,.isl (.ints .i64 (aN (Fp p) w m M0 cols).heads) .none,.bp (aN (Fp p) w m M0 cols).odd]] [.pmat m (fnI w (aN (Fp p) w m M0 cols).M)]:=
 pG (pre:=[]) (post:=[]) (fnI w M0) (fun i hi=>⟨rfl,gK.rfl' _⟩) (J8 hp hm hw hcw h0)
noncomputable def aja (A B C:LSp) (w:Nat):CPT:=aB 150 (dR [] (ls3 A B C)) (aB 214 (aP (zH (fun p a=>PrI p∧ -999999999≤a∧a≤999999999) fun p a=>.int .i64 (a % p))) (aB 215 (aP GV) (aB 216 (dR [] (kU [.isl (.ints .i64 [0]) .none,.int .i64 (w:Int)] [] [.rsl 0 0 w] [.cells (.ints .i64 (ajZ w 0)) false])) (aB 334 (aP (J7 (fun p a b=>PrI p∧InP p a∧InP p b) fun p a b=>.int .i64 ((a-b+p) % p))) noC))))
theorem aef {A B C:LSp} {w:Nat} (hA:LOK Tryz.prog 150 A) (hB:LOK Tryz.prog 150 B) (hC:LOK Tryz.prog 150 C) (hw:1≤w∧w≤1000000):bC Tryz.prog (aja A B C w):=
 au (bT [] (Vn hA hB hC)) (au (aC (sj fun p a h=>zG p a h.1 h.2)) (au (aC NU) (au (bT [] (dA (Vk 0 w hw))) (au (aC (DF fun p a b h=>J6 p a b h.1 h.2.1 h.2.2)) aF))))
theorem Vr {p:Int} {m w:Nat} {M0:bL Int} (hp:PrI p) (hm:1≤m∧m≤256) (hw:1≤w∧w≤256) (h0:∀r,r<m→∀j,j<w→InP p (M0 r j)) {k:Nat} (hk:(bK (aN (Fp p) w m M0 w).piv w).length=k+1):
 dI Tryz.prog 152 [rsV p,.rsl 0 0 m,.int .i64 (w:Int)] [.pmat m (fnI w M0)] [.rsl 1 0 (gP (Fp p) 0 1 w m M0).piv.length] [.pmat m (fnI w (aN (Fp p) w m M0 w).M),.pmat (k+1) (fnI w (gP (Fp p) 0 1 w m M0).M)]:=by
 obtain⟨S,hS⟩:∃S,S=aN (Fp p) w m M0 w:=⟨_,rfl⟩;have hA:=J8 hp hm (show w≤1000 by omega) (ajE w) h0
 obtain⟨l1,l2,l3⟩:=fE (Fp p) w m M0 w;have hpv:=wX (Fp p) w m M0 w;have hhom:=iZ (aaR hp) (M':=M0) (fun r hr j hj=>⟨h0 r hr j hj,rfl⟩) w (ajE w);have hIn:∀r,r<m→∀j,j<w→InP p (S.M r j):=fun r hr j hj=>by rw[hS];exact(hhom.1 r hr j hj).1
 clear hhom;have hfl:=jR S.piv w;rw[←hS]at hk hA l1 l2 hpv⊢;have hKin:∀r,r<k+1→∀j,j<w→InP p (kH (Fp p) 0 1 S w r j):=fun r hr j hj=>YA hp hIn (by
  have:(bK S.piv w).getD r 0∈bK S.piv w:=by
   rw[ajQ,ajV (by omega)];exact anO _
  exact(qQ.1 this).1) _ (by omega) j
 have hB:=Vq (m:=k+1) (M0:=kH (Fp p) 0 1 S w) hp (by omega) (show w≤1000 by omega) (ajE w) hKin
 have hE:aN (Fp p) w (k+1) (kH (Fp p) 0 1 S w) w=gP (Fp p) 0 1 w m M0:=by unfold gP;rw[←hS,hk]
 rw[hE]at hB;generalize gP (Fp p) 0 1 w m M0=S2 at*
 have h0p:(0:Int) % p=0:=Int.zero_emod p;have hp1:(1:Int) % p=1:=Int.emod_eq_of_lt (by omega) (by have:=hp.lo;omega)
 have hc:=aef (dA hA) (dA hB) (dA (Vo p w (by omega))) (w:=w) (by omega)
 refine dW (md:=0) (rf:=[4065,66]) mixed av hc 1 [(7,1)] Tryz.func152 (by rfl) (by rfl) (by rfl) ?_
 repeat'((conv=>whnf);first|intro _|apply aI|exact aj|apply nM|apply fM)
 all_goals((try apply vM);(try simp only[vq]at*);try omega)
 conv=>whnf
 refine IL 0 (by rfl) fun l g hl hnd hg=>?_
 conv=>whnf
 refine aU (X:=Nat) (fun c=>c≤w) (fun c=>[(18,.int .i64 c),(9,.any),(10,.any),(11,.any),(12,.any),(8,BU 7 (bK S.piv c).length)]) (fun c=>Rm 7 (bK S.piv c).length fun i=>.ints .i64 (cO w (kH (Fp p) 0 1 S w i))) (fun c=>w-c) 0 ⟨aJ,mixed,av,hc,aR⟩ (by rfl) (by omega) ?_ ?_
 ·rw[BR]
  all_goals exact eT
 intro c hcw;obtain⟨n,hn⟩:∃n,(bK S.piv c).length=n:=⟨_,rfl⟩;rw[hn];have hP:(pvI S.piv).length=S.piv.length:=by simp[pvI]
 by_cases hlt:c<w
 ·by_cases hin:c∈S.piv
  ·have hin':=su.2 hin
   have hn':(bK S.piv (c+1)).length=n:=by rw[uH hin];exact hn
   cases n with
   |zero=>
    all_goals exact ED
   |succ n=>
    repeat'((conv=>whnf);first|(intro hq;(try simp only[vw]at hq);try exact ak hq)|apply aI|exact aj|apply nM|apply fM)
    all_goals((try apply vM);(try simp only[vq]at*);try omega)
    all_goals first
     |(refine⟨c+1,[],⟨by omega,by omega⟩,?_⟩
       rw[hn'];all_goals exact tX)
     |(rw[hP];omega)
     |contradiction
  ·have hin':¬(c:Int)∈pvI S.piv:=fun h=>hin (su.1 h)
   have hn':(bK S.piv (c+1)).length=n+1:=by rw[lI hin,akY,hn];rfl
   have hlast:(bK S.piv w).getD n 0=c:=by rw[←hn];exact BS hin hlt
   have hz:(ajZ w (0:Int)).set c (1 % p)=cO w (fH (Fp p) 0 1 S c 0):=by rw[hp1,Vp,qg];rfl
   cases n with
   |zero=>
    repeat'((conv=>whnf);first|(intro hq;(try simp only[vw]at hq);try exact ak hq)|apply aI|exact aj|apply nM|apply fM)
    all_goals((try apply vM);(try simp only[vq]at*);try omega)
    all_goals first
     |(rw[hP];omega)
     |contradiction
     |exact⟨hp,by decide,by decide⟩
     |(simp only[h0p];done)
     |(rw[anT];exact hlt)
     |skip
    conv=>whnf
    simp only[alR,hz];refine aU (X:=Nat) (fun t=>t≤S.piv.length) (fun t=>[(40,.int .i64 t),(11,.any),(12,.any),(26,.any),(34,.any)]) (fun t=>[(12,.cells (.ints .i64 (cO w (fH (Fp p) 0 1 S c t))) false)]) (fun t=>S.piv.length-t) 0 ⟨aJ,mixed,av,hc,aR⟩ (by rfl) (by omega) ?_ ?_
    ·all_goals exact tX
    intro t ht;by_cases htl:t<S.piv.length
    ·have hgt:=hg t (by omega)
     have ht1:(pvI S.piv).getD t 0=((S.piv.getD t 0:Nat):Int):=by simp[pvI,ajQ,htl]
     have ht2:S.piv.getD t 0<w:=hpv _ (by rw[ajQ,ajV htl];exact anO _)
     have hM:(cO w (S.M t)).getD c 0=S.M t c:=qd _ hlt;have iIn:=hIn t (by omega) c hlt
     have hset:(cO w (fH (Fp p) 0 1 S c t)).set (S.piv.getD t 0) ((0-S.M t c+p) % p)=cO w (fH (Fp p) 0 1 S c (t+1)):=by rw[qg];rfl
     have hlm:l.getD t 0∈l:=by rw[ajQ,ajV (by omega)];exact anO _
     repeat'((conv=>whnf);first|(intro hq;(try simp only[vw]at hq);try exact ak hq)|apply aI|exact aj|apply nM|apply fM)
     all_goals((try apply vM);(try simp only[vq]at*);try omega)
     all_goals(try simp only[iV,aj9,hgt,hM,h0p,ht1,alR,fC])
     all_goals first
      |omega
      |exact hlm
      |exact⟨hp,by decide,by decide⟩
      |exact⟨hp,⟨by omega,by have:=hp.lo;omega⟩,iIn⟩
      |(rw[hset]
        refine⟨t+1,[],⟨by omega,by omega⟩,?_⟩
        all_goals exact tX)
    ·have:t=S.piv.length:=by omega
     subst this;have hb:=jR S.piv (c+1);rw[hn']at hb;all_goals exact EF
   |succ n=>
    repeat'((conv=>whnf);first|(intro hq;(try simp only[vw]at hq);try exact ak hq)|apply aI|exact aj|apply nM|apply fM)
    all_goals((try apply vM);(try simp only[vq]at*);try omega)
    all_goals first
     |(rw[hP];omega)
     |contradiction
     |exact⟨hp,by decide,by decide⟩
     |(simp only[h0p];done)
     |(rw[anT];exact hlt)
     |skip
    conv=>whnf
    simp only[alR,hz];refine aU (X:=Nat) (fun t=>t≤S.piv.length) (fun t=>[(40,.int .i64 t),(11,.any),(12,.any),(26,.any),(34,.any)]) (fun t=>[(12,.cells (.ints .i64 (cO w (fH (Fp p) 0 1 S c t))) false)]) (fun t=>S.piv.length-t) 0 ⟨aJ,mixed,av,hc,aR⟩ (by rfl) (by omega) ?_ ?_
    ·all_goals exact tX
    intro t ht;by_cases htl:t<S.piv.length
    ·have hgt:=hg t (by omega)
     have ht1:(pvI S.piv).getD t 0=((S.piv.getD t 0:Nat):Int):=by simp[pvI,ajQ,htl]
     have ht2:S.piv.getD t 0<w:=hpv _ (by rw[ajQ,ajV htl];exact anO _)
     have hM:(cO w (S.M t)).getD c 0=S.M t c:=qd _ hlt;have iIn:=hIn t (by omega) c hlt
     have hset:(cO w (fH (Fp p) 0 1 S c t)).set (S.piv.getD t 0) ((0-S.M t c+p) % p)=cO w (fH (Fp p) 0 1 S c (t+1)):=by rw[qg];rfl
     have hlm:l.getD t 0∈l:=by rw[ajQ,ajV (by omega)];exact anO _
     repeat'((conv=>whnf);first|(intro hq;(try simp only[vw]at hq);try exact ak hq)|apply aI|exact aj|apply nM|apply fM)
     all_goals((try apply vM);(try simp only[vq]at*);try omega)
     all_goals(try simp only[iV,aj9,hgt,hM,h0p,ht1,alR,fC])
     all_goals first
      |omega
      |exact hlm
      |exact⟨hp,by decide,by decide⟩
      |exact⟨hp,⟨by omega,by have:=hp.lo;omega⟩,iIn⟩
      |(rw[hset]
        refine⟨t+1,[],⟨by omega,by omega⟩,?_⟩
        all_goals exact tX)
    ·have:t=S.piv.length:=by omega
     subst this;have hb:=jR S.piv (c+1);rw[hn']at hb;all_goals exact EF
 ·have hc0:c=w:=by omega
  subst hc0;rw[hk]at hn;subst hn;all_goals exact ah3
end Go.Eng.YtmkagljofpddpaaGreatDoor
namespace Go.Eng.YtmkagljofpddpaaGreatDoor
open Go.Proofs Go.Eng.Dig
set_option linter.unusedSimpArgs false
set_option linter.unusedVariables false
set_option maxHeartbeats 0
set_option maxRecDepth 100000
theorem aoc {m:Nat}:∀{rs:List (List PV)},(∀r,r∈rs→(ajW r.length m&&jM r)=true)→rE m rs:=by
 intro rs;induction rs with
 |nil=>intro _;trivial
 |cons r rs ih=>intro h;exact⟨h r (by simp),ih fun x hx=>h x (by simp[hx])⟩
theorem LB:∀{rs:List (List PV)},(∀r,r∈rs→iO.inlF r=true)→eY rs:=by
 intro rs;induction rs with
 |nil=>intro _;trivial
 |cons r rs ih=>intro h;exact⟨h r (by simp),ih fun x hx=>h x (by simp[hx])⟩
theorem NV {α:Type} {v z:α} {n j:Nat} {r:α} (h:r∈rpL v z n j):r=v∨r=z:=by
 unfold rpL at h;rw[ajR,anX,anX]at h;rcases h with h|h<;>simp[h.2]
theorem aeg:qC.bytes=64:=by rfl
theorem NW:qC.size=4:=by rfl
def zI:List PV:=[.int .i64 0,.nils,.int .i64 0,.nils]
theorem Fv (f:List PV) (n:Nat) (hn:1≤n∧n≤1000000) (h1:(ajW f.length 4&&jM f)=true) (hi:iO.inlF f=true):dI Tryz.prog 170 [.isl (.recs 4 [f]) .none,.int .i64 n] [] [.rsc 0 4 n] [.rowo (.recs 4 (ajZ n f))]:=by
 have h2:((1:Nat):Int)*(n:Int) / 18446744073709551616=0:=by omega
 have h3:((1:Nat):Int)*(n:Int) % 18446744073709551616=n:=by omega
 have h4:(((1:Nat):Int)*(n:Int) % 18446744073709551616).toNat=n:=by rw[h3];omega
 have h5:min 1 n=1:=by omega
 have hin:∀j,eY (rpL f zI n j):=fun j=>LB fun r hr=>by
  rcases NV hr with rfl|rfl
  ·exact hi
  ·rfl
 have hall:∀j,rE 4 (rpL f zI n j):=fun j=>aoc fun r hr=>by
  rcases NV hr with rfl|rfl
  ·exact h1
  ·rfl
 refine dW (md:=1) (rf:=[6030]) mixed av yF 0 [(4,0)] Tryz.func170 (by rfl) (by rfl) (by rfl) ?_
 repeat'((conv=>whnf);first|(intro hq;(try simp only[vw]at hq);try exact ak hq)|apply aI|exact aj|apply nM|apply fM)
 all_goals((try apply vM);(try simp only[vq]at*);try omega)
 all_goals(try simp only[h3,h4,h5,aeg,NW,anT])
 ·omega
 ·exact .inl trivial
 conv=>whnf
 repeat'((conv=>whnf);first|(intro hq;(try simp only[vw]at hq);try exact ak hq)|apply aI|exact aj|apply nM|apply fM)
 all_goals((try apply vM);(try simp only[vq]at*);try omega)
 ·show 0 / 4+min 1 n≤n
  omega
 conv=>whnf
 simp only[h3,h4,alR,h5,anY];have e1:=NS f zI hn.1;simp only[aj2]at e1⊢;rw[show([PV.int .i64 0,PV.nils,PV.int .i64 0,PV.nils]:List PV)=zI from rfl,e1];refine aU (X:=Nat) (fun j=>1≤j∧j≤n) (fun j=>[(8,.int .i64 j)]) (fun j=>[(4,.cells (.recs 4 (rpL f zI n j)) false)]) (fun j=>n-j) 1 ⟨aJ,mixed,av,yF,aR⟩ (by rfl) ⟨by omega,by omega⟩ ?_ ?_
 ·repeat'((conv=>whnf);first|intro _|apply aI|exact aj|apply nM|apply fM)
  all_goals((try apply vM);(try simp only[vq]at*);try omega)
  all_goals exact hin 1
 intro j hj;have hl:=yE f zI hj.2;have hI:=hin j;have hA:=hall j;by_cases hlt:j<n
 ·have hq':min j (n-j)≤j:=by omega
  have hs:=J9 f zI (n:=n) (j:=j) (q:=min j (n-j)) (by omega) (by omega)
  have hI2:=hin (j+min j (n-j))
  repeat'((conv=>whnf);first|(intro hq;(try simp only[vw]at hq);try exact ak hq)|apply aI|exact aj|apply nM|apply fM)
  all_goals((try apply vM);(try simp only[vq]at*);try omega)
  all_goals(try simp only[NW,akD,anY,Nat.mul_div_cancel _ (show 0<4 by decide),Nat.mul_mod_left,anU,hl])
  all_goals first
   |exact hI
   |exact hA
   |omega
   |(rw[hs]
     refine⟨j+min j (n-j),[],⟨by omega,by omega⟩,?_⟩
     repeat'((conv=>whnf);first|intro _|apply aI|exact aj|apply nM|apply fM)
     all_goals((try apply vM);(try simp only[vq]at*);try omega)
     all_goals first|exact⟨rfl,hI2⟩|exact hI2)
 ·have:j=n:=by omega
  subst this;rw[NT]at hI⊢
  repeat'((conv=>whnf);first|(intro hq;(try simp only[vw]at hq);try exact ak hq)|apply aI|exact aj|apply nM|apply fM)
  all_goals((try apply vM);(try simp only[vq]at*);try omega)
  all_goals first|exact⟨rfl,hI⟩|exact hI
end Go.Eng.YtmkagljofpddpaaGreatDoor
namespace Go.Eng.YtmkagljofpddpaaGreatDoor
open Go.Proofs Go.Eng.ElG
set_option linter.unusedSimpArgs false
set_option linter.unusedVariables false
set_option maxHeartbeats 0
set_option maxRecDepth 100000
def rfL (w:Nat) (f:Nat→Fr):List (List PV):=(ajO w).map fun j=>frC (f j)
theorem iD (w:Nat) (f:Nat→Fr):(rfL w f).length=w:=by simp[rfL]
theorem yG {w:Nat} (f:Nat→Fr) (k:Nat) (v:Fr):(rfL w f).set k (frC v)=rfL w (fun j=>if j=k then v else f j):=by
 apply alL
 ·simp[rfL]
 ·intro j h1 h2
  rw[alO];simp only[rfL,alP,alQ];by_cases e:k=j
  ·subst e;simp
  ·rw[if_neg e,if_neg (fun h=>e h.symm)]
theorem kV (w:Nat) (f:Nat→Fr):gK (.recs 4 (rfL w f)) (.genr 4 w fun j=>frC (f j)):=by
 refine⟨by simp[CL.cnt,rfL],rfl,fun j hj=>?_⟩
 have hj:j<(rfL w f).length*4:=hj;rw[iD]at hj;simp only[CL.get];have h1:j / 4<w:=by omega
 simp[rfL,ajQ,h1]
theorem BX (cols:Nat) (hcol:cols≤1000):dI Tryz.prog 131 [.agg [],.nils,.int .i64 (cols:Int)] [] [.agg [.nils,.any,.any,.any]] []:=by
 refine dW (md:=0) (rf:=[]) mixed av kr 0 [] Tryz.func131 (by rfl) (by rfl) (by rfl) ?_
 conv=>whnf
 refine aU (X:=Nat) (fun c=>c≤cols) (fun c=>[(17,.int .i64 c)]) (fun c=>[]) (fun c=>cols-c) 0 ⟨aJ,mixed,av,kr,aR⟩ (by rfl) (by omega) ?_ ?_
 ·all_goals exact aW
 intro c hc;by_cases hlt:c<cols
 ·repeat'((conv=>whnf);first|(intro hq;(try simp only[vw]at hq);try exact ak hq)|apply aI|exact aj|apply nM|apply fM)
  all_goals((try apply vM);(try simp only[vq]at*);try omega)
  conv=>whnf
  refine aU (X:=Unit) (fun _=>True) (fun _=>[(10,.int .i64 0)]) (fun _=>[]) (fun _=>0) () ⟨aJ,mixed,av,kr,aR⟩ (by rfl) True.intro ?_ ?_
  ·all_goals exact aW
  intro _ _;all_goals exact EC
 ·have:c=cols:=by omega
  subst this
  repeat'((conv=>whnf);first|(intro hq;(try simp only[vw]at hq);try exact ak hq)|apply aI|exact aj|apply nM|apply fM)
  all_goals((try apply vM);(try simp only[vq]at*);try omega)
  all_goals exact anV 0
theorem uI {m w cols b:Nat} {M0:bL Fr} (hm:1≤m∧m≤256) (hw:w≤1000) (hcw:cols≤w) (h0:∀r,r<m→∀j,j<w→GL b 0 (M0 r j)) (hB:Bd b m≤1000000000):
 dI Tryz.prog 131 [.agg [],.rsl 0 0 m,.int .i64 (cols:Int)] [.qmat m (fun _=>2) fun i=>.recs 4 (rfL w (M0 i))]
  [.agg [.rsl 0 0 (aN Ff w m M0 cols).piv.length,.isl (.ints .i64 (pvI (aN Ff w m M0 cols).piv)) .none,.isl (.recs 4 ((aN Ff w m M0 cols).heads.map frC)) .none,.bp (aN Ff w m M0 cols).odd]] [.pmat m (fnM w (aN Ff w m M0 cols).M)]:=
 pG (pre:=[]) (post:=[]) (fnM w M0) (fun i hi=>⟨rfl,kV _ _⟩) (zF hm hw hcw h0 hB)
abbrev zFr:Fr:=⟨⟨0,[]⟩,fJ⟩
abbrev oFr:Fr:=⟨⟨1,[]⟩,fJ⟩
def YB:PSp:=fun xs K=>match xs with
 | [.agg [],.int .i64 n]=>K (frV ⟨⟨n,[]⟩,fJ⟩)
 |_=>False
theorem agJ:POK Tryz.prog 329 YB:=by
 intro xs K hk;unfold YB at hk;split at hk
 ·exact⟨_,hk,Yv _⟩
 ·exact hk.elim
noncomputable def ajb (A B C:LSp) (w:Nat):CPT:=aB 131 (dR [] (ls3 A B C)) (aB 329 (aP YB) (aB 215 (aP GV) (aB 170 (dR [] (kU [.isl (.recs 4 [frC zFr]) .none,.int .i64 (w:Int)] [] [.rsc 0 4 w] [.rowo (.recs 4 (ajZ w (frC zFr)))])) (aB 330 (aV (J3 (fun a b=>FB a∧FB b) fun a b=>frV (iA a b))) noC))))
theorem NY {A B C:LSp} {w:Nat} (hA:LOK Tryz.prog 131 A) (hB:LOK Tryz.prog 131 B) (hC:LOK Tryz.prog 131 C) (hw:1≤w∧w≤1000000):bC Tryz.prog (ajb A B C w):=
 au (bT [] (Vn hA hB hC)) (au (aC agJ) (au (aC NU) (au (bT [] (dA (Fv (frC zFr) w hw (by rfl) (by rfl)))) (au (aG (DC fun a b h=>J4 a b h)) aF))))
theorem Ro {m w b:Nat} {M0:bL Fr} (hm:1≤m∧m≤256) (hw:1≤w∧w≤256) (h0:∀r,r<m→∀j,j<w→GL b 0 (M0 r j)) (hB:Bd b m≤1000000000) (hk:(bK (aN Ff w m M0 w).piv w).length=0):
 dI Tryz.prog 159 [PV.agg [],.rsl 0 0 m,.int .i64 (w:Int)] [.pmat m (fnM w M0)] [.nils] [.pmat m (fnM w (aN Ff w m M0 w).M)]:=by
 obtain⟨S,hS⟩:∃S,S=aN Ff w m M0 w:=⟨_,rfl⟩;have hA:=zF hm (show w≤1000 by omega) (ajE w) h0 hB
 obtain⟨l1,l2,l3⟩:=fE Ff w m M0 w;rw[←hS]at hk hA l1 l2⊢;have hall:∀c,c<w→c∈S.piv:=fun c hc=>by
  apply anZ;intro h;have h1:c∈bK S.piv w:=qQ.2 ⟨hc,h⟩;rw[List.eq_nil_of_length_eq_zero hk]at h1;cases h1
 have hBB:LOK Tryz.prog 131 fun _ _ _=>False:=fun _ _ _ h=>h.elim;have hc:=NY (dA hA) hBB (dA (BX w (by omega))) (w:=w) (by omega)
 refine dW (md:=0) (rf:=[4065,66]) mixed av hc 1 [] Tryz.func159 (by rfl) (by rfl) (by rfl) ?_
 repeat'((conv=>whnf);first|intro _|apply aI|exact aj|apply nM|apply fM)
 all_goals((try apply vM);(try simp only[vq]at*);try omega)
 conv=>whnf
 refine aU (X:=Nat) (fun c=>c≤w) (fun c=>[(18,.int .i64 c),(9,.any),(10,.any),(11,.any),(12,.any),(8,.nils)]) (fun c=>[]) (fun c=>w-c) 0 ⟨aJ,mixed,av,hc,aR⟩ (by rfl) (by omega) ?_ ?_
 ·all_goals exact wm
 intro c hcw;have hP:(pvI S.piv).length=S.piv.length:=by simp[pvI]
 by_cases hlt:c<w
 ·have hin':=su.2 (hall c hlt)
  repeat'((conv=>whnf);first|(intro hq;(try simp only[vw]at hq);try exact ak hq)|apply aI|exact aj|apply nM|apply fM)
  all_goals((try apply vM);(try simp only[vq]at*);try omega)
  all_goals first
   |(refine⟨c+1,[],⟨by omega,by omega⟩,?_⟩
     all_goals exact wm)
   |(rw[hP];omega)
   |contradiction
 ·have hc0:c=w:=by omega
  subst hc0
  repeat'((conv=>whnf);first|(intro hq;(try simp only[vw]at hq);try exact ak hq)|apply aI|exact aj|apply nM|apply fM)
  all_goals((try apply vM);(try simp only[vq]at*);try omega)
  all_goals first|exact fun _ _=>trivial|exact Sup.of rfl
def kB (b m:Nat):Nat:=zFr.L+oFr.L+1+Bd b m
theorem yH:zFr=can 0:=rfl
theorem sw:oFr=can 1:=rfl
theorem wY:zFr.OK:=by rw[yH];exact dY _
theorem Vs:oFr.OK:=by rw[sw];exact dY _
theorem fbz:FB zFr:=by rw[yH];exact Jz (by decide+kernel)
theorem NZ {S:ES Fr} {m w b:Nat} (hS:∀r,r<m→∀j,j<w→GL b m (S.M r j)) {c:Nat} (hc:c<w):∀t,t≤m→∀j,GL (kB b m) 0 (fH Ff zFr oFr S c t j):=by
 intro t;induction t with
 |zero=>
  intro _ j;show GL (kB b m) 0 (if j=c then oFr else zFr);split
  ·exact⟨Vs,by show _≤kB b m;unfold kB;omega⟩
  ·exact⟨wY,by show _≤kB b m;unfold kB;omega⟩
 |succ t ih=>
  intro ht j;show GL (kB b m) 0 (if j=S.piv.getD t 0 then iA zFr (S.M t c)else fH Ff zFr oFr S c t j);split
  ·have h:=hS t (by omega) c hc
   have h1:=aaM wY h.ok;have h2:=h.le;exact⟨Nk wY h.ok,by show _≤kB b m;unfold kB;omega⟩
  ·exact ih (by omega) j
theorem zJ (w:Nat):ajZ w (frC zFr)=rfL w fun _=>zFr:=by
 apply alL
 ·simp[rfL]
 ·intro j h1 h2;simp[rfL]
theorem lJ (w:Nat) (f:Nat→Fr):eY (rfL w f):=rz _ _ fun i=>rfl
theorem Vt {m w b:Nat} {M0:bL Fr} (hm:1≤m∧m≤256) (hw:1≤w∧w≤256) (h0:∀r,r<m→∀j,j<w→GL b 0 (M0 r j)) (hB1:Bd b m≤1000000000) {k:Nat} (hk:(bK (aN Ff w m M0 w).piv w).length=k+1) (hB2:Bd (kB b m) (k+1)≤1000000000):
 dI Tryz.prog 159 [PV.agg [],.rsl 0 0 m,.int .i64 (w:Int)] [.pmat m (fnM w M0)] [.rsl 1 0 (gP Ff zFr oFr w m M0).piv.length] [.pmat m (fnM w (aN Ff w m M0 w).M),.pmat (k+1) (fnM w (gP Ff zFr oFr w m M0).M)]:=by
 obtain⟨S,hS⟩:∃S,S=aN Ff w m M0 w:=⟨_,rfl⟩;have hA:=zF hm (show w≤1000 by omega) (ajE w) h0 hB1
 obtain⟨l1,l2,l3⟩:=fE Ff w m M0 w;have hpv:=wX Ff w m M0 w;have hhom:=iZ (yt b) (M':=fun i j=>(M0 i j).val) (fun r hr j hj=>⟨h0 r hr j hj,rfl⟩) w (ajE w);have hIn:∀r,r<m→∀j,j<w→GL b m (S.M r j):=fun r hr j hj=>by
  rw[hS];have:=(hhom.1 r hr j hj).1;exact⟨this.ok,ajI this.le (lG b (fE Ff w m M0 w).1)⟩
 clear hhom;have hfl:=jR S.piv w;rw[←hS]at hk hA l1 l2 hpv⊢;have hKin:∀r,r<k+1→∀j,j<w→GL (kB b m) 0 (kH Ff zFr oFr S w r j):=fun r hr j hj=>NZ hIn (by
  have:(bK S.piv w).getD r 0∈bK S.piv w:=by
   rw[ajQ,ajV (by omega)];exact anO _
  exact(qQ.1 this).1) _ (by omega) j
 have hB:=uI (m:=k+1) (M0:=kH Ff zFr oFr S w) (by omega) (show w≤1000 by omega) (ajE w) hKin hB2
 have hE:aN Ff w (k+1) (kH Ff zFr oFr S w) w=gP Ff zFr oFr w m M0:=by unfold gP;rw[←hS,hk]
 rw[hE]at hB;generalize gP Ff zFr oFr w m M0=S2 at*
 have hc:=NY (dA hA) (dA hB) (dA (BX w (by omega))) (w:=w) (by omega)
 refine dW (md:=0) (rf:=[4065,66]) mixed av hc 1 [(7,1)] Tryz.func159 (by rfl) (by rfl) (by rfl) ?_
 repeat'((conv=>whnf);first|intro _|apply aI|exact aj|apply nM|apply fM)
 all_goals((try apply vM);(try simp only[vq]at*);try omega)
 conv=>whnf
 refine Bo 0 (by rfl) fun l g hl hnd hg=>?_
 conv=>whnf
 refine aU (X:=Nat) (fun c=>c≤w) (fun c=>[(18,.int .i64 c),(9,.any),(10,.any),(11,.any),(12,.any),(8,BU 7 (bK S.piv c).length)]) (fun c=>Rm 7 (bK S.piv c).length fun i=>.recs 4 (rfL w (kH Ff zFr oFr S w i))) (fun c=>w-c) 0 ⟨aJ,mixed,av,hc,aR⟩ (by rfl) (by omega) ?_ ?_
 ·rw[BR]
  all_goals exact eT
 intro c hcw;obtain⟨n,hn⟩:∃n,(bK S.piv c).length=n:=⟨_,rfl⟩;rw[hn];have hP:(pvI S.piv).length=S.piv.length:=by simp[pvI]
 by_cases hlt:c<w
 ·by_cases hin:c∈S.piv
  ·have hin':=su.2 hin
   have hn':(bK S.piv (c+1)).length=n:=by rw[uH hin];exact hn
   cases n with
   |zero=>
    all_goals exact ED
   |succ n=>
    repeat'((conv=>whnf);first|(intro hq;(try simp only[vw]at hq);try exact ak hq)|apply aI|exact aj|apply nM|apply fM)
    all_goals((try apply vM);(try simp only[vq]at*);try omega)
    all_goals first
     |(refine⟨c+1,[],⟨by omega,by omega⟩,?_⟩
       rw[hn'];all_goals exact qJ)
     |(rw[hP];omega)
     |contradiction
  ·have hin':¬(c:Int)∈pvI S.piv:=fun h=>hin (su.1 h)
   have hn':(bK S.piv (c+1)).length=n+1:=by rw[lI hin,akY,hn];rfl
   have hlast:(bK S.piv w).getD n 0=c:=by rw[←hn];exact BS hin hlt
   have hz:(ajZ w (frC zFr)).set c (frC oFr)=rfL w (fH Ff zFr oFr S c 0):=by rw[zJ,yG];rfl
   cases n with
   |zero=>
    repeat'((conv=>whnf);first|(intro hq;(try simp only[vw]at hq);try exact ak hq)|apply aI|exact aj|apply nM|apply fM)
    all_goals((try apply vM);(try simp only[vq]at*);try omega)
    all_goals first
     |(rw[hP];omega)
     |contradiction
     |(rw[anT];exact hlt)
     |skip
    ·exact rfl
    ·exact rfl
    conv=>whnf
    simp only[alR,hz];refine aU (X:=Nat) (fun t=>t≤S.piv.length) (fun t=>[(40,.int .i64 t),(11,.any),(12,.any),(26,.any),(34,.any)]) (fun t=>[(12,.cells (.recs 4 (rfL w (fH Ff zFr oFr S c t))) false)]) (fun t=>S.piv.length-t) 0 ⟨aJ,mixed,av,hc,aR⟩ (by rfl) (by omega) ?_ ?_
    ·all_goals exact S9
    intro t ht;by_cases htl:t<S.piv.length
    ·have hgt:=hg t (by omega)
     have ht1:(pvI S.piv).getD t 0=((S.piv.getD t 0:Nat):Int):=by simp[pvI,ajQ,htl]
     have ht2:S.piv.getD t 0<w:=hpv _ (by rw[ajQ,ajV htl];exact anO _)
     have hM:=trivial;have iIn:=hIn t (by omega) c hlt
     have hset:(rfL w (fH Ff zFr oFr S c t)).set (S.piv.getD t 0) (frC (iA zFr (S.M t c)))=rfL w (fH Ff zFr oFr S c (t+1)):=by rw[yG];rfl
     have hlm:l.getD t 0∈l:=by rw[ajQ,ajV (by omega)];exact anO _
     repeat'((conv=>whnf);first|(intro hq;(try simp only[vw]at hq);try exact ak hq)|apply aI|exact aj|apply nM|apply fM)
     all_goals((try apply vM);(try simp only[vq]at*);try omega)
     all_goals(try simp only[eB,aj9,hgt,ht1,alR,iD,cK])
     all_goals first
      |omega
      |exact hlm
      |exact rfl
      |skip
     repeat'((conv=>whnf);first|(intro hq;(try simp only[vw]at hq);try exact ak hq)|apply aI|exact aj|apply nM|apply fM)
     all_goals((try apply vM);(try simp only[vq]at*);try omega)
     all_goals(try simp only[eB,aj9,hgt,ht1,alR,iD,cK])
     all_goals first
      |omega
      |exact hlm
      |exact rfl
      |exact⟨fbz,iIn.fb (by omega)⟩
      |(rw[hset]
        refine⟨t+1,[],⟨by omega,by omega⟩,?_⟩
        all_goals exact qJ)
    ·have:t=S.piv.length:=by omega
     subst this;have hb:=jR S.piv (c+1);rw[hn']at hb;all_goals exact EG
   |succ n=>
    repeat'((conv=>whnf);first|(intro hq;(try simp only[vw]at hq);try exact ak hq)|apply aI|exact aj|apply nM|apply fM)
    all_goals((try apply vM);(try simp only[vq]at*);try omega)
    all_goals first
     |(rw[hP];omega)
     |contradiction
     |(rw[anT];exact hlt)
     |skip
    ·exact rfl
    ·exact rfl
    conv=>whnf
    simp only[alR,hz];refine aU (X:=Nat) (fun t=>t≤S.piv.length) (fun t=>[(40,.int .i64 t),(11,.any),(12,.any),(26,.any),(34,.any)]) (fun t=>[(12,.cells (.recs 4 (rfL w (fH Ff zFr oFr S c t))) false)]) (fun t=>S.piv.length-t) 0 ⟨aJ,mixed,av,hc,aR⟩ (by rfl) (by omega) ?_ ?_
    ·all_goals exact S9
    intro t ht;by_cases htl:t<S.piv.length
    ·have hgt:=hg t (by omega)
     have ht1:(pvI S.piv).getD t 0=((S.piv.getD t 0:Nat):Int):=by simp[pvI,ajQ,htl]
     have ht2:S.piv.getD t 0<w:=hpv _ (by rw[ajQ,ajV htl];exact anO _)
     have hM:=trivial;have iIn:=hIn t (by omega) c hlt
     have hset:(rfL w (fH Ff zFr oFr S c t)).set (S.piv.getD t 0) (frC (iA zFr (S.M t c)))=rfL w (fH Ff zFr oFr S c (t+1)):=by rw[yG];rfl
     have hlm:l.getD t 0∈l:=by rw[ajQ,ajV (by omega)];exact anO _
     repeat'((conv=>whnf);first|(intro hq;(try simp only[vw]at hq);try exact ak hq)|apply aI|exact aj|apply nM|apply fM)
     all_goals((try apply vM);(try simp only[vq]at*);try omega)
     all_goals(try simp only[eB,aj9,hgt,ht1,alR,iD,cK])
     all_goals first
      |omega
      |exact hlm
      |exact rfl
      |skip
     repeat'((conv=>whnf);first|(intro hq;(try simp only[vw]at hq);try exact ak hq)|apply aI|exact aj|apply nM|apply fM)
     all_goals((try apply vM);(try simp only[vq]at*);try omega)
     all_goals(try simp only[eB,aj9,hgt,ht1,alR,iD,cK])
     all_goals first
      |omega
      |exact hlm
      |exact rfl
      |exact⟨fbz,iIn.fb (by omega)⟩
      |(rw[hset]
        refine⟨t+1,[],⟨by omega,by omega⟩,?_⟩
        all_goals exact qJ)
    ·have:t=S.piv.length:=by omega
     subst this;have hb:=jR S.piv (c+1);rw[hn']at hb;all_goals exact EG
 ·have hc0:c=w:=by omega
  subst hc0;rw[hk]at hn;subst hn;all_goals exact ah3
end Go.Eng.YtmkagljofpddpaaGreatDoor
namespace Go.Eng.YtmkagljofpddpaaGreatDoor
open Go.Proofs Go.Eng.Dig Go.Eng.Dec Go.Eng.Pm Go.Eng.ElG
set_option linter.unusedSimpArgs false
set_option linter.unusedVariables false
set_option maxHeartbeats 0
set_option maxRecDepth 100000
abbrev fmV (r w:Nat) (D:bL Fr):PV:=.isl (.gen r fun i=>frL w (D i)) .none
def mtT (w:Nat) (D:bL Fr) (i:Nat):List PV:=(ajO i).map fun r=>stV (txL w (D r))
theorem DI (w:Nat) (D:bL Fr) (i:Nat):(mtT w D i).length=i:=by simp[mtT]
theorem Ke (w:Nat) (D:bL Fr) (i:Nat):mtT w D i++[stV (txL w (D i))]=mtT w D (i+1):=by simp[mtT,am4]
theorem YC {f:Nat→PV}:∀{l:List Nat} {i:Nat} (h:i<l.length),aH (l.map f) i=f l[i]:=by
 intro l;induction l with
 |nil=>intro i h;cases h
 |cons x l ih=>
  intro i h;cases i with
  |zero=>rfl
  |succ i=>exact ih (by simpa using h)
theorem agK (w:Nat) (D:bL Fr) {r i:Nat} (h:i<r):aH (mtT w D r) i=stV (txL w (D i)):=by
 unfold mtT;rw[YC (by simpa using h)]
 simp
structure Ky where
 n:Nat
def rwP (w:Nat) (D:bL Fr):PSp:=fun ys K=>∃i:Ky,VC (ys=[frL w (D i.n)]∧∀j,j<w→FT (D i.n j))∧(kg w (D i.n)=true→K (.tup [stV [],.int .i64 4]))∧(kg w (D i.n)=false→K (.tup [stV (txL w (D i.n)),.int .i64 0]))
theorem agL {w:Nat} {D:bL Fr} (hw:w≤1000000):POK Tryz.prog 171 (rwP w D):=by
 rintro ys K ⟨⟨i⟩,⟨⟨rfl,hf⟩⟩,h1,h2⟩
 have h:=JY w (D i) hw hf;unfold rwR at h;cases hl:kg w (D i)
 ·rw[hl,if_neg (by simp)]at h;exact⟨_,h2 hl,h⟩
 ·rw[hl,if_pos rfl]at h;exact⟨_,h1 hl,h⟩
noncomputable def ajc (w:Nat) (D:bL Fr):CPT:=aB 171 (aP (rwP w D)) noC
theorem N7 {w:Nat} {D:bL Fr} (hw:w≤1000000):bC Tryz.prog (ajc w D):=au (aC (agL hw)) aF
theorem YD (r w:Nat) (D:bL Fr) (hr:r≤1000000) (hw:w≤1000000) (hf:∀i,i<r→∀j,j<w→FT (D i j)) (hl:∀i,i<r→kg w (D i)=false):
 aD Tryz.prog 158 [fmV r w D] (.tup [tmV r fun i=>txL w (D i),.int .i64 0]):=by
 have hc:=N7 (D:=D) hw;refine ay (md:=1) (rf:=[]) mixed av hc Tryz.func158 (by rfl) (by rfl) (by rfl) ?_
 repeat'((conv=>whnf);first|(intro hq;(try simp only[vw]at hq);try exact ak hq)|apply aI|exact aj|apply nM|apply fM)
 all_goals((try apply vM);(try simp only[vq]at*);try omega)
 conv=>whnf
 refine aU (X:=Nat) (fun i=>i≤r) (fun i=>[(11,.int .i64 i),(5,.any),(6,.any),(7,.any),(8,.any),(15,.any),(4,.isl (.pv (mtT w D i)) (.own 5))]) (fun i=>[(5,.tok 1 i)]) (fun i=>r-i) 0 ⟨aJ,mixed,av,hc,aR⟩ (by rfl) (by omega) ?_ ?_
 ·all_goals exact EH
 intro i hi;obtain⟨ky,rfl⟩:∃ky:Ky,i=ky.n:=⟨⟨i⟩,rfl⟩;have e0:=DI w D ky.n;by_cases hlt:ky.n<r
 ·have e1:=hf ky.n hlt
  have e2:=hl ky.n hlt;have e3:=Ke w D ky.n
  repeat'((conv=>whnf);first|refine Exists.intro (ky) ?_|(intro hq;(try simp only[vw]at hq);try exact ak hq)|apply aI|exact aj|apply nM|apply fM)
  all_goals((try apply vM);(try simp only[vq]at*);try omega)
  all_goals first
   |exact⟨rfl,e1⟩
   |exact e1
   |omega
   |(simp only[akY,ajA,ajw];omega)
   |(exfalso;simp_all;done)
   |(refine⟨ky.n+1,[],⟨by omega,by omega⟩,?_⟩
     all_goals exact EI)
 ·have:ky.n=r:=by omega
  rw[this]at*
  repeat'((conv=>whnf);first|(intro hq;(try simp only[vw]at hq);try exact ak hq)|apply aI|exact aj|apply nM|apply fM)
  all_goals((try apply vM);(try simp only[vq]at*);try omega)
  all_goals first|exact uD (BM (DI _ _ _) fun j hj=>agK w D hj) _ _
theorem aeh (r w:Nat) (D:bL Fr) (hr:r≤1000000) (hw:w≤1000000) (hf:∀i,i<r→∀j,j<w→FT (D i j)) (hl:∃i,i<r∧kg w (D i)=true):
 aD Tryz.prog 158 [fmV r w D] (.tup [.nils,.int .i64 4]):=by
 have hc:=N7 (D:=D) hw;refine ay (md:=1) (rf:=[]) mixed av hc Tryz.func158 (by rfl) (by rfl) (by rfl) ?_
 repeat'((conv=>whnf);first|(intro hq;(try simp only[vw]at hq);try exact ak hq)|apply aI|exact aj|apply nM|apply fM)
 all_goals((try apply vM);(try simp only[vq]at*);try omega)
 conv=>whnf
 refine aU (X:=Nat) (fun i=>i≤r∧∀j,j<i→kg w (D j)=false) (fun i=>[(11,.int .i64 i),(5,.any),(6,.any),(7,.any),(8,.any),(15,.any),(4,.isl (.pv (mtT w D i)) (.own 5))]) (fun i=>[(5,.tok 1 i)]) (fun i=>r-i) 0 ⟨aJ,mixed,av,hc,aR⟩ (by rfl) ⟨by omega,fun j hj=>by omega⟩ ?_ ?_
 ·all_goals exact EH
 intro i ⟨hi,hok⟩;obtain⟨ky,rfl⟩:∃ky:Ky,i=ky.n:=⟨⟨i⟩,rfl⟩;have e0:=DI w D ky.n;by_cases hlt:ky.n<r
 ·have e1:=hf ky.n hlt
  have e3:=Ke w D ky.n
  repeat'((conv=>whnf);first|refine Exists.intro (ky) ?_|(intro hq;(try simp only[vw]at hq);try exact ak hq)|apply aI|exact aj|apply nM|apply fM)
  all_goals((try apply vM);(try simp only[vq]at*);try omega)
  all_goals first
   |exact⟨rfl,e1⟩
   |exact e1
   |omega
   |(simp only[akY,ajA,ajw];omega)
   |exact Sup.of rfl
   |(refine⟨ky.n+1,[],⟨⟨by omega,fun j hj=>?_⟩,by omega⟩,?_⟩
     ·by_cases e:j=ky.n
      ·subst e;assumption
      ·exact hok j (by omega)
     all_goals exact EI)
 ·obtain⟨k,hk,hk2⟩:=hl
  rw[hok k (by omega)]at hk2
  cases hk2
theorem Vu:aD Tryz.prog 158 [.isl (.gen 0 fun _=>.nils) .none] (.tup [.nils,.int .i64 0]):=by
 refine ay (md:=1) (rf:=[]) mixed av aF Tryz.func158 (by rfl) (by rfl) (by rfl) ?_
 repeat'((conv=>whnf);first|(intro hq;(try simp only[vw]at hq);try exact ak hq)|apply aI|exact aj|apply nM|apply fM)
 all_goals((try apply vM);(try simp only[vq]at*);try omega)
 conv=>whnf
 refine aU (X:=Unit) (fun _=>True) (fun _=>[(11,.int .i64 0),(4,.nils)]) (fun _=>[]) (fun _=>0) () ⟨aJ,mixed,av,aF,aR⟩ (by rfl) True.intro ?_ ?_
 ·all_goals exact aW
 intro _ _;all_goals exact gJ
def uJ (w:Nat) (q:Nat→Rat):Bool:=(ajO w).any fun j=>lgQ (q j)
def GX (r w:Nat) (Q:Nat→Nat→Rat):Bool:=(ajO r).any fun i=>uJ w (Q i)
theorem zK {w:Nat} {f:Nat→Fr} {q:Nat→Rat} (h:∀j,j<w→(f j).val=q j):kg w f=uJ w q:=by
 unfold kg uJ;rw[Bool.eq_iff_iff,anK,anK];exact exists_congr fun j=>and_congr_right fun hj=>by rw[h j (aly.1 hj)]
theorem Vv {w:Nat} {f:Nat→Fr} {q:Nat→Rat} (h:∀j,j<w→(f j).val=q j):txL w f=qsL w q:=by
 unfold txL qsL;exact alN fun j hj=>by rw[h j (aly.1 hj)]
theorem YE {n:Nat} {f g:Nat→PV} (h:∀i,i<n→f i=g i):gK (.gen n f) (.gen n g):=⟨rfl,rfl,fun j hj=>by simp only[CL.ncell]at hj;simp only[CL.get];exact(h j hj).symm⟩
def mtN (r w:Nat) (Q:Nat→Nat→Rat):Nat:=if GX r w Q=true then 0 else r
def mtE (r w:Nat) (Q:Nat→Nat→Rat):Int:=if GX r w Q=true then 4 else 0
def mtR (r w:Nat) (Q:Nat→Nat→Rat):PV:=.tup [tmV (mtN r w Q) (qmL w Q),.int .i64 (mtE r w Q)]
theorem aei (r w:Nat) (D:bL Fr) (Q:Nat→Nat→Rat) (hr:r≤1000000) (hw:w≤1000000) (hf:∀i,i<r→∀j,j<w→FT (D i j)) (hv:∀i,i<r→∀j,j<w→(D i j).val=Q i j):
 aD Tryz.prog 158 [fmV r w D] (mtR r w Q):=by
 unfold mtR mtN mtE;cases hl:GX r w Q
 ·have hl':∀i,i<r→kg w (D i)=false:=fun i hi=>by
   rw[zK (hv i hi)];cases e:uJ w (Q i)
   ·rfl
   ·have:GX r w Q=true:=anK.2 ⟨i,aly.2 hi,e⟩
    rw[hl]at this;cases this
  simp only[akC,if_false];exact iI (YD r w D hr hw hf hl') (uD (YE fun i hi=>congrArg stV (Vv (hv i hi))) _ _)
 ·obtain⟨i,hi,e⟩:=anK.1 hl
  have hi:=aly.1 hi;simp only[if_true];exact iI (aeh r w D hr hw hf ⟨i,hi,by rw[zK (hv i hi)];exact e⟩) (zA rfl _)
abbrev qmF (m w:Nat) (D:bL Fr):AO:=.qmat m (fun _=>2) fun i=>.recs 4 (rfL w (D i))
theorem zL (m w:Nat) (D:bL Fr) (hm:1≤m∧m≤256):dI Tryz.prog 157 [.rsl 0 0 m] [qmF m w D] [.int .i64 (w:Int)] [qmF m w D]:=by
 refine dW (md:=1) (rf:=[]) mixed av aF 1 [] Tryz.func157 (by rfl) (by rfl) (by rfl) ?_
 repeat'((conv=>whnf);first|(intro hq;(try simp only[vw]at hq);try exact ak hq)|apply aI|exact aj|apply nM|apply fM)
 all_goals((try apply vM);(try simp only[vq]at*);try omega)
 all_goals first|exact .inr trivial|exact⟨fun _ _=>trivial,fun _ _ _=>trivial⟩|(simp only[iD])|(show 0*_<m;rw[akD];omega)
end Go.Eng.YtmkagljofpddpaaGreatDoor
namespace Go.Eng.YtmkagljofpddpaaGreatDoor
open Go.Proofs Go.Eng.Dig Go.Eng.Dec Go.Eng.Pm
set_option linter.unusedSimpArgs false
set_option linter.unusedVariables false
set_option maxHeartbeats 0
set_option maxRecDepth 100000
noncomputable def ajd:CPT:=aB 141 (aP GK) noC
theorem aej:bC Tryz.prog ajd:=au (aC Nv) aF
theorem YF (n:Int):aD Tryz.prog 212 [.int .i64 n] (.bp (!smQ n)):=by
 refine ay (md:=1) (rf:=[]) mixed av aej Tryz.func212 (by rfl) (by rfl) (by rfl) ?_
 all_goals exact gJ
def YG:PSp:=fun xs K=>match xs with
 | [.int .i64 n]=>VC (True)∧K (.bp (!smQ n))
 |_=>False
theorem agM:POK Tryz.prog 212 YG:=by
 intro xs K h;unfold YG at h;split at h
 ·exact⟨_,h.2,YF _⟩
 ·exact h.elim
noncomputable def aje:CPT:=aB 212 (aP YG) noC
theorem N8:bC Tryz.prog aje:=au (aC agM) aF
theorem Vw (l:List Int) (hw:l.length≤1000000):aD Tryz.prog 244 [.isl (.ints .i64 l) .none,.fn (.func 212) [] []] (.int .i64 (ixF (fun i=>!smQ (l.getD i 0)) l.length)):=by
 obtain⟨g,hg⟩:∃g:Nat→Bool,(fun i=>!smQ (l.getD i 0))=g:=⟨_,rfl⟩;have hgi:∀i,(!smQ (l.getD i 0))=g i:=fun i=>congrFun hg i;rw[hg];refine ay (md:=1) (rf:=[]) mixed av N8 Tryz.func244 (by rfl) (by rfl) (by rfl) ?_
 repeat'((conv=>whnf);first|(intro hq;(try simp only[vw]at hq);try exact ak hq)|apply aI|exact aj|apply nM|apply fM)
 all_goals((try apply vM);(try simp only[vq]at*);try omega)
 conv=>whnf
 refine aU (X:=Nat) (fun i=>i≤l.length∧∀j,j<i→g j=false) (fun i=>[(8,.int .i64 i),(5,.any)]) (fun _=>[]) (fun i=>l.length-i) 0 ⟨aJ,mixed,av,N8,aR⟩ (by rfl) ⟨by omega,fun j hj=>by omega⟩ ?_ ?_
 ·all_goals exact aW
 intro i ⟨hi,hok⟩;by_cases hlt:i<l.length
 ·have e1:=hgi i
  repeat'((conv=>whnf);first|(intro hq;(try simp only[vw]at hq);try exact ak hq)|apply aI|exact aj|apply nM|apply fM)
  all_goals(try simp only[e1,alR]at*)
  all_goals((try apply vM);(try simp only[vq]at*);try omega)
  all_goals first
   |omega
   |rfl
   |(rw[JV hlt (by assumption) hok];exact Sup.of rfl)
   |(refine⟨i+1,[],⟨⟨by omega,fun j hj=>?_⟩,by omega⟩,?_⟩
     ·by_cases e:j=i
      ·subst e;assumption
      ·exact hok j (by omega)
     all_goals exact aW)
 ·have:i=l.length:=by omega
  subst this;rw[JU hok];all_goals exact gJ
def YH (l:List Int):Bool:=(ajO l.length).any fun i=>!smQ (l.getD i 0)
theorem Vx (l:List Int) (hw:l.length≤1000000):aD Tryz.prog 211 [.isl (.ints .i64 l) .none,.fn (.func 212) [] []] (.bp (YH l)):=by
 have hc:=aY (Vw l hw) aF;unfold YH;rw[←Vd];refine ay (md:=1) (rf:=[]) mixed av hc Tryz.func211 (by rfl) (by rfl) (by rfl) ?_
 all_goals exact qG
def DJ (l:List Int):Int:=if YH l=true then 3 else 0
theorem Vy (l:List Int) (hw:l.length≤1000000):aD Tryz.prog 210 [.isl (.ints .i64 l) .none] (.int .i64 (DJ l)):=by
 have hc:=aY (Vx l hw) (au (aC iT) aF);unfold DJ;refine ay (md:=1) (rf:=[]) mixed av hc Tryz.func210 (by rfl) (by rfl) (by rfl) ?_
 all_goals exact qG
def Rp:PSp:=fun xs K=>match xs with
 | [.isl (.ints .i64 l) .none]=>VC (l.length≤1000000)∧K (.int .i64 (DJ l))
 |_=>False
theorem aek:POK Tryz.prog 210 Rp:=by
 intro xs K h;unfold Rp at h;split at h
 ·exact⟨_,h.2,Vy _ h.1.get⟩
 ·exact h.elim
def tmI (m:Nat) (f:Nat→List Int):PV:=.isl (.gen m fun i=>.isl (.ints .i64 (f i)) .none) .none
def mrI (f:Nat→List Int) (i:Nat):Int:=if 256<(f i).length then 5 else if(f i).length≠(f 0).length then 2 else DJ (f i)
def BZ (m:Nat) (f:Nat→List Int):Int:=if 256<m then 5 else iK (mrI f) m
structure Rq (m:Nat) (f:Nat→List Int):Prop where
 len:m≤1000000
 row:∀i,i<m→(f i).length≤1000000
noncomputable def ajf:CPT:=aB 210 (aP Rp) (aB 113 (aP pX) (aB 114 (aP jZ) noC))
theorem DK:bC Tryz.prog ajf:=au (aC aek) (au (aC aoa) (au (aC iT) aF))
theorem LC (m:Nat) (f:Nat→List Int) (h:Rq m f):aD Tryz.prog 213 [tmI m f,.fn (.func 210) [] []] (.int .i64 (BZ m f)):=by
 have hm:=h.len;have hrl:=h.row;unfold BZ;by_cases h256:256<m
 ·rw[if_pos h256]
  refine ay (md:=1) (rf:=[]) mixed av DK Tryz.func213 (by rfl) (by rfl) (by rfl) ?_
  all_goals exact pJ
 rw[if_neg h256];refine ay (md:=1) (rf:=[]) mixed av DK Tryz.func213 (by rfl) (by rfl) (by rfl) ?_
 repeat'((conv=>whnf);first|(intro hq;(try simp only[vw]at hq);try exact ak hq)|apply aI|exact aj|apply nM|apply fM)
 all_goals((try apply vM);(try simp only[vq]at*);try omega)
 conv=>whnf
 refine aU (X:=Nat) (fun i=>i≤m∧∀j,j<i→mrI f j=0) (fun i=>[(14,.int .i64 i),(6,.any),(7,.any),(8,.any)]) (fun _=>[]) (fun i=>m-i) 0 ⟨aJ,mixed,av,DK,aR⟩ (by rfl) ⟨by omega,fun j hj=>by omega⟩ ?_ ?_
 ·all_goals exact aW
 intro i ⟨hi,hok⟩;by_cases hlt:i<m
 ·have e1:mrI f i=if 256<(f i).length then 5 else if(f i).length≠(f 0).length then 2 else DJ (f i):=rfl
  have e3:=hrl i hlt;have e4:=hrl 0 (by omega)
  have fin:mrI f i≠0→iK (mrI f) m=mrI f i:=fun a1=>kM hlt a1 hok;have nxt:mrI f i=0→∀j,j<i+1→mrI f j=0:=fun a j hj=>by
   by_cases e:j=i
   ·subst e;exact a
   ·exact hok j (by omega)
  generalize mrI f i=E at*
  repeat'((conv=>whnf);first|(intro hq;(try simp only[vw]at hq);try exact ak hq)|apply aI|exact aj|apply nM|apply fM)
  all_goals((try apply vM);(try simp only[vq]at*);try omega)
  all_goals(try simp only[wT]at*)
  all_goals first
   |(generalize hA:(if(if 256<((f i).length:Int)then(5:Int)else 0)=0 then if((f i).length:Int)≠((f (amj 0)).length:Int)then(2:Int)else 0 else if 256<((f i).length:Int)then(5:Int)else 0)=A at*
     have hE:E=A:=by
      rw[e1,←hA,show amj 0=0 from rfl];rw[←hA,show amj 0=0 from rfl]at hq
      (repeat' split)<;>first|rfl|omega|(exfalso;split at hq<;>omega)
     rw[fin (by rw[hE];exact hq),hE];exact Sup.of rfl)
   |(have hE:E=DJ (f i):=by
      rw[e1];rw[show amj 0=0 from rfl]at hq
      (repeat' split)<;>first|rfl|omega|(exfalso;(repeat' split at hq)<;>omega)
     first
      |(rw[fin (by rw[hE];assumption),hE];exact Sup.of rfl)
      |(refine⟨i+1,[],⟨⟨by omega,nxt (by rw[hE];exact Decidable.not_not.1 (by assumption))⟩,by omega⟩,?_⟩
        all_goals exact aW))
 ·have:i=m:=by omega
  subst this;rw[q9 hok];all_goals exact gJ
end Go.Eng.YtmkagljofpddpaaGreatDoor
namespace Go.Eng.YtmkagljofpddpaaGreatDoor
open Go.Proofs Go.Eng.ElG
set_option linter.unusedSimpArgs false
set_option linter.unusedVariables false
set_option maxHeartbeats 0
set_option maxRecDepth 100000
def aaS (p:Int):Int:=if p<2∨999999999<p∨uz p=false then 15 else 0
def YI (m:Nat) (f:Nat→List Int) (p:Int):Int:=bV [BZ m f,aaS p]
theorem Fx (t:Nat) (g:Nat→Int):cO t g++[g t]=cO (t+1) g:=by
 unfold cO;rw[am4,amZ];rfl
noncomputable def ajg (m:Nat) (f:Nat→List Int):CPT:=iw 213 [tmI m f,.fn (.func 210) [] []] (.int .i64 (BZ m f)) (aB 113 (aP pX) (aB 114 (aP jZ) (aB 144 (aP prP) (aB 214 (aP (zH (fun p a=>PrI p∧ -999999999≤a∧a≤999999999) fun p a=>.int .i64 (a % p))) noC))))
theorem ael {m:Nat} {f:Nat→List Int} (h:Rq m f):bC Tryz.prog (ajg m f):=aY (LC m f h) (au (aC aoa) (au (aC iT) (au (aC ahM) (au (aC (sj fun p a h=>zG p a h.1 h.2)) aF))))
def rsM (p:Int) (f:Nat→List Int):bL Int:=fun i j=>(f i).getD j 0 % p
theorem YJ (m w:Nat) (f:Nat→List Int) (p:Int) (hm:1≤m∧m≤256) (hw:1≤w∧w≤256) (h:Rq m f) (hE:YI m f p=0) (hp:PrI p) (hl:∀i,i<m→(f i).length=w) (hs:∀i,i<m→∀j,j<w→ -999999999≤(f i).getD j 0∧(f i).getD j 0≤999999999):
 dI Tryz.prog 149 [tmI m f,.int .i64 p] [] [.rsl 0 0 m,.agg [.int .i64 p],.int .i64 0] [.qmat m (fun _=>2) fun i=>.ints .i64 (cO w (rsM p f i))]:=by
 have hc:=ael h;have p1:=hp.lo;have p2:=hp.hi;have e2:bV [BZ m f,if(!uz p)=true then 15 else 0]=0:=by
  refine Eq.trans ?_ hE;unfold YI aaS;cases uz p<;>simp[show¬p<2 by omega,show¬999999999<p by omega]
 refine dW (md:=1) (rf:=[56,4060,61]) mixed av hc 0 [(5,0)] Tryz.func149 (by rfl) (by rfl) (by rfl) ?_
 repeat'((conv=>whnf);first|(intro hq;(try simp only[vw]at hq);try exact ak hq)|apply aI|exact aj|apply nM|apply fM)
 all_goals((try apply vM);(try simp only[vq]at*);try omega)
 all_goals(try contradiction)
 conv=>whnf
 refine aU (X:=Nat) (fun i=>i≤m) (fun i=>[(41,.int .i64 i),(12,.any),(13,.any),(15,.any),(10,BU 5 i)]) (fun i=>Rm 5 i fun i=>.ints .i64 (cO w (rsM p f i))) (fun i=>m-i) 0 ⟨aJ,mixed,av,hc,aR⟩ (by rfl) (by omega) ?_ ?_
 ·all_goals exact aW
 intro i hi;cases i with
 |zero=>
  have hlen:=hl (0) (by omega)
  have hsm:=hs (0) (by omega)
  repeat'((conv=>whnf);first|(intro hq;(try simp only[vw]at hq);try exact ak hq)|apply aI|exact aj|apply nM|apply fM)
  all_goals((try apply vM);(try simp only[vq]at*);try omega)
  conv=>whnf
  refine aU (X:=Nat) (fun t=>t≤w) (fun t=>[(47,.int .i64 t),(15,.any),(13,BU 6 t)]) (fun t=>match t with|0=>[]|s+1=>[(6,.cells (.ints .i64 (cO (s+1) (rsM p f (0)))) false)]) (fun t=>w-t) 0 ⟨aJ,mixed,av,hc,aR⟩ (by rfl) (by omega) ?_ ?_
  ·all_goals exact EJ
  intro t ht;cases t with
  |zero=>
   have hst:=hsm 0 (by omega)
   all_goals exact EK
  |succ t=>
   by_cases htw:t+1<w
   ·have hst:=hsm (t+1) htw
    have hml:amM (t+1-0) (amN 0 (cO (t+1) (rsM p f (0))))++[(f (0)).getD (t+1) 0 % p]=cO (t+1+1) (rsM p f (0)):=by
     rw[am7,anU,am6 (by rw[fC];omega)]
     exact Fx (t+1) (rsM p f (0))
    all_goals exact EL
   ·have:w=t+1:=by omega
    subst this
    repeat'((conv=>whnf);first|(intro hq;(try simp only[vw]at hq);try exact ak hq)|apply aI|exact aj|apply nM|apply fM)
    all_goals((try apply vM);(try simp only[vq]at*);try omega)
    all_goals first
     |exact fC _ _
     |exact .inr trivial
     |(refine⟨1,[(26,5)],⟨by omega,by omega⟩,?_⟩
       repeat'((conv=>whnf);first|intro _|apply aI|exact aj|apply nM|apply fM)
       all_goals((try apply vM);(try simp only[vq]at*);try omega)
       all_goals first
        |exact⟨fun _ _=>trivial,fun k hk _=>by rw[show k=0 by omega]⟩
        |exact⟨fun k _=>by split<;>rfl,fun k hk _=>by
         split
         ·rfl
         ·rw[show k=0 by omega]⟩
        )
     |(show _≤_;omega)
 |succ i=>
  by_cases hlt:i+1<m
  ·skip
   have hlen:=hl (i+1) (by omega)
   have hsm:=hs (i+1) (by omega)
   repeat'((conv=>whnf);first|(intro hq;(try simp only[vw]at hq);try exact ak hq)|apply aI|exact aj|apply nM|apply fM)
   all_goals((try apply vM);(try simp only[vq]at*);try omega)
   conv=>whnf
   refine aU (X:=Nat) (fun t=>t≤w) (fun t=>[(47,.int .i64 t),(15,.any),(13,BU 6 t)]) (fun t=>match t with|0=>[]|s+1=>[(6,.cells (.ints .i64 (cO (s+1) (rsM p f (i+1)))) false)]) (fun t=>w-t) 0 ⟨aJ,mixed,av,hc,aR⟩ (by rfl) (by omega) ?_ ?_
   ·all_goals exact EJ
   intro t ht;cases t with
   |zero=>
    have hst:=hsm 0 (by omega)
    all_goals exact EK
   |succ t=>
    by_cases htw:t+1<w
    ·have hst:=hsm (t+1) htw
     have hml:amM (t+1-0) (amN 0 (cO (t+1) (rsM p f (i+1))))++[(f (i+1)).getD (t+1) 0 % p]=cO (t+1+1) (rsM p f (i+1)):=by
      rw[am7,anU,am6 (by rw[fC];omega)]
      exact Fx (t+1) (rsM p f (i+1))
     all_goals exact EL
    ·have:w=t+1:=by omega
     subst this
     repeat'((conv=>whnf);first|(intro hq;(try simp only[vw]at hq);try exact ak hq)|apply aI|exact aj|apply nM|apply fM)
     all_goals((try apply vM);(try simp only[vq]at*);try omega)
     all_goals first
      |exact fC _ _
      |exact .inr trivial
      |(refine⟨i+2,[(26,5)],⟨by omega,by omega⟩,?_⟩
        repeat'((conv=>whnf);first|intro _|apply aI|exact aj|apply nM|apply fM)
        all_goals((try apply vM);(try simp only[vq]at*);try omega)
        all_goals first
         |exact⟨fun _ _=>trivial,fun k hk _=>by rw[show k=0 by omega]⟩
         |exact⟨fun k _=>by split<;>rfl,fun k hk _=>by
          split
          ·rfl
          ·rw[show k=i+1 by omega]⟩
         )
      |(show _≤_;omega)
  ·have:m=i+1:=by omega
   subst this
   repeat'((conv=>whnf);first|(intro hq;(try simp only[vw]at hq);try exact ak hq)|apply aI|exact aj|apply nM|apply fM)
   all_goals((try apply vM);(try simp only[vq]at*);try omega)
   all_goals first|exact⟨fun _ _=>trivial,fun _ _ _=>trivial⟩|exact Sup.of rfl
abbrev qmI (m w:Nat) (D:bL Int):AO:=.qmat m (fun _=>2) fun i=>.ints .i64 (cO w (D i))
theorem YK (m w:Nat) (D:bL Int) (hm:1≤m∧m≤256):dI Tryz.prog 151 [.rsl 0 0 m] [qmI m w D] [.int .i64 (w:Int)] [qmI m w D]:=by
 refine dW (md:=1) (rf:=[]) mixed av aF 1 [] Tryz.func151 (by rfl) (by rfl) (by rfl) ?_
 repeat'((conv=>whnf);first|(intro hq;(try simp only[vw]at hq);try exact ak hq)|apply aI|exact aj|apply nM|apply fM)
 all_goals((try apply vM);(try simp only[vq]at*);try omega)
 all_goals first|exact .inr trivial|exact⟨fun _ _=>trivial,fun _ _ _=>trivial⟩|(simp only[fC])|(show 0*_<m;rw[akD];omega)
theorem aem {p:Int} (hp:PrI p) (f:Nat→List Int) (i j:Nat):InP p (rsM p f i j):=ng hp _
structure YL (m w:Nat) (f:Nat→List Int) (p:Int):Prop where
 hm:1≤m∧m≤256
 hw:1≤w∧w≤256
 ok:Rq m f
 e0:YI m f p=0
 hp:PrI p
 hl:∀i,i<m→(f i).length=w
 hs:∀i,i<m→∀j,j<w→ -999999999≤(f i).getD j 0∧(f i).getD j 0≤999999999
abbrev elM (m w:Nat) (f:Nat→List Int) (p:Int):ES Int:=aN (Fp p) w m (rsM p f) w
noncomputable def ajh (m w:Nat) (f:Nat→List Int) (p:Int) (A B:LSp):CPT:=aB 149 (dR [] (kU [tmI m f,.int .i64 p] [] [.rsl 0 0 m,.agg [.int .i64 p],.int .i64 0] [qmI m w (rsM p f)])) (aB 151 (dR [] (kU [.rsl 0 0 m] [qmI m w (rsM p f)] [.int .i64 (w:Int)] [qmI m w (rsM p f)])) (aB 150 (dR [] A) (aB 152 (dR [] B) noC)))
theorem aen {m w:Nat} {f:Nat→List Int} {p:Int} (h:YL m w f p) {A B:LSp} (hA:LOK Tryz.prog 150 A) (hB:LOK Tryz.prog 152 B):bC Tryz.prog (ajh m w f p A B):=
 au (bT [] (dA (YJ m w f p h.hm h.hw h.ok h.e0 h.hp h.hl h.hs))) (au (bT [] (dA (YK m w _ h.hm))) (au (bT [] hA) (au (bT [] hB) aF)))
theorem Kg {g:FuncId}:LOK Tryz.prog g fun _ _ _=>False:=fun _ _ _ h=>h.elim
theorem YM (m w:Nat) (f:Nat→List Int) (p:Int) (h:YL m w f p) {k:Nat} (hk:(bK (elM m w f p).piv w).length=k+1):
 dI Tryz.prog 57 [tmI m f,.int .i64 p] [] [.rsl 0 0 (gP (Fp p) 0 1 w m (rsM p f)).piv.length,.int .i64 0] [.pmat (k+1) (fnI w (gP (Fp p) 0 1 w m (rsM p f)).M)]:=by
 have hB:=pG (pre:=[]) (post:=[]) (f:=fun _=>2) (c:=fun i=>.ints .i64 (cO w (rsM p f i))) (fnI w (rsM p f)) (fun i hi=>⟨rfl,gK.rfl' _⟩) (Vr h.hp h.hm h.hw (fun r _ j _=>aem h.hp f r j) hk);have hc:=aen h Kg (dA hB);generalize gP (Fp p) 0 1 w m (rsM p f)=S2 at*
 refine dW (md:=1) (rf:=[]) mixed av hc 0 [(9,0)] Tryz.func57 (by rfl) (by rfl) (by rfl) ?_
 repeat'((conv=>whnf);first|(intro hq;(try simp only[vw]at hq);try exact ak hq)|apply aI|exact aj|apply nM|apply fM)
 all_goals((try apply vM);(try simp only[vq]at*);try omega)
 all_goals first|rfl|exact fun _ _=>trivial
end Go.Eng.YtmkagljofpddpaaGreatDoor
namespace Go.Eng.YtmkagljofpddpaaGreatDoor
open Go.Proofs Go.Eng.Dig Go.Eng.Dec Go.Eng.Pm Go.Eng.ElG
set_option linter.unusedSimpArgs false
set_option linter.unusedVariables false
set_option maxHeartbeats 0
set_option maxRecDepth 100000
abbrev cM (q:Nat→Nat→Rat):bL Fr:=fun i j=>can (q i j)
theorem Kh (m w:Nat) (q:Nat→Nat→Rat):fqM m w q=qmF m w (cM q):=by
 unfold fqM;simp only[Vg];rfl
structure jB (m w b:Nat) (q:Nat→Nat→Rat):Prop where
 hm:1≤m∧m≤256
 hw:w≤256
 hz:sW m (qmL w q)=0
 hs:∀i,i<m→∀j,j<w→(txQ (q i j)).size≤1000000000
 hL:∀i,i<m→∀j,j<w→RL (q i j)≤b
 hB:Bd b m≤400000000
theorem jB.gl {m w b:Nat} {q:Nat→Nat→Rat} (h:jB m w b q):∀r,r<m→∀j,j<w→GL b 0 (cM q r j):=fun r hr j hj=>⟨dY _,by rw[lZ];exact h.hL r hr j hj⟩
abbrev elQ (m w:Nat) (q:Nat→Nat→Rat):ES Rat:=aN Fq w m q w
theorem jB.hom {m w b:Nat} {q:Nat→Nat→Rat} (h:jB m w b q):
 (∀r,r<m→∀j,j<w→GL b m ((aN Ff w m (cM q) w).M r j)∧((aN Ff w m (cM q) w).M r j).val=(elQ m w q).M r j)∧(elQ m w q).piv=(aN Ff w m (cM q) w).piv∧(elQ m w q).odd=(aN Ff w m (cM q) w).odd∧(elQ m w q).heads=(aN Ff w m (cM q) w).heads.map Fr.val:=by
 obtain⟨h1,h2,h3,h4,_⟩:=iZ (yt b) (M:=cM q) (M':=q) (fun r hr j hj=>⟨h.gl r hr j hj,dU _⟩) w (ajE w);refine⟨fun r hr j hj=>⟨⟨(h1 r hr j hj).1.ok,ajI (h1 r hr j hj).1.le (lG b (fE Ff w m (cM q) w).1)⟩,(h1 r hr j hj).2⟩,h2,h3,h4⟩
theorem GL.ft {b k:Nat} {x:Fr} (h:GL b k x) (hb:Bd b k≤400000000):FT x:=⟨h.ok,ajI h.le (by omega)⟩
noncomputable def aji (m w:Nat) (q:Nat→Nat→Rat) (A B:LSp) (C:PSp):CPT:=aB 129 (dR [] (kU [tmV m (qmL w q)] [] [.rsl 0 0 m,.int .i64 0] [qmF m w (cM q)])) (aB 157 (dR [] (kU [.rsl 0 0 m] [qmF m w (cM q)] [.int .i64 (w:Int)] [qmF m w (cM q)])) (aB 131 (dR [] A) (aB 159 (dR [] B) (aB 158 (IQ C) noC))))
theorem N9 {m w b:Nat} {q:Nat→Nat→Rat} (h:jB m w b q) {A B:LSp} {C:PSp} (hA:LOK Tryz.prog 131 A) (hB:LOK Tryz.prog 159 B) (hC:POK Tryz.prog 158 C):bC Tryz.prog (aji m w q A B C):=
 au (bT [] (dA (by rw[←Kh];exact wW m w q h.hm h.hw h.hs h.hz))) (au (bT [] (dA (zL m w _ h.hm))) (au (bT [] hA) (au (bT [] hB) (au (SV hC) aF))))
theorem YN {S:ES Fr} {Sq:ES Rat} (hp:Sq.piv=S.piv) {m w:Nat} (hM:∀r,r<m→∀j,j<w→(S.M r j).OK∧(S.M r j).val=Sq.M r j) {c:Nat} (hc:c<w):∀t,t≤m→∀j,(fH Ff zFr oFr S c t j).val=fH Fq 0 1 Sq c t j:=by
 have hz:zFr.val=0:=by rw[yH,dU]
 have ho:oFr.val=1:=by rw[sw,dU]
 intro t;induction t with
 |zero=>
  intro _ j;show(if j=c then oFr else zFr).val=if j=c then(1:Rat)else 0;split
  ·exact ho
  ·exact hz
 |succ t ih=>
  intro ht j;show(if j=S.piv.getD t 0 then iA zFr (S.M t c)else fH Ff zFr oFr S c t j).val=if j=Sq.piv.getD t 0 then 0-Sq.M t c else fH Fq 0 1 Sq c t j;rw[hp];obtain⟨h1,h2⟩:=hM t (by omega) c hc
  split
  ·rw[zw wY h1,hz,h2]
  ·exact ih (by omega) j
abbrev keQ (m w:Nat) (q:Nat→Nat→Rat):ES Rat:=gP Fq 0 1 w m q
def agN (m w b:Nat):Prop:=Bd (kB b m) w≤400000000
theorem YO {m w b:Nat} {q:Nat→Nat→Rat} (h:jB m w b q) (hw1:1≤w) (hK:agN m w b):aD Tryz.prog 70 [tmV m (qmL w q)] (mtR (keQ m w q).piv.length w (keQ m w q).M):=by
 obtain⟨h1,h2,h3,h4⟩:=h.hom;have hlen:=fE Ff w m (cM q) w;have hwB:=h.hw;have hBm:Bd b m≤1000000000:=ajI h.hB (by decide)
 have hfl:=jR (aN Ff w m (cM q) w).piv w;cases hk:(bK (aN Ff w m (cM q) w).piv w).length with
 |zero=>
  have hR:mtR (keQ m w q).piv.length w (keQ m w q).M=.tup [tmV 0 (qmL w (keQ m w q).M),.int .i64 0]:=by
   have:(keQ m w q).piv.length=0:=by
    unfold keQ gP;rw[h2,hk];exact Nat.le_zero.1 (fE _ _ _ _ _).1
   rw[this];rfl
  rw[hR];have hB:=pG (pre:=[]) (post:=[]) (f:=fun _=>2) (c:=fun i=>.recs 4 (rfL w (cM q i))) (fnM w (cM q)) (fun i hi=>⟨rfl,kV _ _⟩) (Ro h.hm ⟨hw1,hwB⟩ h.gl hBm hk);have hc:=N9 h Kg (dA hB) (yD Vu);refine ay (md:=1) (rf:=[]) mixed av hc Tryz.func70 (by rfl) (by rfl) (by rfl) ?_
  repeat'((conv=>whnf);first|(intro hq;(try simp only[vw]at hq);try exact ak hq)|apply aI|exact aj|apply nM|apply fM)
  all_goals((try apply vM);(try simp only[vq]at*);try omega)
  all_goals first|rfl|exact zA rfl _|exact Sup.of rfl
 |succ k=>
  have hkB:Bd (kB b m) (k+1)≤400000000:=ajI (lG _ (by omega)) hK
  have hB:=pG (pre:=[]) (post:=[]) (f:=fun _=>2) (c:=fun i=>.recs 4 (rfL w (cM q i))) (fnM w (cM q)) (fun i hi=>⟨rfl,kV _ _⟩) (Vt h.hm ⟨hw1,hwB⟩ h.gl hBm hk (ajI hkB (by decide)))
  have hIn:∀r,r<m→∀j,j<w→((aN Ff w m (cM q) w).M r j).OK∧((aN Ff w m (cM q) w).M r j).val=(elQ m w q).M r j:=fun r hr j hj=>⟨(h1 r hr j hj).1.ok,(h1 r hr j hj).2⟩;have hfm:∀r,r<k+1→(bK (aN Ff w m (cM q) w).piv w).getD r 0<w:=fun r hr=>by
   have:(bK (aN Ff w m (cM q) w).piv w).getD r 0∈bK (aN Ff w m (cM q) w).piv w:=by
    rw[ajQ,ajV (by omega)];exact anO _
   exact(qQ.1 this).1
  have hKin:∀r,r<k+1→∀j,j<w→GL (kB b m) 0 (kH Ff zFr oFr (aN Ff w m (cM q) w) w r j)∧(kH Ff zFr oFr (aN Ff w m (cM q) w) w r j).val=kH Fq 0 1 (elQ m w q) w r j:=fun r hr j hj=>by
   refine⟨NZ (fun r hr j hj=>(h1 r hr j hj).1) (hfm r hr) _ (by omega) j,?_⟩
   unfold kH;rw[h2];exact YN h2 hIn (hfm r hr) _ (by omega) j
  obtain⟨g1,g2,g3,g4,_⟩:=iZ (yt (kB b m)) hKin w (ajE w);have hE:aN Ff w (k+1) (kH Ff zFr oFr (aN Ff w m (cM q) w) w) w=gP Ff zFr oFr w m (cM q):=by unfold gP;rw[hk]
  have hEq:aN Fq w (k+1) (kH Fq 0 1 (elQ m w q) w) w=keQ m w q:=by unfold keQ gP;rw[h2,hk]
  have hl2:=fE Ff w (k+1) (kH Ff zFr oFr (aN Ff w m (cM q) w) w) w;rw[hE,hEq]at g1 g2;rw[hE]at hl2;have hM:=aei (gP Ff zFr oFr w m (cM q)).piv.length w (gP Ff zFr oFr w m (cM q)).M (keQ m w q).M (by omega) (by omega) (fun i hi j hj=>(GL.mk (g1 i (by omega) j hj).1.ok (ajI (g1 i (by omega) j hj).1.le (lG _ hl2.1)):GL (kB b m) (k+1) _).ft hkB) (fun i hi j hj=>(g1 i (by omega) j hj).2)
  have hc:=N9 h Kg (dA hB) (yD hM);have hle:=hl2.1;rw[g2];generalize(keQ m w q).M=Q at*
  clear h1 h2 h3 h4 g1 g2 g3 g4 hKin hIn hE hEq hM hB;generalize gP Ff zFr oFr w m (cM q)=S2 at*
  refine ay (md:=1) (rf:=[]) mixed av hc Tryz.func70 (by rfl) (by rfl) (by rfl) ?_
  repeat'((conv=>whnf);first|(intro hq;(try simp only[vw]at hq);try exact ak hq)|apply aI|exact aj|apply nM|apply fM)
  all_goals((try apply vM);(try simp only[vq]at*);try omega)
  all_goals first|rfl|omega|exact Sup.of rfl
theorem Ca (w:Nat) (q:Nat→Rat) (hw:w≤1000000) (hq:∀i,i<w→(txQ (q i)).size≤1000000000):aD Tryz.prog 172 [stV (qsL w q)] (frL w fun i=>can (q i)):=
 iI (FZ (Fu w q hw hq) (by simp[fqL]) (J2 _ _)) (Yj (kV w fun i=>can (q i)) _)
def pdF (f g:Nat→Fr):Nat→Fr
 |0=>zFr
 |t+1=>kG (pdF f g t) (can ((f t).val*(g t).val))
def pdV (f g:Nat→Rat):Nat→Rat
 |0=>0
 |t+1=>pdV f g t+f t*g t
theorem zM:zFr=can 0:=rfl
theorem aaT:zFr.L=RL 0:=by rw[zM,lZ]
theorem DL:RL 0=1:=by decide+kernel
theorem Ki {n:Nat} {f g:Nat→Fr}:∀t,t≤n→(pdF f g t).OK∧(pdF f g t).val=pdV (fun i=>(f i).val) (fun i=>(g i).val) t:=by
 intro t;induction t with
 |zero=>exact fun _=>⟨by show zFr.OK;rw[zM];exact dY _,by show zFr.val=0;rw[zM,dU]⟩
 |succ t ih=>
  intro ht;obtain⟨h1,h2⟩:=ih (by omega)
  have h3:=dY ((f t).val*(g t).val);refine⟨Nj h1 h3,?_⟩;show(kG _ _).val=_+_;rw[zu h1 h3,dU,h2]
theorem aaU {n B:Nat} {f g:Nat→Fr} (h:∀i,i<n→(f i).L+(g i).L+1≤B):∀t,t≤n→(pdF f g t).L≤1+t*B:=by
 intro t;induction t with
 |zero=>intro _;show zFr.L≤_;rw[aaT,DL];omega
 |succ t ih=>
  intro ht;obtain⟨h1,h2⟩:=Ki (n:=n) (f:=f) (g:=g) t (by omega)
  have h3:=dY ((f t).val*(g t).val);have h4:=ih (by omega)
  have h5:=qP (f t) (g t);have h6:=h t (by omega)
  show(kG _ _).L≤_;unfold Fr.L;rw[zu h1 h3];have h7:=Um (pdF f g t).val (can ((f t).val*(g t).val)).val;unfold Fr.L at h4 h5 h6;rw[ajD];omega
noncomputable def ajj:CPT:=aB 132 (aV ffP) (aB 133 (aV BI) (aB 181 (aV QI) noC))
theorem Oa:bC Tryz.prog ajj:=au (aG BH) (au (aG yj) (au (aG Nq) aF))
theorem Vz (n:Nat) (f g:Nat→Fr) (hn:n≤1000000) {B:Nat} (hf:∀i,i<n→FB (f i)∧FB (g i)∧(f i).L+(g i).L+1≤B) (hB:1+n*B≤10000000000):aD Tryz.prog 173 [frL n f,frL n g] (frV (pdF f g n)):=by
 have hok:=fun t ht=>(Ki (n:=n) (f:=f) (g:=g) t ht).1;have hL:=aaU (n:=n) (f:=f) (g:=g) fun i hi=>(hf i hi).2.2;have hFB:∀t,t≤n→FB (pdF f g t):=fun t ht=>⟨hok t ht,by
  have h1:=hL t ht;have h2:t*B≤n*B:=akh _ ht;omega⟩
 have hm:∀i,i<n→FB (can ((f i).val*(g i).val)):=fun i hi=>⟨dY _,by
  have h1:=(hf i hi).2.2;have h2:=qP (f i) (g i);have h3:1*B≤n*B:=akh _ (by omega)
  omega⟩
 refine ay (md:=1) (rf:=[]) mixed av Oa Tryz.func173 (by rfl) (by rfl) (by rfl) ?_
 repeat'((conv=>whnf);first|(intro hq;(try simp only[vw]at hq);try exact ak hq)|apply aI|exact aj|apply nM|apply fM)
 all_goals((try apply vM);(try simp only[vq]at*);try omega)
 conv=>whnf
 refine aU (X:=Nat) (fun i=>i≤n) (fun i=>[(10,.int .i64 i),(6,.any)]) (fun i=>[(5,.cells (.pv (frC (pdF f g i))) false)]) (fun i=>n-i) 0 ⟨aJ,mixed,av,Oa,aR⟩ (by rfl) (by omega) ?_ ?_
 ·all_goals exact jq
 intro i hi;by_cases hlt:i<n
 ·have e1:=hf i hlt
  have e2:=hFB i hi;have e3:=hm i hlt;have e4:pdF f g (i+1)=kG (pdF f g i) (can ((f i).val*(g i).val)):=rfl;generalize pdF f g i=a at*
  repeat'((conv=>whnf);first|(intro hq;(try simp only[vw]at hq);try exact ak hq)|apply aI|exact aj|apply nM|apply fM)
  all_goals((try apply vM);(try simp only[vq]at*);try omega)
  all_goals(try simp only[cK])
  all_goals first
   |omega
   |exact⟨e1.1,e1.2.1⟩
   |exact⟨e2,e3⟩
   |rfl
   |(refine⟨i+1,[],⟨by omega,by omega⟩,?_⟩
     rw[e4];all_goals exact jq)
 ·have:i=n:=by omega
  subst this;all_goals exact pJ
def auM (w:Nat) (D:bL Fr) (v:Nat→Fr):bL Fr:=fun i j=>if j=w then v i else D i j
def auQ (w:Nat) (q:Nat→Nat→Rat) (v:Nat→Rat):Nat→Nat→Rat:=fun i j=>if j=w then v i else q i j
theorem aeo (w:Nat) (f:Nat→Fr) (x:Fr):rfL w f++[frC x]=rfL (w+1) (fun j=>if j=w then x else f j):=by
 unfold rfL;rw[am4,amZ];refine congr (congrArg _ (alN fun j hj=>?_)) ?_
 ·have:=aly.1 hj
  show frC (f j)=frC (if j=w then x else f j);rw[if_neg (by omega)]
 ·simp
structure l6 (m b:Nat) (v:Nat→Rat):Prop where
 hz:zC (qsL m v)=0
 hs:∀i,i<m→(txQ (v i)).size≤1000000000
 hL:∀i,i<m→RL (v i)≤b
theorem l6.rw {m b:Nat} {v:Nat→Rat} (hm:m≤256) (h:l6 m b v):Ra (qsL m v):=⟨by rw[gH];omega,fun i hi=>by rw[gH]at hi;rw[rY _ hi];exact h.hs i hi⟩
noncomputable def agO (m w:Nat) (q:Nat→Nat→Rat) (v:Nat→Rat):CPT:=aB 129 (dR [] (kU [tmV m (qmL w q)] [] [.rsl 0 0 m,.int .i64 0] [qmF m w (cM q)])) (aB 113 (aP pX) (aB 114 (aP jZ) (iw 161 [stV (qsL m v)] (.int .i64 0) (iw 172 [stV (qsL m v)] (frL m fun i=>can (v i)) noC))))
theorem aep {m w b:Nat} {q:Nat→Nat→Rat} {v:Nat→Rat} (h:jB m w b q) (hv:l6 m b v):bC Tryz.prog (agO m w q v):=
 au (bT [] (dA (by rw[←Kh];exact wW m w q h.hm h.hw h.hs h.hz))) (au (aC aoa) (au (aC iT) (aY (by have:=wV _ (hv.rw h.hm.2);rw[hv.hz]at this;exact this) (aY (Ca m v (by have:=h.hm;omega) hv.hs) aF))))
def auT (w:Nat) (D:bL Fr) (v:Nat→Fr) (t:Nat) (i:Nat):CL:=.recs 4 (if i<t then rfL (w+1) (auM w D v i)else rfL w (D i))
theorem Kj {m w b:Nat} {q:Nat→Nat→Rat} {v:Nat→Rat} (h:jB m w b q) (hv:l6 m b v):
 dI Tryz.prog 169 [tmV m (qmL w q),stV (qsL m v)] [] [.rsl 0 0 m,.int .i64 0] [qmF m (w+1) (auM w (cM q) fun i=>can (v i))]:=by
 have hc:=aep h hv;have hmB:=h.hm;have hwB:=h.hw;have hlen:=gH m v;unfold agO at hc;generalize qsL m v=l at*
 obtain⟨V,hV⟩:∃V:Nat→Fr,(fun i=>can (v i))=V:=⟨_,rfl⟩;have hcV:(frL m fun i=>can (v i))=frL m V:=by rw[←hV]
 rw[hV];rw[hcV]at hc;generalize cM q=D at*
 refine dW (md:=1) (rf:=[5046]) mixed av hc 0 [(0,0)] Tryz.func169 (by rfl) (by rfl) (by rfl) ?_
 repeat'((conv=>whnf);first|(intro hq;(try simp only[vw]at hq);try exact ak hq)|apply aI|exact aj|apply nM|apply fM)
 all_goals((try apply vM);(try simp only[vq]at*);try omega)
 all_goals first|rfl|omega|exact Sup.of rfl|(exfalso;simp_all[bV];done)|(exfalso;simp_all[bV];omega)|skip
 conv=>whnf
 refine aU (X:=Nat) (fun i=>i≤m) (fun i=>[(36,.int .i64 i),(9,.any),(10,.any)]) (fun i=>[(0,.qmat m (fun _=>2) (auT w D V i))]) (fun i=>m-i) 0 ⟨aJ,mixed,av,hc,aR⟩ (by rfl) (by omega) ?_ ?_
 ·repeat'((conv=>whnf);first|intro _|apply aI|exact aj|apply nM|apply fM)
  all_goals((try apply vM);(try simp only[vq]at*);try omega)
  all_goals first|exact⟨fun _ _=>trivial,fun _ _ _=>rfl⟩|rfl
 intro i hi;by_cases hlt:i<m
 ·have e1:auT w D V i i=.recs 4 (rfL w (D i)):=by unfold auT;rw[if_neg (by omega)]
  have e2:rfL w (D i)++[frC (V i)]=rfL (w+1) (auM w D V i):=by rw[aeo];rfl
  have e3:∀k,k<m→k≠i→auT w D V (i+1) k=auT w D V i k:=fun k hk hne=>by
   unfold auT;by_cases h1:k<i
   ·rw[if_pos h1,if_pos (by omega)]
   ·rw[if_neg h1,if_neg (by omega)]
  have e4:auT w D V (i+1) i=.recs 4 (rfL (w+1) (auM w D V i)):=by unfold auT;rw[if_pos (by omega)]
  have e5:(rfL w (D i)).length=w:=iD _ _;have e6:chunks qC.size 1 (frC (V i))=[frC (V i)]:=rfl
  repeat'((conv=>whnf);first|(intro hq;(try simp only[vw]at hq);try exact ak hq)|apply aI|exact aj|apply nM|apply fM)
  all_goals((try apply vM);(try simp only[vq]at*);try omega)
  all_goals(try simp only[eB,aj9,anQ,if_false,e5,e6,akY,ajA,ajw])
  all_goals first
   |omega
   |rfl
   |exact .inr trivial
   |(simp only[eB,aj9]at hq;unfold bB at hq;rw[if_pos rfl]at hq;omega)
   |(refine⟨i+1,[],⟨by omega,by omega⟩,?_⟩
     repeat'((conv=>whnf);first|intro _|apply aI|exact aj|apply nM|apply fM)
     all_goals((try apply vM);(try simp only[vq]at*);try omega)
     all_goals(try simp only[eB,aj9,anQ,if_false,e6])
     all_goals first
      |exact⟨fun k _=>by unfold bB;(repeat' split)<;>rfl,fun k hk _=>by
       by_cases h1:k=i
       ·subst h1
        rw[e4,←e2];unfold bB;rw[if_pos rfl]
       ·rw[e3 k hk h1]
        unfold bB;rw[if_neg h1]⟩
      |rfl
      )
 ·have:i=m:=by omega
  subst this
  repeat'((conv=>whnf);first|(intro hq;(try simp only[vw]at hq);try exact ak hq)|apply aI|exact aj|apply nM|apply fM)
  all_goals((try apply vM);(try simp only[vq]at*);try omega)
  all_goals first
   |omega
   |exact⟨fun _ _=>trivial,fun k hk _=>by unfold auT;rw[if_pos hk]⟩
def dtF (H:List Fr):Nat→Fr
 |0=>oFr
 |t+1=>can ((dtF H t).val*(H.getD t zFr).val)
def dtV (H:List Rat):Nat→Rat
 |0=>1
 |t+1=>dtV H t*H.getD t 0
theorem agP (H:List Fr):∀t,(dtF H t).OK
 |0=>Vs
 |t+1=>dY _
theorem DN:zFr.val=0:=by rw[yH,dU]
theorem Ob:oFr.val=1:=by rw[sw,dU]
theorem aer (H:List Fr) (t:Nat):(dtF H t).val=dtV (H.map Fr.val) t:=by
 induction t with
 |zero=>exact Ob
 |succ t ih=>
  show(can ((dtF H t).val*(H.getD t zFr).val)).val=dtV (H.map Fr.val) t*(H.map Fr.val).getD t 0;rw[dU,ih];congr 1;rw[ajQ,ajQ,akR];cases H[t]? with
  |none=>exact DN
  |some x=>rfl
theorem ahQ {H:List Fr} {B:Nat} (h:∀x,x∈H→x.L≤B):∀t,t≤H.length→(dtF H t).L≤1+t*B:=by
 intro t;induction t with
 |zero=>intro _;show oFr.L≤1+0*B;have:oFr.L=1:=by rw[sw,lZ];decide+kernel
        omega
 |succ t ih=>
  intro ht;have h1:=ih (by omega)
  have h2:=qP (dtF H t) (H.getD t zFr);have h3:(H.getD t zFr).L≤B:=h _ (by rw[ajQ,ajV (by omega)];exact anO _)
  show(can _).L≤_;rw[ajD];omega
theorem Kk {m w:Nat} {q:Nat→Nat→Rat} (hm:1≤m):wdt m (qmL w q)=w:=by
 unfold wdt;rw[if_neg (by omega)]
 exact gH _ _
noncomputable def ajk (m w:Nat) (q:Nat→Nat→Rat) (A:LSp):CPT:=aB 129 (dR [] (kU [tmV m (qmL w q)] [] [.rsl 0 0 m,.int .i64 0] [qmF m w (cM q)])) (aB 131 (dR [] A) (iw 130 [tmV m (qmL w q)] (.int .i64 (w:Nat)) (aB 113 (aP pX) (aB 114 (aP jZ) (aB 132 (aV ffP) (aB 133 (aV BI) (aB 134 (aV QF) (aB 111 (aV GR) noC))))))))
theorem DR {m w b:Nat} {q:Nat→Nat→Rat} (h:jB m w b q):Rh m (qmL w q):=⟨by have:=h.hm;omega,fun i hi=>⟨by unfold qmL;rw[gH];have:=h.hw;omega,fun j hj=>by unfold qmL at hj⊢;rw[gH]at hj;rw[rY _ hj];exact h.hs i hi j hj⟩⟩
theorem aes {m w b:Nat} {q:Nat→Nat→Rat} (h:jB m w b q) {A:LSp} (hA:LOK Tryz.prog 131 A):bC Tryz.prog (ajk m w q A):=
 au (bT [] (dA (by rw[←Kh];exact wW m w q h.hm h.hw h.hs h.hz))) (au (bT [] hA) (aY (by have:=uG m (qmL w q) (DR h);rw[Kk h.hm.1]at this;exact this) (au (aC aoa) (au (aC iT) (au (aG BH) (au (aG yj) (au (aG Nn) (au (aG Dx) aF))))))))
def deQ (m:Nat) (q:Nat→Nat→Rat):Rat:=if(elQ m m q).piv.length<m then 0 else if(elQ m m q).odd=true then-dtV (elQ m m q).heads m else dtV (elQ m m q).heads m
theorem YQ {m b:Nat} {q:Nat→Nat→Rat} (h:jB m m b q) (hB:m*Bd b m≤400000000):aD Tryz.prog 33 [tmV m (qmL m q)] (.tup [.str (rsS (deQ m q)),.int .i64 (rsE (deQ m q))]):=by
 have hA:=uI (m:=m) (w:=m) (cols:=m) (M0:=cM q) h.hm (by have:=h.hw;omega) (ajE m) h.gl (ajI h.hB (by decide))
 obtain⟨h1,h2,h3,h4,h5⟩:=iZ (yt b) (M:=cM q) (M':=q) (fun r hr j hj=>⟨h.gl r hr j hj,dU _⟩) m (ajE m);obtain⟨l1,l2,l3⟩:=fE Ff m m (cM q) m;have hc:=aes h (dA hA);unfold deQ;rw[show(elQ m m q).piv=(aN Ff m m (cM q) m).piv from h2,show(elQ m m q).odd=(aN Ff m m (cM q) m).odd from h3,show(elQ m m q).heads=(aN Ff m m (cM q) m).heads.map Fr.val from h4];have hH:∀x,x∈(aN Ff m m (cM q) m).heads→x.OK∧x.L≤Bd b m:=fun x hx=>by
  obtain⟨k,hk,hg,_⟩:=h5 x hx;exact⟨hg.ok,ajI hg.le (lG b (by omega))⟩
 clear h1 h2 h3 h4 h5;generalize aN Ff m m (cM q) m=S at*
 have hP:(pvI S.piv).length=S.piv.length:=by simp[pvI]
 have hmB:=h.hm;have hd0:rsS 0=⟨#[48]⟩∧rsE 0=0:=by constructor<;>decide+kernel
 generalize hp:pvI S.piv=P at*
 by_cases hlt:S.piv.length<m
 ·rw[if_pos hlt,hd0.1,hd0.2]
  refine ay (md:=1) (rf:=[]) mixed av hc Tryz.func33 (by rfl) (by rfl) (by rfl) ?_
  repeat'((conv=>whnf);first|(intro hq;(try simp only[vw]at hq);try exact ak hq)|apply aI|exact aj|apply nM|apply fM)
  all_goals((try apply vM);(try simp only[vq]at*);try omega)
  all_goals first|rfl|omega|exact Sup.of rfl|(exfalso;simp_all[bV];done)|(exfalso;simp_all[bV];omega)
 ·rw[if_neg hlt]
  have hPm:P.length=m:=by omega
  have hHm:S.heads.length=m:=by omega
  obtain⟨SM,Sp,H,odd⟩:=S;simp only at*;have hLm:(H.map frC).length=m:=by rw[anP,hHm]
  have hg:∀t,t<m→(CL.recs 4 (H.map frC)).rcd t=frC (H.getD t zFr):=fun t ht=>by
   show(H.map frC).getD t []=_;rw[ajQ,ajQ,akR,ajV (by omega)]
   rfl
  have hx:∀t,t<m→FB (H.getD t zFr):=fun t ht=>by
   have:=hH (H.getD t zFr) (by rw[ajQ,ajV (by omega)];exact anO _)
   have h2:=h.hB;exact⟨this.1,by omega⟩
  have hdL:∀t,t≤m→(dtF H t).OK∧(dtF H t).L≤400000001:=fun t ht=>⟨agP H t,by
   have h1:=ahQ (B:=Bd b m) (fun x hx=>(hH x hx).2) t (by omega)
   have h2:t*Bd b m≤m*Bd b m:=akh _ ht;omega⟩
  have hfb:∀t,t≤m→FB (dtF H t):=fun t ht=>⟨(hdL t ht).1,by have:=(hdL t ht).2;omega⟩
  have hft:FT (dtF H m):=⟨(hdL m (by omega)).1,by have:=(hdL m (by omega)).2;omega⟩
  have hng:(dtF H m).OK∧(dtF H m).L≤100000000000:=⟨hft.1,by have:=(hdL m (by omega)).2;omega⟩
  have hft2:FT (can (-(dtF H m).val)):=⟨dY _,by rw[lZ,Js];have:=(hdL m (by omega)).2;unfold Fr.L at this;omega⟩
  rw[←aer];generalize hL:H.map frC=L at*
  clear hH hL;cases odd
  all_goals(
   simp only[akC,if_false,if_true];refine ay (md:=1) (rf:=[]) mixed av hc Tryz.func33 (by rfl) (by rfl) (by rfl) ?_
   repeat'((conv=>whnf);first|(intro hq;(try simp only[vw]at hq);try exact ak hq)|apply aI|exact aj|apply nM|apply fM)
   all_goals((try apply vM);(try simp only[vq]at*);try omega)
   all_goals first|rfl|omega|exact Sup.of rfl|(exfalso;simp_all[bV];done)|(exfalso;simp_all[bV];omega)|skip
   conv=>whnf
   refine aU (X:=Nat) (fun t=>t≤m) (fun t=>[(42,.int .i64 t),(9,.any)]) (fun t=>[(26,.cells (.pv (frC (dtF H t))) false)]) (fun t=>m-t) 0 ⟨aJ,mixed,av,hc,aR⟩ (by rfl) (by omega) ?_ ?_
   ·all_goals exact nP
   intro t ht;have hfbt:=hfb t ht;by_cases hlt2:t<m
   ·have e4:dtF H (t+1)=can ((dtF H t).val*(H.getD t zFr).val):=rfl
    have hgt:=hg t hlt2;have hxt:=hx t hlt2;generalize dtF H t=a at*
    repeat'((conv=>whnf);first|(intro hq;(try simp only[vw]at hq);try exact ak hq)|apply aI|exact aj|apply nM|apply fM)
    all_goals((try apply vM);(try simp only[vq]at*);try omega)
    all_goals first
     |omega
     |(rw[hgt];rfl)
     |skip
    conv=>whnf
    simp only[alR];rw[hgt]
    repeat'((conv=>whnf);first|(intro hq;(try simp only[vw]at hq);try exact ak hq)|apply aI|exact aj|apply nM|apply fM)
    all_goals((try apply vM);(try simp only[vq]at*);try omega)
    all_goals(try simp only[cK])
    all_goals first
     |omega
     |rfl
     |exact⟨hfbt,hxt⟩
     |(refine⟨t+1,[],⟨by omega,by omega⟩,?_⟩
       rw[e4];all_goals exact nP)
   ·have:t=m:=by omega
    subst this
    repeat'((conv=>whnf);first|(intro hq;(try simp only[vw]at hq);try exact ak hq)|apply aI|exact aj|apply nM|apply fM)
    all_goals((try apply vM);(try simp only[vq]at*);try omega)
    all_goals(try simp only[cK,dU]at*)
    all_goals first
     |omega
     |exact hft
     |exact hft2
     |exact hng
     |exact Sup.of rfl
     )
def YR (w:Nat) (q:Nat→Rat):List ByteArray:=if uJ w q=true then []else qsL w q
def Rs (w:Nat) (q:Nat→Rat):Int:=if uJ w q=true then 4 else 0
def Kl (w:Nat) (q:Nat→Rat):PV:=.tup [stV (YR w q),.int .i64 (Rs w q)]
theorem aeu (w:Nat) (f:Nat→Fr) (q:Nat→Rat) (hw:w≤1000000) (hf:∀i,i<w→FT (f i)) (hv:∀i,i<w→(f i).val=q i):aD Tryz.prog 171 [frL w f] (Kl w q):=by
 have h:=JY w f hw hf;unfold rwR at h;rw[zK hv,Vv hv]at h;unfold Kl YR Rs;cases hl:uJ w q
 ·rw[hl,if_neg (by simp)]at h
  simpa using h
 ·rw[hl,if_pos rfl]at h
  simpa using h
theorem agQ (w:Nat) (f:Nat→Fr) (q:Nat→Rat) (hw:w≤1000000) (hf:∀i,i<w→FT (f i)) (hv:∀i,i<w→(f i).val=q i):aD Tryz.prog 171 [.isl (.recs 4 (rfL w f)) .none] (Kl w q):=
 cB (ys:=[frL w f]) (fun S wd vs hA=>⟨hA.1,fun i hi=>by
  have:=hA.2 i hi
  match i,hi with
  |0,_=>exact jy (kV w f) this⟩) (aeu w f q hw hf hv)
def svF (S:ES Fr) (w:Nat):Nat→Nat→Fr
 |0=>fun _=>zFr
 |t+1=>fun j=>if j=S.piv.getD t 0 then S.M t w else svF S w t j
def svQ (S:ES Rat) (w:Nat):Nat→Nat→Rat
 |0=>fun _=>0
 |t+1=>fun j=>if j=S.piv.getD t 0 then S.M t w else svQ S w t j
abbrev slQ (m w:Nat) (q:Nat→Nat→Rat) (v:Nat→Rat):ES Rat:=aN Fq (w+1) m (auQ w q v) (w+1)
theorem Rt {m w b:Nat} {q:Nat→Nat→Rat} {v:Nat→Rat} (h:jB m w b q) (hv:l6 m b v):∀r,r<m→∀j,j<w+1→GL b 0 (auM w (cM q) (fun i=>can (v i)) r j)∧(auM w (cM q) (fun i=>can (v i)) r j).val=auQ w q v r j:=fun r hr j hj=>by
 unfold auM auQ;by_cases e:j=w
 ·rw[if_pos e,if_pos e]
  exact⟨⟨dY _,by rw[lZ];exact hv.hL r hr⟩,dU _⟩
 ·rw[if_neg e,if_neg e]
  exact⟨h.gl r hr j (by omega),dU _⟩
noncomputable def agR (m w:Nat) (q:Nat→Nat→Rat) (v:Nat→Rat) (A:LSp) (C:PSp):CPT:=aB 169 (dR [] (kU [tmV m (qmL w q),stV (qsL m v)] [] [.rsl 0 0 m,.int .i64 0] [qmF m (w+1) (auM w (cM q) fun i=>can (v i))])) (iw 130 [tmV m (qmL w q)] (.int .i64 (w:Nat)) (aB 157 (dR [] (kU [.rsl 0 0 m] [qmF m (w+1) (auM w (cM q) fun i=>can (v i))] [.int .i64 ((w+1:Nat):Int)] [qmF m (w+1) (auM w (cM q) fun i=>can (v i))])) (aB 131 (dR [] A) (aB 132 (aV ffP) (aB 170 (dR [] (kU [.isl (.recs 4 [frC zFr]) .none,.int .i64 (w:Int)] [] [.rsc 0 4 w] [.rowo (.recs 4 (ajZ w (frC zFr)))])) (aB 171 (SX C) noC))))))
theorem aev {m w b:Nat} {q:Nat→Nat→Rat} {v:Nat→Rat} (h:jB m w b q) (hv:l6 m b v) (hw:1≤w) {A:LSp} {C:PSp} (hA:LOK Tryz.prog 131 A) (hC:POK Tryz.prog 171 C):bC Tryz.prog (agR m w q v A C):=
 au (bT [] (dA (Kj h hv))) (aY (by have:=uG m (qmL w q) (DR h);rw[Kk h.hm.1]at this;exact this) (au (bT [] (dA (zL m (w+1) _ h.hm))) (au (bT [] hA) (au (aG BH) (au (bT [] (dA (Fv (frC zFr) w ⟨hw,by have:=h.hw;omega⟩ (by rfl) (by rfl)))) (au (SY hC) aF))))))
theorem aew {S:ES Fr} {Sq:ES Rat} (hp:Sq.piv=S.piv) {w m:Nat} (hM:∀r,r<m→(S.M r w).val=Sq.M r w):∀t,t≤m→∀j,(svF S w t j).val=svQ Sq w t j:=by
 intro t;induction t with
 |zero=>intro _ j;exact DN
 |succ t ih=>
  intro ht j;show(if j=S.piv.getD t 0 then S.M t w else svF S w t j).val=if j=Sq.piv.getD t 0 then Sq.M t w else svQ Sq w t j;rw[hp];split
  ·exact hM t (by omega)
  ·exact ih (by omega) j
theorem agS {S:ES Fr} {w m:Nat} (hM:∀r,r<m→FT (S.M r w)):∀t,t≤m→∀j,FT (svF S w t j):=by
 intro t;induction t with
 |zero=>intro _ j;exact⟨wY,by rw[show svF S w 0 j=zFr from rfl,aaT,DL];omega⟩
 |succ t ih=>
  intro ht j;show FT (if j=S.piv.getD t 0 then S.M t w else svF S w t j);split
  ·exact hM t (by omega)
  ·exact ih (by omega) j
theorem aex (w:Nat) (f:Nat→Fr):(CL.recs 4 (rfL w f)).sub 0 w=.recs 4 (rfL w f):=by
 have:=iD w f;simp only[CL.sub];rw[am7,am6 (by omega)]
theorem YS {m w b:Nat} {q:Nat→Nat→Rat} {v:Nat→Rat} (h:jB m w b q) (hv:l6 m b v) (hw:1≤w) (hin:w∉(slQ m w q v).piv):
 aD Tryz.prog 93 [tmV m (qmL w q),stV (qsL m v)] (Kl w (svQ (slQ m w q v) w (slQ m w q v).piv.length)):=by
 have hmB:=h.hm;have hwB:=h.hw;have hgl:=Rt h hv;have hA:=uI (m:=m) (w:=w+1) (cols:=w+1) (M0:=auM w (cM q) fun i=>can (v i)) h.hm (by omega) (ajE _) (fun r hr j hj=>(hgl r hr j hj).1) (ajI h.hB (by decide))
 obtain⟨h1,h2,h3,h4,_⟩:=iZ (yt b) hgl (w+1) (ajE _);obtain⟨l1,l2,l3⟩:=fE Ff (w+1) m (auM w (cM q) fun i=>can (v i)) (w+1);have hpv:=wX Ff (w+1) m (auM w (cM q) fun i=>can (v i)) (w+1);have hft:∀r,r<m→FT ((aN Ff (w+1) m (auM w (cM q) fun i=>can (v i)) (w+1)).M r w):=fun r hr=>GL.ft (b:=b) (k:=m) ⟨(h1 r hr w (by omega)).1.ok,ajI (h1 r hr w (by omega)).1.le (lG b l1)⟩ h.hB
 have hC:=agQ w (svF (aN Ff (w+1) m (auM w (cM q) fun i=>can (v i)) (w+1)) w (aN Ff (w+1) m (auM w (cM q) fun i=>can (v i)) (w+1)).piv.length) (svQ (slQ m w q v) w (aN Ff (w+1) m (auM w (cM q) fun i=>can (v i)) (w+1)).piv.length) (by omega) (fun j _=>agS hft _ l1 j) (fun j _=>aew h2 (fun r hr=>(h1 r hr w (by omega)).2) _ l1 j)
 have hc:=aev h hv hw (dA hA) (yD hC);rw[h2]at hin⊢;generalize Rs w=RX at*
 clear h1 h3 h4 hgl hft hA hC;generalize svQ (slQ m w q v) w (aN Ff (w+1) m (auM w (cM q) fun i=>can (v i)) (w+1)).piv.length=xq at*
 clear h2;unfold agR at hc;generalize(auM w (cM q) fun i=>can (v i))=AU at*
 generalize aN Ff (w+1) m AU (w+1)=S at*
 have hmin:min ((w:Int)+1) ((w+1:Nat):Int)=((w+1:Nat):Int):=by omega
 have hP:(pvI S.piv).length=S.piv.length:=by simp[pvI]
 refine ay (md:=1) (rf:=[]) mixed av hc Tryz.func93 (by rfl) (by rfl) (by rfl) ?_
 repeat'((conv=>whnf);first|(intro hq;(try simp only[vw]at hq);try exact ak hq)|apply aI|exact aj|apply nM|apply fM)
 all_goals((try apply vM);(try simp only[vq]at*);try omega)
 all_goals first|rfl|omega|exact⟨rfl,rfl⟩|(rw[hmin];exact⟨rfl,rfl⟩)|(rw[hmin])|exact Sup.of rfl|skip
 conv=>whnf
 refine Bo 0 (by rfl) fun l g hl hnd hg=>?_
 conv=>whnf
 refine abh ⟨aJ,mixed,av,hc,aR⟩ 22 (by rfl) ?_
 conv=>whnf
 refine aU (X:=Nat) (fun t=>t≤S.piv.length) (fun t=>[(39,.int .i64 t),(11,.any),(12,.any)]) (fun t=>[(22,.cells (.recs 4 (rfL w (svF S w t))) false)]) (fun t=>S.piv.length-t) 0 ⟨aJ,mixed,av,hc,aR⟩ (by rfl) (by omega) ?_ ?_
 ·repeat'((conv=>whnf);first|intro _|apply aI|exact aj|apply nM|apply fM)
  all_goals((try apply vM);(try simp only[vq]at*);try omega)
  all_goals first|exact⟨zJ w,by rw[zJ];exact lJ _ _⟩|exact lJ _ _|exact⟨rfl,lJ _ _⟩|exact fun _ _=>trivial|exact⟨fun _ _=>trivial,fun _ _ _=>trivial⟩
 intro t ht;by_cases htl:t<S.piv.length
 ·have hgt:=hg t (by omega)
  have ht1:(pvI S.piv).getD t 0=((S.piv.getD t 0:Nat):Int):=by simp[pvI,ajQ,htl]
  have ht3:S.piv.getD t 0∈S.piv:=by rw[ajQ,ajV htl];exact anO _
  have ht2:S.piv.getD t 0<w:=by
   have h1:=hpv _ ht3;have h2:S.piv.getD t 0≠w:=fun e=>hin (by rw[←e];exact ht3)
   omega
  have hlm:l.getD t 0∈l:=by rw[ajQ,ajV (by omega)];exact anO _
  have hset:(rfL w (svF S w t)).set (S.piv.getD t 0) (frC (S.M t w))=rfL w (svF S w (t+1)):=by rw[yG];rfl
  repeat'((conv=>whnf);first|(intro hq;(try simp only[vw]at hq);try exact ak hq)|apply aI|exact aj|apply nM|apply fM)
  all_goals((try apply vM);(try simp only[vq]at*);try omega)
  all_goals(try simp only[eB,aj9,hgt,ht1,alR,iD,cK])
  all_goals first
   |omega
   |exact hlm
   |exact rfl
   |(rw[hset]
     refine⟨t+1,[],⟨by omega,by omega⟩,?_⟩
     all_goals exact qJ)
 ·have:t=S.piv.length:=by omega
  subst this
  repeat'((conv=>whnf);first|(intro hq;(try simp only[vw]at hq);try exact ak hq)|apply aI|exact aj|apply nM|apply fM)
  all_goals((try apply vM);(try simp only[vq]at*);try omega)
  all_goals first
   |omega
   |exact lJ _ _
   |exact Nat.le_of_eq (iD _ _).symm
   |(rw[aex])
   |exact Sup.of rfl
def agT (m w:Nat) (D:bL Fr) (y:Nat→Fr):PSp:=fun ys K=>∃c:Ky,VC (ys=[.isl (.recs 4 (rfL m fun i=>D i c.n)) .none,frL m y]∧c.n≤w)∧K (frV (pdF (fun i=>D i c.n) y m))
theorem aey {m w B:Nat} {D:bL Fr} {y:Nat→Fr} (hm:m≤1000000) (hf:∀c,c≤w→∀i,i<m→FB (D i c)∧FB (y i)∧(D i c).L+(y i).L+1≤B) (hB:1+m*B≤10000000000):POK Tryz.prog 173 (agT m w D y):=by
 rintro ys K ⟨⟨c⟩,⟨⟨rfl,hc⟩⟩,h1⟩
 refine⟨_,h1,cB (ys:=[frL m fun i=>D i c,frL m y]) (fun S wd vs hA=>⟨hA.1,fun i hi=>?_⟩) (Vz m (fun i=>D i c) y hm (hf c hc) hB)⟩;have:=hA.2 i hi
 match i,hi with
 |0,_=>exact jy (kV m fun i=>D i c) this
 |1,_=>exact this
def crQ (m w:Nat) (q:Nat→Nat→Rat) (v y:Nat→Rat):Bool:=(ajO (w+1)).all fun c=>decide (pdV (fun i=>auQ w q v i c) y m=if c=w then 1 else 0)
noncomputable def aaV (m w:Nat) (q:Nat→Nat→Rat) (v y:Nat→Rat):CPT:=aB 169 (dR [] (kU [tmV m (qmL w q),stV (qsL m v)] [] [.rsl 0 0 m,.int .i64 0] [qmF m (w+1) (auM w (cM q) fun i=>can (v i))])) (iw 130 [tmV m (qmL w q)] (.int .i64 (w:Nat)) (aB 157 (dR [] (kU [.rsl 0 0 m] [qmF m (w+1) (auM w (cM q) fun i=>can (v i))] [.int .i64 ((w+1:Nat):Int)] [qmF m (w+1) (auM w (cM q) fun i=>can (v i))])) (aB 113 (aP pX) (aB 114 (aP jZ) (iw 161 [stV (qsL m y)] (.int .i64 0) (iw 172 [stV (qsL m y)] (frL m fun i=>can (y i)) (aB 132 (aV ffP) (aB 173 (aV (agT m w (auM w (cM q) fun i=>can (v i)) fun i=>can (y i))) (aB 174 (aV aaL) noC)))))))))
theorem Ru {q:Rat} {b:Nat} (h:RL q≤b) (hb:b≤400000000):FB (can q):=Jz (by omega)
theorem YT {m w b:Nat} {q:Nat→Nat→Rat} {v y:Nat→Rat} (h:jB m w b q) (hv:l6 m b v) (hy:l6 m b y) (hB:1+m*(b+b+1)≤10000000000) (hb:b≤400000000):bC Tryz.prog (aaV m w q v y):=
 au (bT [] (dA (Kj h hv))) (aY (by have:=uG m (qmL w q) (DR h);rw[Kk h.hm.1]at this;exact this) (au (bT [] (dA (zL m (w+1) _ h.hm))) (au (aC aoa) (au (aC iT) (aY (by have:=wV _ (hy.rw h.hm.2);rw[hy.hz]at this;exact this) (aY (Ca m y (by have:=h.hm;omega) hy.hs) (au (aG BH) (au (aG (aey (B:=b+b+1) (by have:=h.hm;omega) (fun c hc i hi=>by
  obtain⟨g1,g2⟩:=Rt h hv i hi c (by omega)
  have h3:=hy.hL i hi;have h4:=g1.le;unfold Bd at h4;have h5:(can (y i)).L≤b:=by rw[lZ];exact h3
  exact⟨⟨g1.ok,by omega⟩,Ru h3 hb,by omega⟩) hB)) (au (aG adJ) aF)))))))))
theorem YU (n:Nat) (f:Nat→Fr):rfL n f++[frC (f n)]=rfL (n+1) f:=by simp[rfL,am4]
theorem YV {m w b:Nat} {q:Nat→Nat→Rat} {v y:Nat→Rat} (h:jB m w b q) (hv:l6 m b v) (hy:l6 m b y) (hB:1+m*(b+b+1)≤10000000000) (hb:b≤400000000):
 aD Tryz.prog 95 [tmV m (qmL w q),stV (qsL m v),stV (qsL m y)] (.int .i64 (if crQ m w q v y=true then 0 else 19)):=by
 have hmB:=h.hm;have hwB:=h.hw;have hc:=YT h hv hy hB hb;unfold aaV at hc;have hgl:=Rt h hv;have hpd:∀c,c≤w→FB (pdF (fun i=>auM w (cM q) (fun i=>can (v i)) i c) (fun i=>can (y i)) m)∧(pdF (fun i=>auM w (cM q) (fun i=>can (v i)) i c) (fun i=>can (y i)) m).val=pdV (fun i=>auQ w q v i c) y m:=fun c hc=>by
  have hx:=Ki (n:=m) (f:=fun i=>auM w (cM q) (fun i=>can (v i)) i c) (g:=fun i=>can (y i)) m (ajE m);have hL:=aaU (n:=m) (B:=b+b+1) (f:=fun i=>auM w (cM q) (fun i=>can (v i)) i c) (g:=fun i=>can (y i)) (fun i hi=>by
   have h1:=(hgl i hi c (by omega)).1.le
   unfold Bd at h1;have h2:=hy.hL i hi;have h5:(can (y i)).L≤b:=by rw[lZ];exact h2
   show(auM w (cM q) (fun i=>can (v i)) i c).L+(can (y i)).L+1≤_;omega) m (ajE m)
  refine⟨⟨hx.1,by omega⟩,hx.2.trans ?_⟩
  have:∀t,t≤m→pdV (fun i=>(auM w (cM q) (fun i=>can (v i)) i c).val) (fun i=>(can (y i)).val) t=pdV (fun i=>auQ w q v i c) y t:=fun t=>by
   induction t with
   |zero=>intro _;rfl
   |succ t ih=>
    intro ht;show pdV _ _ t+(auM w (cM q) (fun i=>can (v i)) t c).val*(can (y t)).val=pdV _ _ t+auQ w q v t c*y t;rw[ih (by omega),(hgl t (by omega) c (by omega)).2,dU]
  exact this m (ajE m)
 have hcr:∀c,c≤w→crQ m w q v y=true→pdV (fun i=>auQ w q v i c) y m=if c=w then 1 else 0:=fun c hc hq=>of_decide_eq_true (alm.1 hq c (aly.2 (by omega)))
 have hcr2:(∀c,c≤w→pdV (fun i=>auQ w q v i c) y m=if c=w then 1 else 0)→crQ m w q v y=true:=fun hq=>alm.2 fun c hc=>decide_eq_true (hq c (by have:=aly.1 hc;omega))
 have hpd2:=fun c hc=>(hpd c hc).1;have hpd3:=fun c hc=>(hpd c hc).2;clear hpd hgl;generalize hPV:(fun c=>pdV (fun i=>auQ w q v i c) y m)=PV1 at*
 have hPV':∀c,pdV (fun i=>auQ w q v i c) y m=PV1 c:=fun c=>congrFun hPV c;simp only[hPV']at hcr hcr2 hpd3;generalize crQ m w q v y=R at*
 generalize(auM w (cM q) fun i=>can (v i))=AU at*
 have hly:=gH m y;generalize qsL m y=ly at*
 generalize(fun i=>can (y i))=Y at*
 refine ay (md:=1) (rf:=[]) mixed av hc Tryz.func95 (by rfl) (by rfl) (by rfl) ?_
 repeat'((conv=>whnf);first|(intro hq;(try simp only[vw]at hq);try exact ak hq)|apply aI|exact aj|apply nM|apply fM)
 all_goals((try apply vM);(try simp only[vq]at*);try omega)
 all_goals first|rfl|omega|exact⟨rfl,rfl⟩|(exfalso;simp_all[bV];done)|(exfalso;simp_all[bV];omega)|exact Sup.of rfl|skip
 conv=>whnf
 refine ahp ⟨aJ,mixed,av,hc,aR⟩ 0 (fnM (w+1) AU) (by rfl) (fun i hi=>⟨rfl,kV _ _⟩) ?_
 conv=>whnf
 refine PY ⟨aJ,mixed,av,hc,aR⟩ 0 (by rfl) ?_
 conv=>whnf
 refine aU (X:=Nat) (fun c=>c≤w+1∧∀j,j<c→PV1 j=if j=w then 1 else 0) (fun c=>[(43,.int .i64 c),(11,.any),(12,.any),(14,.any),(15,.any),(48,.any),(46,.any),(47,.any)]) (fun _=>[]) (fun c=>w+1-c) 0 ⟨aJ,mixed,av,hc,aR⟩ (by rfl) ⟨by omega,fun j hj=>by omega⟩ ?_ ?_
 ·all_goals exact wm
 intro c ⟨hcl,hok⟩;obtain⟨ky,rfl⟩:∃ky:Ky,c=ky.n:=⟨⟨c⟩,rfl⟩;by_cases hlt:ky.n<w+1
 ·have hcw:=hpd2 ky.n (by omega)
  have hcv:=hpd3 ky.n (by omega)
  have hRf:PV1 ky.n≠(if ky.n=w then 1 else 0)→R=false:=fun hne=>by
   cases R with
   |false=>rfl
   |true=>exact absurd (hcr ky.n (by omega) rfl) hne
  have nxt:PV1 ky.n=(if ky.n=w then 1 else 0)→∀j,j<ky.n+1→PV1 j=if j=w then 1 else 0:=fun a j hj=>by
   by_cases e:j=ky.n
   ·rw[e];exact a
   ·exact hok j (by omega)
  clear hcr hcr2 hok hpd2 hpd3;have hfz:FB zFr:=Ru (b:=1) (q:=0) (by rw[DL];omega) (by omega)
  have hfo:FB oFr:=by rw[sw];exact Ru (b:=1) (by decide+kernel) (by omega)
  have hch:∀x:Fr,chunks qC.size 1 (frC x)=[frC x]:=fun x=>rfl;have hov:Fr.val ⟨⟨1,[]⟩,⟨fJ.s,fJ.w⟩⟩=1:=Ob;have hzv:Fr.val ⟨⟨0,[]⟩,⟨fJ.s,fJ.w⟩⟩=0:=DN;have hsn:=fun r=>YU r fun i=>AU i ky.n
  repeat'((conv=>whnf);first|(intro hq;(try simp only[vw]at hq);try exact ak hq)|apply aI|exact aj|apply nM|apply fM)
  all_goals((try apply vM);(try simp only[vq]at*);try omega)
  all_goals first|omega|skip
  conv=>whnf
  refine aU (X:=Nat) (fun r=>r≤m) (fun r=>[(48,.int .i64 r),(14,.any),(12,.isl (.recs 4 (rfL r fun i=>AU i ky.n)) (.own 3))]) (fun r=>[(3,.tok 4 r)]) (fun r=>m-r) 0 ⟨aJ,mixed,av,hc,aR⟩ (by rfl) (by omega) ?_ ?_
  ·all_goals exact nP
  intro r hr;have hl1:=iD r fun i=>AU i ky.n;by_cases hrm:r<m
  ·have hs:=hsn r
   repeat'((conv=>whnf);first|(intro hq;(try simp only[vw]at hq);try exact ak hq)|apply aI|exact aj|apply nM|apply fM)
   all_goals((try apply vM);(try simp only[vq]at*);try omega)
   all_goals(try simp only[eB,aj9,hch,akY,ajA,ajw,hl1])
   all_goals first
    |omega
    |exact rfl
    |(refine⟨r+1,[],⟨by omega,by omega⟩,?_⟩
      repeat'((conv=>whnf);first|intro _|apply aI|exact aj|apply nM|apply fM)
      all_goals((try apply vM);(try simp only[vq]at*);try omega)
      all_goals first|exact congrArg (CL.recs 4) hs|exact hs|rfl)
  ·have:r=m:=by omega
   subst this;by_cases hcw2:ky.n=w
   ·rw[if_pos hcw2]at hRf nxt
    repeat'((conv=>whnf);first|refine Exists.intro (ky) ?_|(intro hq;(try simp only[vw]at hq);try exact ak hq)|apply aI|exact aj|apply nM|apply fM)
    all_goals((try apply vM);(try simp only[vq]at*);try omega)
    all_goals(try simp only[cK,hcv]at*)
    all_goals first
     |omega
     |exact⟨rfl,by omega⟩
     |exact⟨hcw,hfo⟩
     |(have hq2:¬PV1 ky.n=1:=by rw[hov]at hq;simpa using hq
       rw[hRf hq2];exact Sup.of rfl)
     |(have hq2:PV1 ky.n=1:=by rw[hov]at hq;simpa using hq
       refine⟨ky.n+1,[],⟨⟨by omega,nxt hq2⟩,by omega⟩,?_⟩
       all_goals exact nP)
   ·rw[if_neg hcw2]at hRf nxt
    repeat'((conv=>whnf);first|refine Exists.intro (ky) ?_|(intro hq;(try simp only[vw]at hq);try exact ak hq)|apply aI|exact aj|apply nM|apply fM)
    all_goals((try apply vM);(try simp only[vq]at*);try omega)
    all_goals(try simp only[cK,hcv]at*)
    all_goals first
     |omega
     |exact⟨rfl,by omega⟩
     |exact⟨hcw,hfz⟩
     |(have hq2:¬PV1 ky.n=0:=by rw[hzv]at hq;simpa using hq
       rw[hRf hq2];exact Sup.of rfl)
     |(have hq2:PV1 ky.n=0:=by rw[hzv]at hq;simpa using hq
       refine⟨ky.n+1,[],⟨⟨by omega,nxt hq2⟩,by omega⟩,?_⟩
       all_goals exact nP)
 ·have:ky.n=w+1:=by omega
  have hR:R=true:=hcr2 fun j hj=>hok j (by omega)
  rw[hR]
  repeat'((conv=>whnf);first|(intro hq;(try simp only[vw]at hq);try exact ak hq)|apply aI|exact aj|apply nM|apply fM)
  all_goals((try apply vM);(try simp only[vq]at*);try omega)
  all_goals first
   |omega
   |(rw[if_neg (by omega),if_pos trivial];exact Sup.of rfl)
   |exact Sup.of rfl
end Go.Eng.YtmkagljofpddpaaGreatDoor
namespace Go.Eng.YtmkagljofpddpaaGreatDoor
open Go.Proofs Go.Eng.Dig
set_option linter.unusedSimpArgs false
set_option linter.unusedVariables false
set_option maxHeartbeats 0
set_option maxRecDepth 100000
theorem VA (a n:Int) (h:(0<n∧n≤1000000000)∧ -9223372036854775808≤a∧a≤9223372036854775807):aD Tryz.prog 143 [.int .i64 a,.int .i64 n] (.int .i64 (a % n)):=by
 obtain⟨e,e2,e3⟩:=nW a n h.1.1;refine ay (md:=1) (rf:=[]) mixed av aF Tryz.func143 (by rfl) (by rfl) (by rfl) ?_
 all_goals exact qI
def aaW:PSp:=fun xs K=>match xs with
 | [.int .i64 a,.int .i64 n]=>VC ((0<n∧n≤1000000000)∧ -9223372036854775808≤a∧a≤9223372036854775807)∧K (.int .i64 (a % n))
 |_=>False
theorem aez:POK Tryz.prog 143 aaW:=by
 intro xs K h;unfold aaW at h;split at h
 ·exact⟨_,h.2,VA _ _ h.1.get⟩
 ·exact h.elim
theorem VB (a b:List Int) (hl:a.length≤1000000000∧b.length≤1000000000):aD Tryz.prog 51 [.isl (.ints .i64 a) .none,.isl (.ints .i64 b) .none] (.bp (decide (a=b))):=by
 by_cases hab:a.length=b.length
 ·skip
  refine ay (md:=1) (rf:=[]) mixed av aF Tryz.func51 (by rfl) (by rfl) (by rfl) ?_
  repeat'((conv=>whnf);first|(intro hq;(try simp only[vw]at hq);try exact ak hq)|apply aI|exact aj|apply nM|apply fM)
  all_goals((try apply vM);(try simp only[vq]at*);try omega)
  all_goals try(exfalso;omega)
  conv=>whnf
  refine aU (X:=Nat) (fun i=>i≤a.length∧∀j,j<i→a.getD j 0=b.getD j 0) (fun i=>[(5,.int .i64 i)]) (fun _=>[]) (fun i=>a.length-i) 0 ⟨aJ,mixed,av,aF,aR⟩ (by rfl) ⟨by omega,fun j h=>by omega⟩ ?_ ?_
  ·all_goals exact aW
  intro i ⟨h1,h2⟩;have h2':∀_:Unit,∀j,j<i→a.getD j 0=b.getD j 0:=fun _=>h2;clear h2;by_cases hlt:i<a.length
  ·by_cases he:a.getD i 0=b.getD i 0
   ·all_goals exact EM
   ·have hm:decide (a=b)=false:=decide_eq_false (fun hm=>he (by rw[hm]))
    rw[hm];all_goals exact EN
  ·have:i=a.length:=by omega
   subst this;have hm:decide (a=b)=true:=decide_eq_true (by
    refine alL hab fun j g1 g2=>?_;have:=h2' () j g1;rw[ajQ,ajV g1,ajQ,ajV g2]at this;exact this)
   rw[hm];all_goals exact jr
 ·have hm:decide (a=b)=false:=decide_eq_false (fun hm=>hab (by rw[hm]))
  rw[hm];refine ay (md:=1) (rf:=[]) mixed av aF Tryz.func51 (by rfl) (by rfl) (by rfl) ?_
  all_goals exact jr
def Cb:PSp:=fun xs K=>match xs with
 | [.isl (.ints .i64 a) .none,.isl (.ints .i64 b) .none]=>VC (a.length≤1000000000∧b.length≤1000000000)∧K (.bp (decide (a=b)))
 |_=>False
theorem DT:POK Tryz.prog 51 Cb:=by
 intro xs K h;unfold Cb at h;split at h
 ·exact⟨_,h.2,VB _ _ h.1.get⟩
 ·exact h.elim
noncomputable def ajl:CPT:=aB 51 (aP Cb) noC
theorem DU:bC Tryz.prog ajl:=au (aC DT) aF
def Rv (m:Nat) (f:Nat→List Int):PV:=.isl (.gen m fun i=>.isl (.ints .i64 (f i)) .none) .none
def ahR (m k:Nat) (f g:Nat→List Int):Prop:=m=k∧∀i,i<m→f i=g i
theorem VD (m k:Nat) (f g:Nat→List Int) (hm:m≤1000000∧k≤1000000) (hf:∀i,i<m→(f i).length≤1000000000) (hg:∀i,i<k→(g i).length≤1000000000) (b:Bool) (hb:b=true↔ahR m k f g):
 aD Tryz.prog 61 [Rv m f,Rv k g] (.bp b):=by
 by_cases hmk:m=k
 ·subst hmk
  refine ay (md:=1) (rf:=[]) mixed av DU Tryz.func61 (by rfl) (by rfl) (by rfl) ?_
  repeat'((conv=>whnf);first|(intro hq;(try simp only[vw]at hq);try exact ak hq)|apply aI|exact aj|apply nM|apply fM)
  all_goals((try apply vM);(try simp only[vq]at*);try omega)
  all_goals try(exfalso;omega)
  conv=>whnf
  refine aU (X:=Nat) (fun i=>i≤m∧∀j,j<i→f j=g j) (fun i=>[(5,.int .i64 i)]) (fun _=>[]) (fun i=>m-i) 0 ⟨aJ,mixed,av,DU,aR⟩ (by rfl) ⟨by omega,fun j h=>by omega⟩ ?_ ?_
  ·all_goals exact aW
  intro i ⟨h1,h2⟩;have h2':∀_:Unit,∀j,j<i→f j=g j:=fun _=>h2;clear h2;by_cases hlt:i<m
  ·have k1:=hf i hlt
   have k2:=hg i hlt;by_cases he:f i=g i
   ·all_goals exact EO
   ·have hm:b=false:=an0.2 fun hh=>he ((hb.1 hh).2 i hlt)
    rw[hm];all_goals exact EP
  ·have:i=m:=by omega
   subst this;have hm:b=true:=hb.2 ⟨rfl,h2' ()⟩;rw[hm];all_goals exact jr
 ·have hm':b=false:=an0.2 fun hh=>hmk (hb.1 hh).1
  rw[hm'];refine ay (md:=1) (rf:=[]) mixed av DU Tryz.func61 (by rfl) (by rfl) (by rfl) ?_
  all_goals exact jr
end Go.Eng.YtmkagljofpddpaaGreatDoor
namespace Go.Eng.YtmkagljofpddpaaGreatDoor
open Go.Proofs Go.Eng.Dig Go.Eng.Dec Go.Eng.Pm
set_option linter.unusedSimpArgs false
set_option linter.unusedVariables false
set_option maxHeartbeats 0
set_option maxRecDepth 100000
theorem VE (a b:List ByteArray) (hl:a.length≤1000000000∧b.length≤1000000000):aD Tryz.prog 106 [.isl (.strs a) .none,.isl (.strs b) .none] (.bp (decide (a=b))):=by
 by_cases hab:a.length=b.length
 ·skip
  refine ay (md:=1) (rf:=[]) mixed av aF Tryz.func106 (by rfl) (by rfl) (by rfl) ?_
  repeat'((conv=>whnf);first|(intro hq;(try simp only[vw]at hq);try exact ak hq)|apply aI|exact aj|apply nM|apply fM)
  all_goals((try apply vM);(try simp only[vq]at*);try omega)
  all_goals try(exfalso;omega)
  conv=>whnf
  refine aU (X:=Nat) (fun i=>i≤a.length∧∀j,j<i→a.getD j .empty=b.getD j .empty) (fun i=>[(5,.int .i64 i)]) (fun _=>[]) (fun i=>a.length-i) 0 ⟨aJ,mixed,av,aF,aR⟩ (by rfl) ⟨by omega,fun j h=>by omega⟩ ?_ ?_
  ·all_goals exact aW
  intro i ⟨h1,h2⟩;have h2':∀_:Unit,∀j,j<i→a.getD j .empty=b.getD j .empty:=fun _=>h2;clear h2;by_cases hlt:i<a.length
  ·by_cases he:a.getD i .empty=b.getD i .empty
   ·all_goals exact EM
   ·have hm:decide (a=b)=false:=decide_eq_false (fun hm=>he (by rw[hm]))
    rw[hm];all_goals exact EN
  ·have:i=a.length:=by omega
   subst this;have hm:decide (a=b)=true:=decide_eq_true (by
    refine alL hab fun j g1 g2=>?_;have:=h2' () j g1;rw[ajQ,ajV g1,ajQ,ajV g2]at this;exact this)
   rw[hm];all_goals exact jr
 ·have hm:decide (a=b)=false:=decide_eq_false (fun hm=>hab (by rw[hm]))
  rw[hm];refine ay (md:=1) (rf:=[]) mixed av aF Tryz.func106 (by rfl) (by rfl) (by rfl) ?_
  all_goals exact jr
def GY:PSp:=fun xs K=>match xs with
 | [.isl (.strs a) .none,.isl (.strs b) .none]=>VC (a.length≤1000000000∧b.length≤1000000000)∧K (.bp (decide (a=b)))
 |_=>False
theorem Oc:POK Tryz.prog 106 GY:=by
 intro xs K h;unfold GY at h;split at h
 ·exact⟨_,h.2,VE _ _ h.1.get⟩
 ·exact h.elim
noncomputable def ajm:CPT:=aB 106 (aP GY) noC
theorem DV:bC Tryz.prog ajm:=au (aC Oc) aF
def agU (m k:Nat) (f g:Nat→List ByteArray):Prop:=m=k∧∀i,i<m→f i=g i
theorem VF (m k:Nat) (f g:Nat→List ByteArray) (hm:m≤1000000∧k≤1000000) (hf:∀i,i<m→(f i).length≤1000000000) (hg:∀i,i<k→(g i).length≤1000000000) (b:Bool) (hb:b=true↔agU m k f g):
 aD Tryz.prog 77 [tmV m f,tmV k g] (.bp b):=by
 by_cases hmk:m=k
 ·subst hmk
  refine ay (md:=1) (rf:=[]) mixed av DV Tryz.func77 (by rfl) (by rfl) (by rfl) ?_
  repeat'((conv=>whnf);first|(intro hq;(try simp only[vw]at hq);try exact ak hq)|apply aI|exact aj|apply nM|apply fM)
  all_goals((try apply vM);(try simp only[vq]at*);try omega)
  all_goals try(exfalso;omega)
  conv=>whnf
  refine aU (X:=Nat) (fun i=>i≤m∧∀j,j<i→f j=g j) (fun i=>[(5,.int .i64 i)]) (fun _=>[]) (fun i=>m-i) 0 ⟨aJ,mixed,av,DV,aR⟩ (by rfl) ⟨by omega,fun j h=>by omega⟩ ?_ ?_
  ·all_goals exact aW
  intro i ⟨h1,h2⟩;have h2':∀_:Unit,∀j,j<i→f j=g j:=fun _=>h2;clear h2;by_cases hlt:i<m
  ·have k1:=hf i hlt
   have k2:=hg i hlt;by_cases he:f i=g i
   ·all_goals exact EO
   ·have hm:b=false:=an0.2 fun hh=>he ((hb.1 hh).2 i hlt)
    rw[hm];all_goals exact EP
  ·have:i=m:=by omega
   subst this;have hm:b=true:=hb.2 ⟨rfl,h2' ()⟩;rw[hm];all_goals exact jr
 ·have hm':b=false:=an0.2 fun hh=>hmk (hb.1 hh).1
  rw[hm'];refine ay (md:=1) (rf:=[]) mixed av DV Tryz.func77 (by rfl) (by rfl) (by rfl) ?_
  all_goals exact jr
theorem uK (l:List (List Int)):gK (.rows .i64 l) (.gen l.length fun i=>.isl (.ints .i64 (l.getD i [])) .none):=⟨rfl,rfl,fun j hj=>by simp only[CL.get]⟩
theorem Fy (a b:List (List Int)) (hl:a.length≤1000000∧b.length≤1000000) (ha:∀r,r∈a→r.length≤1000000000) (hb:∀r,r∈b→r.length≤1000000000):aD Tryz.prog 61 [.isl (.rows .i64 a) .none,.isl (.rows .i64 b) .none] (.bp (decide (a=b))):=by
 refine cB (ys:=[Rv a.length fun i=>a.getD i [],Rv b.length fun i=>b.getD i []]) (fun S wd vs hA=>⟨hA.1,fun i hi=>?_⟩) (VD a.length b.length (fun i=>a.getD i []) (fun i=>b.getD i []) hl (fun i hi=>?_) (fun i hi=>?_) _ ?_)
 ·have:=hA.2 i hi
  match i,hi with
  |0,_=>exact jy (uK a) this
  |1,_=>exact jy (uK b) this
 ·exact ha _ (by rw[ajQ,ajV hi];exact anO _)
 ·exact hb _ (by rw[ajQ,ajV hi];exact anO _)
 ·rw[decide_eq_true_iff]
  constructor
  ·rintro rfl;exact⟨rfl,fun _ _=>rfl⟩
  ·rintro⟨h1,h2⟩
   refine alL h1 fun j g1 g2=>?_;have:a.getD j []=b.getD j []:=h2 j g1;rw[ajQ,ajV g1,ajQ,ajV g2]at this;exact this
end Go.Eng.YtmkagljofpddpaaGreatDoor
namespace Go.Eng.YtmkagljofpddpaaGreatDoor
open Go.Proofs Go.Eng.Pm
set_option linter.unusedSimpArgs false
set_option linter.unusedVariables false
set_option maxHeartbeats 0
set_option maxRecDepth 100000
theorem Cc (p:List Int) (hp:p.length≤1000000):aD Tryz.prog 80 [.isl (.ints .i64 p) .none] (.int .i64 (dB 5 p)):=by
 unfold dB;refine ay (md:=1) (rf:=[]) mixed av aF Tryz.func80 (by rfl) (by rfl) (by rfl) ?_
 repeat'((conv=>whnf);first|(intro hq;(try simp only[vw]at hq);try exact ak hq)|apply aI|exact aj|apply nM|apply fM)
 all_goals((try apply vM);(try simp only[vq]at*);try omega)
 ·rw[if_pos (by omega)];exact Sup.of rfl
 all_goals try exact .inl trivial
 rw[if_neg (by omega)]
 conv=>whnf
 refine aU (X:=Nat) (fun i=>i≤p.length∧∀j,j<i→ru p j=0) (fun i=>[(14,.int .i64 i)]) (fun i=>[(0,.cells (.bools (jK p i)) false)]) (fun i=>p.length-i) 0 ⟨aJ,mixed,av,aF,aR⟩ (by rfl) ⟨by omega,fun j hj=>by omega⟩ ?_ ?_
 ·all_goals exact ER
 intro i ⟨hi,hok⟩;have hsl:=Fh p i;by_cases hlt:i<p.length
 ·have eS:ru p i=if p.getD i 0<0∨p.length≤p.getD i 0∨p.getD i 0∈p.take i then 14 else 0:=rfl
  have eA:=JO p i (p.getD i 0);have fin:∀e,ru p i=e→e≠0→iK (ru p) p.length=e:=fun e a1 a2=>(kM hlt (by rw[a1];exact a2) hok).trans a1
  all_goals exact ET
 ·have:p.length=i:=by omega
  rw[q9 (n:=p.length) (by rw[this];exact hok)]
  all_goals exact vV
theorem Rx (p:List Int) (hp:p.length≤1000000):aD Tryz.prog 20 [.isl (.ints .i64 p) .none] (.int .i64 (dB 5 p)):=by
 unfold dB;refine ay (md:=1) (rf:=[]) mixed av aF Tryz.func20 (by rfl) (by rfl) (by rfl) ?_
 repeat'((conv=>whnf);first|(intro hq;(try simp only[vw]at hq);try exact ak hq)|apply aI|exact aj|apply nM|apply fM)
 all_goals((try apply vM);(try simp only[vq]at*);try omega)
 ·rw[if_pos (by omega)];exact Sup.of rfl
 all_goals try exact .inl trivial
 rw[if_neg (by omega)]
 conv=>whnf
 refine aU (X:=Nat) (fun i=>i≤p.length∧∀j,j<i→ru p j=0) (fun i=>[(4,.int .i64 i)]) (fun i=>[(0,.cells (.bools (jK p i)) false)]) (fun i=>p.length-i) 0 ⟨aJ,mixed,av,aF,aR⟩ (by rfl) ⟨by omega,fun j hj=>by omega⟩ ?_ ?_
 ·all_goals exact ER
 intro i ⟨hi,hok⟩;have hsl:=Fh p i;by_cases hlt:i<p.length
 ·have eS:ru p i=if p.getD i 0<0∨p.length≤p.getD i 0∨p.getD i 0∈p.take i then 14 else 0:=rfl
  have eA:=JO p i (p.getD i 0);have fin:∀e,ru p i=e→e≠0→iK (ru p) p.length=e:=fun e a1 a2=>(kM hlt (by rw[a1];exact a2) hok).trans a1
  all_goals exact ET
 ·have:p.length=i:=by omega
  rw[q9 (n:=p.length) (by rw[this];exact hok)]
  all_goals exact vV
def Ce:PSp:=fun xs K=>match xs with
 | [.isl (.ints .i64 p) .none]=>VC (p.length≤1000000)∧K (.int .i64 (dB 5 p))
 |_=>False
theorem Km:POK Tryz.prog 80 Ce:=by
 intro xs K h;unfold Ce at h;split at h
 ·exact⟨_,h.2,Cc _ h.1.get⟩
 ·exact h.elim
def VG:PSp:=fun xs K=>match xs with
 | [.isl (.ints .i64 p) .none]=>VC (p.length≤1000000)∧K (.int .i64 (dB 5 p))
 |_=>False
theorem zN:POK Tryz.prog 20 VG:=by
 intro xs K h;unfold VG at h;split at h
 ·exact⟨_,h.2,Rx _ h.1.get⟩
 ·exact h.elim
def cmpL (p q:List Int):List Int:=q.map fun x=>p.getD x.toNat 0
theorem zO (p q:List Int):(cmpL p q).length=q.length:=by simp[cmpL]
theorem agV (p q:List Int) (i:Nat) (hi:i<q.length):(cmpL p q).take i++[p.getD (q.getD i 0).toNat 0]=(cmpL p q).take (i+1):=by
 rw[an1];simp[cmpL,ajQ,hi]
theorem VH (k:IntKind) (e:Int):Sup (dH [PV.nils,.int .i64 e]) (.tup [.isl (.ints k []) .none,.int .i64 e]):=by all_goals(refine Sup.via ?_;repeat'((conv=>whnf);first|intro _|apply aI|exact aj|apply nM|apply fM);all_goals((try apply vM);(try simp only[vq]at*);try omega);all_goals(try(simp[CL.sub];done)))
noncomputable def YW:CPT:=aB 80 (aP Ce) (aB 113 (aP pX) (aB 114 (aP jZ) noC))
theorem lK:bC Tryz.prog YW:=au (aC Km) (au (aC aoa) (au (aC iT) aF))
def kI (p q:List Int):Int:=bV [dB 5 p,dB 5 q,if p.length=q.length then 0 else 2]
theorem Kn (p q:List Int) (hp:p.length≤1000000∧q.length≤1000000):aD Tryz.prog 81 [.isl (.ints .i64 p) .none,.isl (.ints .i64 q) .none] (.tup [.isl (.ints .i64 (if kI p q=0 then cmpL p q else [])) .none,.int .i64 (kI p q)]):=by
 have hraw:bV [dB 5 p,dB 5 q,if decide (¬(p.length:Int)=q.length)=true then 2 else 0]=kI p q:=by
  unfold kI;congr 3;by_cases e:p.length=q.length
  ·rw[if_pos e,if_neg (by simp[e])]
  ·rw[if_neg e,if_pos (decide_eq_true (by omega))]
 have hraw2:bV [dB 5 p,dB 5 q,if decide ((p.length:Int)≠q.length)=true then 2 else 0]=kI p q:=hraw;by_cases h:kI p q=0
 ·rw[if_pos h]
  have hz:=h;unfold kI at hz;simp only[bV]at hz;have h1:dB 5 p=0:=by
   (repeat' split at hz)<;>simp_all
  have h2:dB 5 q=0:=by
   (repeat' split at hz)<;>simp_all
  have h3:p.length=q.length:=by
   (repeat' split at hz)<;>simp_all
  have hP:=oz (by decide) h1
  have hQ:=oz (by decide) h2
  have hl:=zB (by decide) h2
  clear hz h1 h2;refine ay (md:=1) (rf:=[]) mixed av lK Tryz.func81 (by rfl) (by rfl) (by rfl) ?_
  repeat'((conv=>whnf);first|(intro hq;(try simp only[vw]at hq);try exact ak hq)|apply aI|exact aj|apply nM|apply fM)
  all_goals((try apply vM);(try simp only[vq]at*);try omega)
  all_goals(try simp only[hraw,hraw2]at*)
  all_goals(try contradiction)
  all_goals(try simp only[h]at*)
  all_goals(try contradiction)
  all_goals(try omega)
  conv=>whnf
  refine aU (X:=Nat) (fun i=>i≤q.length) (fun i=>[(27,.int .i64 i),(9,.any),(7,.isl (.ints .i64 ((cmpL p q).take i)) (.own 5))]) (fun i=>[(5,.tok 1 i)]) (fun i=>q.length-i) 0 ⟨aJ,mixed,av,lK,aR⟩ (by rfl) (by omega) ?_ ?_
  ·all_goals exact aW
  intro i hi;have hcl:=zO p q;by_cases hlt:i<q.length
  ·have e:=hQ.rng i hlt
   have ht:=agV p q i hlt;have hlen:((cmpL p q).take i).length=i:=by rw[akw];omega
   have hlen2:((cmpL p q).take (i+1)).length=i+1:=by rw[akw];omega
   repeat'((conv=>whnf);first|(intro hq;(try simp only[vw]at hq);try exact ak hq)|apply aI|exact aj|apply nM|apply fM)
   all_goals((try apply vM);(try simp only[vq]at*);try omega)
   all_goals(try simp only[ht])
   all_goals first
    |omega
    |(refine⟨i+1,[],⟨by omega,by omega⟩,?_⟩
      all_goals exact aW)
  ·have:i=q.length:=by omega
   subst this;rw[show(cmpL p q).take q.length=cmpL p q by rw[←hcl,alS]]
   all_goals exact gJ
 ·rw[if_neg h]
  refine ay (md:=1) (rf:=[]) mixed av lK Tryz.func81 (by rfl) (by rfl) (by rfl) ?_
  repeat'((conv=>whnf);first|(intro hq;(try simp only[vw]at hq);try exact ak hq)|apply aI|exact aj|apply nM|apply fM)
  all_goals((try apply vM);(try simp only[vq]at*);try omega)
  all_goals(try simp only[hraw,hraw2]at*)
  all_goals first|(exfalso;contradiction)|omega|exact Sup.of rfl|exact VH _ _
def ni (p:List Int):Nat→List Int
 |0=>ajZ p.length 0
 |i+1=>(ni p i).set (ap p i) i
theorem zP (p:List Int):∀i,(ni p i).length=p.length:=by
 intro i;induction i with
 |zero=>simp[ni]
 |succ i ih=>simp[ni,ih]
theorem Ko (k:IntKind) (l:List Int) (n:Nat) (e:Int) (h:l.length=n):Sup (dH [PV.isl ((CL.ints k l).sub 0 n) .none,.int .i64 e]) (.tup [.isl (.ints k l) .none,.int .i64 e]):=by
 subst h;refine Sup.of ?_;simp[dH,CL.sub]
theorem LD (p:List Int) (hp:p.length≤1000000):aD Tryz.prog 82 [.isl (.ints .i64 p) .none] (.tup [.isl (.ints .i64 (if dB 5 p=0 then ni p p.length else [])) .none,.int .i64 (dB 5 p)]):=by
 by_cases h:dB 5 p=0
 ·have hP:=oz (by decide) h
  have hl:=zB (by decide) h
  rw[if_pos h];refine ay (md:=1) (rf:=[]) mixed av lK Tryz.func82 (by rfl) (by rfl) (by rfl) ?_
  repeat'((conv=>whnf);first|(intro hq;(try simp only[vw]at hq);try exact ak hq)|apply aI|exact aj|apply nM|apply fM)
  all_goals((try apply vM);(try simp only[vq]at*);try omega)
  all_goals(try contradiction)
  all_goals(try exact .inl trivial)
  rw[h];conv=>whnf
  refine aU (X:=Nat) (fun i=>i≤p.length) (fun i=>[(18,.int .i64 i),(6,.any),(7,.any)]) (fun i=>[(4,.cells (.ints .i64 (ni p i)) false)]) (fun i=>p.length-i) 0 ⟨aJ,mixed,av,lK,aR⟩ (by rfl) (by omega) ?_ ?_
  ·all_goals exact pI
  intro i hi;have hil:=zP p i;by_cases hlt:i<p.length
  ·have e:=hP.rng i hlt
   all_goals exact EU
  ·have:i=p.length:=by omega
   subst this
   repeat'((conv=>whnf);first|(intro hq;(try simp only[vw]at hq);try exact ak hq)|apply aI|exact aj|apply nM|apply fM)
   all_goals((try apply vM);(try simp only[vq]at*);try omega)
   all_goals first|exact Ko _ _ _ _ hil|omega
 ·rw[if_neg h]
  refine ay (md:=1) (rf:=[]) mixed av lK Tryz.func82 (by rfl) (by rfl) (by rfl) ?_
  all_goals exact EW
theorem LG (p:List Int):aD Tryz.prog 167 [.isl (.ints .i64 p) .none] (.fn (.func 217) [] [.ip (.pv [.isl (.ints .i64 p) .none]) 0]):=by
 refine ay (md:=1) (rf:=[]) mixed av aF Tryz.func167 (by rfl) (by rfl) (by rfl) ?_
 all_goals exact Ev
def zQ (c:List Int):PV:=.isl (.ints .i64 c) .none
def qj (p:List Int) (i t:Nat):List Int:=(ajO t).map fun k=>((it p k i:Nat):Int)
theorem uL (p:List Int) (i t:Nat):(qj p i t).length=t:=by simp[qj]
theorem Fz (p:List Int) (i t:Nat):qj p i t++[((it p t i:Nat):Int)]=qj p i (t+1):=by simp[qj,am4]
theorem wZ (p:List Int) (h:OK p) (hl:p.length≤1000000):PO Tryz.prog 217 [] [.ip (.pv [.isl (.ints .i64 p) .none]) 0] 1 ((cys p).map zQ):=by
 refine W9 (md:=1) (rf:=[]) mixed av Tryz.func217 (by rfl) (by rfl) (by rfl) fun G go b hY=>⟨_,aF,?_⟩
 obtain⟨L,hL⟩:∃L,L=(cys p).map zQ:=⟨_,rfl⟩;have hlen:L.length=(fq p p.length).length:=by simp[hL,cys]
 have hget:∀i,i<p.length→hd p i=true→L[(fq p i).length]? =some (zQ (cyc p i)):=fun i hi hh=>by
  have:∀m,i<m→m≤p.length→(fq p m)[(fq p i).length]? =some (cyc p i):=by
   intro m;induction m with
   |zero=>intro h;omega
   |succ m ih=>
    intro h1 h2;rw[lH];by_cases e:i=m
    ·subst e
     rw[if_pos hh,List.getElem?_append_right (ajE _),Nat.sub_self];rfl
    ·have:=ih (by omega) (by omega)
     rw[alB (alA.1 this).1];exact this
  rw[hL,akR,show(cys p)[(fq p i).length]? =some (cyc p i)from this p.length (by omega) (ajE _)];rfl
 have hle:∀i,i<p.length→hd p i=true→(fq p i).length<L.length:=fun i hi hh=>(alA.1 (hget i hi hh)).1;rw[←hL]at hY⊢;have W:Walk Tryz.prog none sN tab.get noC (WZ b 1 G go L):=⟨aJ,mixed,av,aF,hY _ _⟩;have stop:∀i c,L[i]? =some c→GoTo go L i→go (L.take i++[c])=false→L.take i++[c]=kE go [] L:=fun i c hc hg h=>by
  rw[gN hc]at h⊢;rw[SI (alA.1 hc).1 hg h]
 have cont:∀i c,L[i]? =some c→GoTo go L i→go (L.take i++[c])=true→GoTo go L (i+1):=fun i c hc hg h=>hg.succ (by rw[←gN hc];exact h)
 have done:GoTo go L L.length→L.take L.length=kE go [] L:=fun hg=>by rw[WY (ajE _) hg];simp
 clear hL
 repeat'((conv=>whnf);first|intro _|apply aI|exact aj|apply nM|apply fM)
 all_goals((try apply vM);(try simp only[vq]at*);try omega)
 all_goals try exact .inl trivial
 conv=>whnf
 refine aU (X:=Nat) (fun i=>i≤p.length∧GoTo go L (fq p i).length) (fun i=>[(12,.int .i64 i),(4,.any),(5,.any),(6,.any)]) (fun i=>[(0,.ext G (L.take (fq p i).length)),(1,.cells (.bools (snL p i 0)) false)]) (fun i=>p.length-i) 0 W (by rfl) ⟨by omega,.zero⟩ ?_ ?_
 ·repeat'((conv=>whnf);first|intro _|apply aI|exact aj|apply nM|apply fM)
  all_goals((try apply vM);(try simp only[vq]at*);try omega)
  all_goals first|exact uE p|exact(uE p).symm|simp[fq]|skip
 intro i ⟨hi,hgo⟩;have hn:=yC p i;by_cases hlt:i<p.length
 ·have hrng:=fun t=>jA h hlt t
  have hper:=fB h hlt;have hat:∀t,(snL p i t).getD (it p t i) false=snB p i t (it p t i):=fun t=>U6 (hrng t) i t
  repeat'((conv=>whnf);first|intro _|apply aI|exact aj|apply nM|apply fM)
  all_goals((try apply vM);(try simp only[vq]at*);try omega)
  conv=>whnf
  refine aU (X:=Nat) (fun t=>(t=0∨hd p i=true∧t≤per p i)) (fun t=>[(6,.int .i64 (it p t i:Nat)),(5,.isl (.ints .i64 (qj p i t)) (.own 5))]) (fun t=>[(1,.cells (.bools (snL p i t)) false),(5,.tok 1 t)]) (fun t=>per p i-t) 0 W (by rfl) (.inl rfl) ?_ ?_
  ·all_goals exact aW
  intro t ht;have hnt:=yC p i t;have hol:=uL p i t;have ha:=hat t;have hr:=hrng t;clear hat hrng;by_cases hs:snB p i t (it p t i)=true
  ·rw[hs]at ha
   by_cases hh:hd p i=true
   ·have ht:t=per p i:=by
     rcases Nat.lt_or_ge t (per p i)with g|g
     ·rw[U7 h hlt hh g]at hs;cases hs
     ·rcases ht with e|⟨_,e⟩
      ·omega
      ·omega
    subst ht;have hgt:=hget i hlt hh;have e1:fq p (i+1)=fq p i++[cyc p i]:=by rw[lH,if_pos hh]
    have e2:(fq p (i+1)).length=(fq p i).length+1:=by rw[e1];simp
    have e3:qj p i (per p i)=cyc p i:=rfl;have e4:=JQ h hlt hh;have hcl:=mZ p i;rw[e3];clear e3 hol;have hstop:=stop _ _ hgt hgo;have hcont:=cont _ _ hgt hgo;have hnx:=af3 hgt hgo;have htk:=gN hgt;unfold zQ at hstop hcont hnx htk
    repeat'((conv=>whnf);first|(intro hq;(try simp only[vw]at hq);try exact ak hq)|apply aI|exact aj|apply nM|apply fM)
    all_goals((try apply vM);(try simp only[vq]at*);try omega)
    all_goals first
     |(simp only[ha,aku,akt,reduceCtorEq,akC]at*;done)
     |omega
     |exact hnx
     |(refine hstop ?_;rename_i g1 g2;simpa using g1)
     |(refine⟨i+1,[],⟨⟨by omega,?_⟩,by omega⟩,?_⟩
       ·rw[e2];refine hcont ?_;rename_i g1 g2;simpa using g1
       ·rw[e2,←e4]
        repeat'((conv=>whnf);first|intro _|apply aI|exact aj|apply nM|apply fM)
        all_goals((try apply vM);(try simp only[vq]at*);try omega)
        all_goals first|exact htk|exact htk.symm|skip)
   ·have ht:t=0:=ht.elim id fun g=>absurd g.1 hh
    subst ht;have e4:=JR h hlt (an0.2 hh);have e2:(fq p (i+1)).length=(fq p i).length:=by rw[lH,if_neg hh];simp
    have e0:qj p i 0=[]:=rfl
    repeat'((conv=>whnf);first|(intro hq;(try simp only[vw]at hq);try exact ak hq)|apply aI|exact aj|apply nM|apply fM)
    all_goals((try apply vM);(try simp only[vq]at*);try omega)
    all_goals first
     |(simp only[ha,aku,akt,reduceCtorEq,akC]at*;done)
     |omega
     |(refine⟨i+1,[],⟨⟨by omega,by rw[e2];exact hgo⟩,by omega⟩,?_⟩
       rw[e2,←e4];all_goals exact aW)
  ·have hs:=an0.2 hs
   rw[hs]at ha;have hh:hd p i=true:=by
    rcases ht with e|e
    ·subst e
     cases hh:hd p i with
     |true=>rfl
     |false=>have:=U9 hh;rw[show it p 0 i=i from rfl]at hs;rw[hs]at this;cases this
    ·exact e.1
   have ht:t<per p i:=by
    refine Nat.lt_of_not_le fun g=>?_;have:t=per p i:=by rcases ht with e|e<;>omega
    subst this;rw[U8 h hlt]at hs;cases hs
   have e4:=NK h hlt (t:=t);have e5:=Fz p i t;have e6:=mY h hr;have e7:((it p (t+1) i:Nat):Int)=p.getD (it p t i) 0:=e6;have hol2:=uL p i (t+1)
   repeat'((conv=>whnf);first|(intro hq;(try simp only[vw]at hq);try exact ak hq)|apply aI|exact aj|apply nM|apply fM)
   all_goals((try apply vM);(try simp only[vq]at*);try omega)
   all_goals(try simp only[e5])
   all_goals first
    |(simp only[ha,aku,akt,reduceCtorEq,akC]at*;done)
    |omega
    |(refine⟨t+1,[],⟨.inr ⟨hh,by omega⟩,by omega⟩,?_⟩
      rw[←e4,e7];all_goals exact aW)
 ·have:p.length=i:=by omega
  subst this;rw[←hlen]at hgo
  repeat'((conv=>whnf);first|intro _|apply aI|exact aj|apply nM|apply fM)
  all_goals((try apply vM);(try simp only[vq]at*);try omega)
  all_goals first|(rw[←hlen];exact done hgo)
end Go.Eng.YtmkagljofpddpaaGreatDoor
namespace Go.Eng.Pm
set_option linter.unusedSimpArgs false
set_option linter.unusedVariables false
def gG (p:List Int) (k:Int) (L:List (List Int)):List Int:=(ajO p.length).map fun x:Nat=>if L.any (fun c=>c.contains (x:Int))=true then((pw p k x:Nat):Int)else 0
theorem zR (p:List Int) (k:Int) (L:List (List Int)):(gG p k L).length=p.length:=by simp[gG]
theorem zS (p:List Int) (k:Int):gG p k []=ajZ p.length 0:=by
 refine alL (by simp[gG]) fun j h1 h2=>by simp[gG]
theorem Kq (p:List Int) (k:Int) (L:List (List Int)):gG p k (L++[[]])=gG p k L:=by
 unfold gG;simp
theorem Kr {p:List Int} (k:Int) (L:List (List Int)) (c:List Int) (t:Nat) (ht:t<c.length) (h0:0≤c.getD t 0):
 (gG p k (L++[c.take t])).set (c.getD t 0).toNat ((pw p k (c.getD t 0).toNat:Nat):Int)=gG p k (L++[c.take (t+1)]):=by
 refine alL (by simp[gG]) fun j h1 h2=>?_
 have htk:c.take (t+1)=c.take t++[c.getD t 0]:=by
  rw[an1,ajQ,ajV ht];rfl
 rw[alO];simp only[gG,alP,alQ,List.any_append,List.any_cons,List.any_nil,anJ,htk,List.contains_append,List.contains_cons,List.contains_nil];by_cases e:(c.getD t 0).toNat=j
 ·rw[if_pos e,if_pos]
  ·rw[e]
  ·have:((j:Int)==c.getD t 0)=true:=by rw[beq_iff_eq];omega
   rw[this,an2,an2]
 ·rw[if_neg e]
  have:((j:Int)==c.getD t 0)=false:=by rw[beq_eq_false_iff_ne];omega
  rw[this,anJ]
theorem FC {p:List Int} (k:Int) (L:List (List Int)) (i:Nat) (hi:i<L.length) (c:List Int) (hc:L.getD i []=c):gG p k (L.take i++[c.take c.length])=gG p k (L.take (i+1)):=by
 rw[alS,an1,ajV hi];rw[ajQ,ajV hi]at hc;simp only[aky]at hc;rw[hc];rfl
theorem Od {p:List Int} {c:List Int} (hc:c∈cys p):∃i,i<p.length∧hd p i=true∧c=cyc p i:=by
 unfold cys fq at hc;obtain⟨i,hi,rfl⟩:=anW.1 hc;obtain⟨h1,h2⟩:=an3.1 hi;exact⟨i,aly.1 h1,h2,rfl⟩
theorem DW {p:List Int} {i:Nat} (hi:i<(cys p).length):∃x,x<p.length∧hd p x=true∧(cys p).getD i []=cyc p x:=by
 refine Od ?_;rw[ajQ,ajV hi];exact anO _
theorem Kt {p:List Int} (h:OK p) (k:Int):gG p k (cys p)=pwL p k:=by
 refine alL (by simp[gG,pwL]) fun x h1 h2=>?_
 have hx:x<p.length:=by simpa [gG]using h1
 simp only[gG,pwL,alP,alQ];rw[if_pos];obtain⟨i,g1,g2,g3⟩:=least h x hx;rw[anK];refine⟨cyc p i,?_,?_⟩
 ·unfold cys fq
  exact anW.2 ⟨i,an3.2 ⟨aly.2 (by omega),g2⟩,rfl⟩
 ·rw[List.contains_iff_mem,NJ h (by omega)]
  exact g3
theorem VI {p:List Int} {x t:Nat} (ht:t<per p x):0≤(cyc p x).getD t 0:=by rw[wU p x t ht];omega
theorem aaX {p:List Int} (h:OK p) {x t:Nat} (hx:x<p.length) (ht:t<per p x) (k:Int):
 (cyc p x).getD (((t:Int)+k % (per p x:Nat)) % (per p x:Nat)).toNat 0=((pw p k ((cyc p x).getD t 0).toNat:Nat):Int):=by
 obtain⟨h1,h2,h3,h4⟩:=fB h hx;have hm0:=anr k (show((per p x:Nat):Int)≠0 by omega)
 have hm1:=ant k (show 0<((per p x:Nat):Int) by omega)
 unfold pw;rw[wU p x t ht,alR,agF h hx t,←l5];generalize hr:k % (per p x:Nat)=r at*
 obtain⟨m,rfl⟩:=Int.eq_ofNat_of_zero_le hm0;rw[alR,show((t:Int)+(m:Int)) % ((per p x:Nat):Int)=(((t+m) % per p x:Nat):Int) by rw[Int.natCast_emod];rfl,alR]
 rw[wU p x _ (Nat.mod_lt _ h1),U5 h hx,Nat.add_comm]
theorem zT {α:Type} {L:List (List Int)} {f:List Int→α} {i:Nat} {x:α} (hx:(L.map f)[i]? =some x):i<L.length∧x=f (L.getD i []):=by
 rw[akR]at hx;cases h:L[i]? with
 |none=>rw[h]at hx;cases hx
 |some y=>
  rw[h]at hx;cases hx
  exact⟨(alA.1 h).1,by rw[ajQ,h];rfl⟩
end Go.Eng.Pm
namespace Go.Eng.YtmkagljofpddpaaGreatDoor
open Go.Proofs Go.Eng.Pm
set_option linter.unusedSimpArgs false
set_option linter.unusedVariables false
set_option maxHeartbeats 0
set_option maxRecDepth 100000
def cyF (p:List Int):PV:=.fn (.func 217) [] [.ip (.pv [.isl (.ints .i64 p) .none]) 0]
theorem DX (p:List Int):(cys p).length≤p.length:=uF p _
def hsC (l:List (List Int)):Nat→List (Nat × AO):=fun i=>[(0,.cells (.pv [.isl (.rows .i64 (l.take i)) (.own 5)]) false),(5,.tok 1 i)]
theorem VJ (p:List Int) (h:OK p) (hl:p.length≤1000000):aD Tryz.prog 218 [.nils,cyF p] (.isl (.rows .i64 (cys p)) .none):=by
 have hI:=wZ p h hl;have hcl:=DX p;generalize cys p=l at hI hcl⊢
 refine ay (md:=1) (rf:=[]) mixed av aF Tryz.func218 (by rfl) (by rfl) (by rfl) ?_
 repeat'((conv=>whnf);first|intro _|apply aI|exact aj|apply nM|apply fM)
 all_goals((try apply vM);(try simp only[vq]at*);try omega)
 conv=>whnf
 refine zh aJ mixed av aF (fun r=>aR) (fs:=[]) (cs:=[.ip (.pv [.isl (.ints .i64 p) .none]) 0]) (l.map zQ) (fun _=>true) (hsC l) (by rfl) (by rfl) (by rfl) hI (by rfl) (by rfl) (by rfl) (by rfl) ?_ ?_ ?_
 ·all_goals exact aW
 ·intro hall
  rw[anP]
  repeat'((conv=>whnf);first|intro _|apply aI|exact aj|apply nM|apply fM)
  all_goals((try apply vM);(try simp only[vq]at*);try omega)
  all_goals(try rw[alS])
  all_goals exact Sup.of rfl
 ·intro i x hx hall lp
  obtain⟨hi,rfl⟩:=zT hx;have e1:(l.take i).length=i:=by rw[akw];omega
  have e2:l.take i++[l.getD i []]=l.take (i+1):=by
   rw[an1,ajQ,ajV hi];rfl
  repeat'((conv=>whnf);first|intro _|apply aI|exact aj|apply nM|apply fM)
  all_goals((try apply vM);(try simp only[vq]at*);try omega)
  all_goals(try(simp only[akY,akw,ajA,ajw];omega))
  refine⟨[],?_⟩
  repeat'((conv=>whnf);first|intro _|apply aI|exact aj|apply nM|apply fM)
  all_goals((try apply vM);(try simp only[vq]at*);try omega)
  all_goals(try(rw[e2]))
def Ry:PSp:=fun xs K=>match xs with
 | [.nils,.fn (.func f) [] [.ip (.pv [.isl (.ints .i64 p) .none]) 0]]=>VC (f=217∧OK p∧p.length≤1000000)∧K (.isl (.rows .i64 (cys p)) .none)
 |_=>False
theorem aeA:POK Tryz.prog 218 Ry:=by
 intro xs K hk;unfold Ry at hk;split at hk
 ·obtain⟨⟨rfl,h,hl⟩,hk⟩:=hk
  exact⟨_,hk,VJ _ h hl⟩
 ·exact hk.elim
noncomputable def ajn:CPT:=aB 218 (Gy Ry) noC
theorem aeB:bC Tryz.prog ajn:=au (IE aeA) aF
theorem VK (p:List Int) (h:OK p) (hl:p.length≤1000000):aD Tryz.prog 168 [cyF p] (.isl (.rows .i64 (cys p)) .none):=by
 refine ay (md:=1) (rf:=[]) mixed av aeB Tryz.func168 (by rfl) (by rfl) (by rfl) ?_
 repeat'((conv=>whnf);first|intro _|apply aI|exact aj|apply nM|apply fM)
 all_goals((try apply vM);(try simp only[vq]at*);try omega)
 all_goals first|exact⟨h,hl⟩|exact⟨rfl,h,hl⟩|exact Sup.of rfl
def Rz:PSp:=fun xs K=>match xs with
 | [.fn (.func f) [] [.ip (.pv [.isl (.ints .i64 p) .none]) 0]]=>VC (f=217∧OK p∧p.length≤1000000)∧K (.isl (.rows .i64 (cys p)) .none)
 |_=>False
theorem aeC:POK Tryz.prog 168 Rz:=by
 intro xs K hk;unfold Rz at hk;split at hk
 ·obtain⟨⟨rfl,h,hl⟩,hk⟩:=hk
  exact⟨_,hk,VK _ h hl⟩
 ·exact hk.elim
def RB:PSp:=fun xs K=>match xs with
 | [.isl (.ints .i64 p) .none]=>K (cyF p)
 |_=>False
theorem VL:POK Tryz.prog 167 RB:=by
 intro xs K hk;unfold RB at hk;split at hk
 ·exact⟨_,hk,LG _⟩
 ·exact hk.elim
noncomputable def ajo:CPT:=aB 168 (Gy Rz) (aB 167 (aP RB) YW)
theorem Oe:bC Tryz.prog ajo:=au (IE aeC) (au (aC VL) lK)
theorem agW (e:Int):Sup (dH [PV.nils,.int .i64 e]) (.tup [.isl (.rows .i64 []) .none,.int .i64 e]):=by all_goals(refine Sup.via ?_;repeat'((conv=>whnf);first|intro _|apply aI|exact aj|apply nM|apply fM);all_goals((try apply vM);(try simp only[vq]at*);try omega);all_goals(try(simp[CL.sub];done)))
theorem w9 (p:List Int) (hp:p.length≤1000000):aD Tryz.prog 84 [.isl (.ints .i64 p) .none] (.tup [.isl (.rows .i64 (if dB 5 p=0 then cys p else [])) .none,.int .i64 (dB 5 p)]):=by
 by_cases h:dB 5 p=0
 ·have hP:=oz (by decide) h
  rw[if_pos h];refine ay (md:=1) (rf:=[]) mixed av Oe Tryz.func84 (by rfl) (by rfl) (by rfl) ?_
  repeat'((conv=>whnf);first|(intro hq;(try simp only[vw]at hq);try exact ak hq)|apply aI|exact aj|apply nM|apply fM)
  all_goals((try apply vM);(try simp only[vq]at*);try omega)
  all_goals first|contradiction|exact⟨hP,hp⟩|exact⟨rfl,hP,hp⟩|(rw[h];exact Sup.of rfl)
 ·rw[if_neg h]
  refine ay (md:=1) (rf:=[]) mixed av Oe Tryz.func84 (by rfl) (by rfl) (by rfl) ?_
  repeat'((conv=>whnf);first|(intro hq;(try simp only[vw]at hq);try exact ak hq)|apply aI|exact aj|apply nM|apply fM)
  all_goals((try apply vM);(try simp only[vq]at*);try omega)
  all_goals first|(exfalso;contradiction)|exact agW _
def sgT (l:List (List Int)):Int:=l.foldl (fun s c=>if c.length % 2=0 then 0-s else s) 1
theorem agX (l:List (List Int)):sgT l=1∨sgT l= -1:=by
 have:∀(l:List (List Int)) (s:Int),s=1∨s= -1→l.foldl (fun s c=>if c.length % 2=0 then 0-s else s) s=1∨l.foldl (fun s c=>if c.length % 2=0 then 0-s else s) s= -1:=by
  intro l;induction l with
  |nil=>intro s h;exact h
  |cons c l ih=>intro s h;exact ih _ (by simp only;split<;>omega)
 exact this l 1 (.inl rfl)
theorem YX {l:List (List Int)} {i:Nat} (hi:i<l.length):sgT (l.take (i+1))=if(l.getD i []).length % 2=0 then 0-sgT (l.take i)else sgT (l.take i):=by
 have e2:l.take (i+1)=l.take i++[l.getD i []]:=by
  rw[an1,ajQ,ajV hi];rfl
 rw[e2,sgT,List.foldl_append];rfl
noncomputable def ajp:CPT:=aB 167 (aP RB) YW
theorem nk:bC Tryz.prog ajp:=au (aC VL) lK
def hsS (l:List (List Int)):Nat→List (Nat × AO):=fun i=>[(4,.cells (.pv [.int .i64 (sgT (l.take i))]) false)]
theorem RD (p:List Int) (hp:p.length≤1000000) (h:dB 5 p=0):aD Tryz.prog 85 [.isl (.ints .i64 p) .none] (.tup [.int .i64 (sgT (cys p)),.int .i64 0]):=by
 have hP:=oz (by decide) h
 have hI:=wZ p hP hp;have hcl:=DX p;have hle:∀i,i<(cys p).length→((cys p).getD i []).length≤p.length:=fun i hi=>by
  obtain⟨x,h1,h2,h3⟩:=DW hi;rw[h3,mZ];exact(fB hP h1).2.1
 generalize cys p=l at hI hcl hle⊢
 refine ay (md:=1) (rf:=[]) mixed av nk Tryz.func85 (by rfl) (by rfl) (by rfl) ?_
 repeat'((conv=>whnf);first|(intro hq;(try simp only[vw]at hq);try exact ak hq)|apply aI|exact aj|apply nM|apply fM)
 all_goals((try apply vM);(try simp only[vq]at*);try omega)
 all_goals(try contradiction)
 conv=>whnf
 refine zh aJ mixed av nk (fun r=>aR) (fs:=[]) (cs:=[.ip (.pv [.isl (.ints .i64 p) .none]) 0]) (l.map zQ) (fun _=>true) (hsS l) (by rfl) (by rfl) (by rfl) hI (by rfl) (by rfl) (by rfl) (by rfl) ?_ ?_ ?_
 ·all_goals exact aW
 ·intro hall
  rw[anP]
  repeat'((conv=>whnf);first|intro _|apply aI|exact aj|apply nM|apply fM)
  all_goals((try apply vM);(try simp only[vq]at*);try omega)
  all_goals(try rw[alS])
  all_goals first|exact Sup.of rfl
 ·intro i x hx hall lp
  obtain⟨hi,rfl⟩:=zT hx;have e1:=agX (l.take i);have e2:=YX hi;have e3:=hle i hi;generalize l.getD i []=c at*
  have htm:(c.length:Int).tmod 2=((c.length % 2:Nat):Int):=by rw[anu (by omega)];omega
  repeat'((conv=>whnf);first|(intro hq;(try simp only[vw]at hq);try exact ak hq)|apply aI|exact aj|apply nM|apply fM)
  all_goals((try apply vM);(try simp only[vq]at*);try omega)
  all_goals first
   |omega
   |(refine⟨[],?_⟩
     simp only[hsS,e2];first|rw[if_pos (by omega)]|rw[if_neg (by omega)]
     repeat'((conv=>whnf);first|intro _|apply aI|exact aj|apply nM|apply fM)
     all_goals((try apply vM);(try simp only[vq]at*);try omega)
     all_goals first|omega|skip)
theorem FD (p:List Int) (hp:p.length≤1000000):aD Tryz.prog 85 [.isl (.ints .i64 p) .none] (.tup [.int .i64 (if dB 5 p=0 then sgT (cys p)else 0),.int .i64 (dB 5 p)]):=by
 by_cases h:dB 5 p=0
 ·rw[if_pos h,h];exact RD p hp h
 ·rw[if_neg h]
  refine ay (md:=1) (rf:=[]) mixed av nk Tryz.func85 (by rfl) (by rfl) (by rfl) ?_
  repeat'((conv=>whnf);first|(intro hq;(try simp only[vw]at hq);try exact ak hq)|apply aI|exact aj|apply nM|apply fM)
  all_goals((try apply vM);(try simp only[vq]at*);try omega)
  all_goals first|(exfalso;contradiction)|exact Sup.of rfl
end Go.Eng.YtmkagljofpddpaaGreatDoor
