/- An engine that walks through a function of the program with symbolic values, and the proofs that it is sound. No condition. -/
import Derived.Test.YtmkagljofpddpaaGreatDoorProg
import Derived.Test.YtmkagljofpddpaaGreatDoorEd
open Nat renaming zero_add→alO,lt_of_lt_of_le→alp
namespace Go.Eng
open Go.RowKit
set_option linter.unusedSimpArgs false
set_option linter.unusedVariables false
section
variable {P:Program} {r:Option Nat} {τ:TypeId->Option TE} {B:Imm->World->Prop} {p:Nat}
theorem ace {md rf CP YP} (W:Walk P r B τ CP YP) {c:Code} {n:Nat} {Q:Exit->Env->Hp->Prop} {env:Env} {H:Hp} (k:Nat) {q:Nat} {rs:List (List PV)} (hk:av H k=some (.rowo (.recs q rs)))
 (h:jv H k (.cells (.recs q rs) false) λH'=>Lp md rf CP YP n (AW P r B p c Q env H')):Lp md rf CP YP n (AW P r B p c Q env H):=by
 rw[lD]at h;refine DN W (λS w ι M=>?_) h;obtain⟨b',g1,arr,e9,g2,g3,g4,g5⟩:=M.obj k _ hk;obtain⟨M',T⟩:=M.stay (o':=.cells (.recs q rs) false) hk rfl rfl rfl (.refl _) (.refl _ _) (λ_ _=>rfl) (λb hb=>hb) ⟨b',arr,e9,g1,g2,g3,λj hj=>(g4 j hj).up ι,g5⟩;exact⟨S,ι,M',.refl _,.refl _ _,T⟩
end
theorem F9 {P:Program} {g:FuncId} {args:List PV} {es n:Nat} {L:List (List PV)} (h:dN P g args [] [.rsc 0 es n] [.rowo (.recs es L)]) (hn:L.length=n) (hL:fJ L):aB P g args (.isl (.recs es L) .none):=by
 refine⟨h.1,λS w vs hb himm hr=>?_⟩;have M:Mem S w noI (dz []):=⟨λk o h=>by simp[dz,av]at h,λk b h=>by simp[noI]at h,λk x h=>by simp[noI]at h,λk k' o o' b h=>by simp[dz,av]at h,himm⟩
 refine CallsIn.mono (h.2 S w noI vs hb M hr) ?_
 rintro e w' ⟨val,S',ι',rfl,M',R',T'⟩
 have hk:av (dz [AO.rowo (.recs es L)]) 0=some (.rowo (.recs es L)):=rfl;obtain⟨b',g1,arr,e9,g2,g3,g4,g5⟩:=M'.obj 0 _ hk;obtain⟨M2,T2⟩:=M'.stay (o':=.cells (.recs es L) false) hk rfl rfl rfl (.refl _) (.refl _ _) (λ_ _=>rfl) (λb hb=>hb) ⟨b',arr,e9,g1,g2,g3,λj hj=>(g4 j hj).up ι',g5⟩;have hk2:av (aP (dz [AO.rowo (.recs es L)]) 0 (.cells (.recs es L) false)) 0=some (.cells (.recs es L) false):=by rw[aW,if_pos rfl]
 obtain⟨S3,M3,K3,T3,F3⟩:=M2.freeze (c':=.recs es L) hk2 rfl (λj hj=>by intro S w ι v hr;exact Mj hL j hr)
 have hT:Tr 0 S w noI (dz []) S3 w' ι' _:=(T'.trans (T2 0)).trans (T3 0);have hno:∀b,¬owned noI (dz []) b:=λb ⟨k,o,h1,_⟩=>by simp[dz,av]at h1
 refine⟨val,S3,rfl,M3.imm,hT.keeps,?_,hT.below,λb hb=>hT.same b hb (hno b),λb j hb hs=>(hT.immN b j hb hs).resolve_right (hno b)⟩;have hv:Rep S' w' ι' (.rsc 0 es n) val:=R';cases hv with
 |rsc _ _ _ _ b cap hk1 hc he hr1=>
  have:=F3 _ hk1;rw[<-hn];refine .isl _ _ _ _ _ _ (by show L.length≤_;omega) (λj hj=>by rw[alO];exact(this j hj).1) (λj hj=>by rw[alO];exact(this j hj).2) (λh=>by cases h) (λk h=>by cases h)
def wN:List PV->List PV
 | []=>[]
 |p::r=>dropP p::wN r
theorem uE:∀ps:List PV,(wN ps).length=ps.length
 | []=>rfl
 |_::r=>congrArg (·+1) (uE r)
theorem Qi:∀(ps:List PV) (i:Nat),i<ps.length->aG (wN ps) i=dropP (aG ps i):=by
 intro ps;induction ps with
 |nil=>intro i h;cases h
 |cons p r ih=>
  intro i h;cases i with
  |zero=>rfl
  |succ i=>exact ih i (by simpa using h)
def TK (C:PSp):CT:=λargs n H K=>DJ C (wN args) n H K
theorem TL {P:Program} {g:FuncId} {C:PSp} (h:POK P g C):COK P g (TK C):=by
 intro args n H K hk;obtain⟨v,sets,accs,news,h1,h2⟩:=Qe h _ _ _ _ hk;have hr:∀{S:Imm} {w:World} {ι:Ix} {vs:Array Value},bH S w ι args vs->bH S w ι (wN args) vs:=λhr=>
  ⟨(uE args).trans hr.1,λi hi=>by
   rw[uE]at hi;rw[Qi _ _ hi];exact(hr.2 i hi).dropP⟩
 refine⟨v,sets,accs,news,h1,h2.imp (λh2=>⟨h2.1,λS w ι H' vs hb M ha=>h2.2 S w ι H' vs hb M (hr ha)⟩) (λh2=>⟨h2.1,?_⟩)⟩;intro S w ι vs ha;exact h2.2 S w ι vs (hr ha)
theorem Ga {P:Program} {g:FuncId} {args:List PV} {r m:Nat} {rc:RC} {e:Int} (h:dN P g args [] [.rsl 0 0 r,.int .i64 e] [.pmat m rc]) (hrm:r≤m):aB P g args (.tup [.isl (.gen r λi=>.isl (rc.at i) .none) .none,.int .i64 e]):=by
 refine⟨h.1,λS w vs hb himm hr=>?_⟩;have M:Mem S w noI (dz []):=⟨λk o h=>by simp[dz,av]at h,λk b h=>by simp[noI]at h,λk x h=>by simp[noI]at h,λk k' o o' b h=>by simp[dz,av]at h,himm⟩
 refine CallsIn.mono (h.2 S w noI vs hb M hr) ?_
 rintro ex w' ⟨val,S',ι',rfl,M',R',T'⟩
 have hk:av (dz [AO.pmat m rc]) 0=some (.pmat m rc):=rfl;obtain⟨S3,M3,K3,T3⟩:=M'.freezeP hk;have hT:Tr 0 S w noI (dz []) S3 w' ι' _:=T'.trans (T3 0);have hno:∀b,¬owned noI (dz []) b:=λb ⟨k,o,h1,_⟩=>by simp[dz,av]at h1
 refine⟨val,S3,rfl,M3.imm,hT.keeps,?_,hT.below,λb hb=>hT.same b hb (hno b),λb j hb hs=>(hT.immN b j hb hs).resolve_right (hno b)⟩;have hv:Rep S' w' ι' (.tup [.rsl 0 0 r,.int .i64 e]) val:=R';cases hv with
 |tup _ _ vs hl hh=>
  refine .tup _ _ vs hl λi hi=>?_;have:i=0∨i=1:=by simp at hi;omega
  rcases this with rfl|rfl
  ·have h0:=hh 0 qqS
   simp only[aG]at h0⊢;generalize vs.getD 0 undef=v0 at h0
   cases h0 with
   |rsl _ _ _ _ b cap hk1 hc _=>
    obtain⟨b',e1,e2⟩:=M3.obj 0 (.cells (.gen m λi=>.isl (rc.at i) .none) true) (by rw[aW,if_pos rfl])
    rw[hk1]at e1;cases e1
    refine .isl _ _ _ _ _ _ hc (λj hj=>?_) (λj hj=>?_) (λh=>by cases h) (λk h=>by cases h)
    ·rw[alO];exact(e2 j (alp hj hrm)).1
    ·rw[alO];exact(e2 j (alp hj hrm)).2
   |rslz _ _ _ b o hk=>exact .islnil _ _ _ rfl
  ·have h0:=hh 1 qqS
   simp only[aG]at h0⊢;generalize vs.getD 1 undef=v0 at h0
   cases h0
   exact .int _ _ _
end Go.Eng
namespace Go.Eng.YtmkagljofpddpaaGreatDoor
open Go.Proofs
set_option maxRecDepth 100000
theorem aga:EqA Tryz.prog 170 [.int .i64] 121:=.struct Tryz.underlying170 Tryz.stoodInHeld170 (.cons (kf:=[.int .i64]) (rest:=[]) qqD rfl ((EqT.leaf (k:=.int .i64) Tryz.underlying3:EqT Tryz.prog 3 [.int .i64] 1).mono qqD) .nil)
theorem agb:EqA Tryz.prog 171 [.int .i64] 121:=.struct Tryz.underlying171 Tryz.stoodInHeld171 (.cons (kf:=[.int .i64]) (rest:=[]) qqD rfl ((EqT.leaf (k:=.int .i64) Tryz.underlying3:EqT Tryz.prog 3 [.int .i64] 1).mono qqD) .nil)
theorem agc:EqA Tryz.prog 308 [.str] 121:=.struct Tryz.underlying308 Tryz.stoodInHeld308 (.cons (kf:=[.str]) (rest:=[]) qqD rfl ((EqT.leaf (k:=.str) Tryz.underlying9:EqT Tryz.prog 9 [.str] 1).mono qqD) .nil)
theorem agd:EqA Tryz.prog 309 [.str] 121:=.struct Tryz.underlying309 Tryz.stoodInHeld309 (.cons (kf:=[.str]) (rest:=[]) qqD rfl ((EqT.leaf (k:=.str) Tryz.underlying9:EqT Tryz.prog 9 [.str] 1).mono qqD) .nil)
theorem agf:EqA Tryz.prog 107 [.int .i8,.int .i8] 121:=EqA.array (ke:=[.int .i8]) Tryz.underlying107 ((EqT.leaf (k:=.int .i8) Tryz.underlying106:EqT Tryz.prog 106 [.int .i8] 1).mono qqD) (Iw Tryz.typeInfo106) ⟨_,Tryz.underlying106⟩
theorem agh:EqA Tryz.prog 302 [.int .u8,.int .u8] 121:=.struct Tryz.underlying302 Tryz.stoodInHeld302 (.cons (kf:=[.int .u8]) (rest:=[.int .u8]) qqD rfl ((EqT.leaf (k:=.int .u8) Tryz.underlying5:EqT Tryz.prog 5 [.int .u8] 1).mono qqD) (.cons (kf:=[.int .u8]) (rest:=[]) qqD rfl ((EqT.leaf (k:=.int .u8) Tryz.underlying5:EqT Tryz.prog 5 [.int .u8] 1).mono qqD) .nil))
theorem agi:EqA Tryz.prog 303 [.int .u8,.int .u8] 121:=.struct Tryz.underlying303 Tryz.stoodInHeld303 (.cons (kf:=[.int .u8]) (rest:=[.int .u8]) qqD rfl ((EqT.leaf (k:=.int .u8) Tryz.underlying5:EqT Tryz.prog 5 [.int .u8] 1).mono qqD) (.cons (kf:=[.int .u8]) (rest:=[]) qqD rfl ((EqT.leaf (k:=.int .u8) Tryz.underlying5:EqT Tryz.prog 5 [.int .u8] 1).mono qqD) .nil))
theorem ajJ:EqA Tryz.prog 7 [.int .i64,.int .i64,.bool,.int .u8] 121:=.struct Tryz.underlying7 Tryz.stoodInHeld7 (.cons (kf:=[.int .i64]) (rest:=[.int .i64,.bool,.int .u8]) qqD rfl ((EqT.leaf (k:=.int .i64) Tryz.underlying2:EqT Tryz.prog 2 [.int .i64] 1).mono qqD) (.cons (kf:=[.int .i64]) (rest:=[.bool,.int .u8]) qqD rfl ((EqT.leaf (k:=.int .i64) Tryz.underlying3:EqT Tryz.prog 3 [.int .i64] 1).mono qqD) (.cons (kf:=[.bool]) (rest:=[.int .u8]) qqD rfl ((EqT.leaf (k:=.bool) Tryz.underlying4:EqT Tryz.prog 4 [.bool] 1).mono qqD) (.cons (kf:=[.int .u8]) (rest:=[]) qqD rfl ((EqT.leaf (k:=.int .u8) Tryz.underlying6:EqT Tryz.prog 6 [.int .u8] 1).mono qqD) .nil))))
theorem agj:EqA Tryz.prog 311 [.int .u64,.int .u64,.int .u64,.int .u64,.int .u64,.int .u64,.int .u64,.int .u64,.int .u64,.int .u64,.int .u64,.int .u64,.int .u64,.int .u64,.int .u64,.int .u64,.int .u64,.int .u64,.int .u64,.int .u64] 121:=EqA.array (ke:=[.int .u64]) Tryz.underlying311 ((EqT.leaf (k:=.int .u64) Tryz.underlying210:EqT Tryz.prog 210 [.int .u64] 1).mono qqD) (Iw Tryz.typeInfo210) ⟨_,Tryz.underlying210⟩
noncomputable def te0:TE:=aY Tryz.t0 Tryz.t0
theorem aiR:aM Tryz.prog 0 te0:=aQ Tryz.underlying0 Tryz.typeInfo0 rfl rfl rfl
noncomputable def te2:TE:=aY Tryz.t2 Tryz.t2
theorem aiS:aM Tryz.prog 2 te2:=aQ Tryz.underlying2 Tryz.typeInfo2 rfl rfl rfl
noncomputable def te3:TE:=aY Tryz.t3 Tryz.t3
theorem aiT:aM Tryz.prog 3 te3:=aQ Tryz.underlying3 Tryz.typeInfo3 rfl rfl rfl
noncomputable def te4:TE:=aY Tryz.t4 Tryz.t4
theorem aiU:aM Tryz.prog 4 te4:=aQ Tryz.underlying4 Tryz.typeInfo4 rfl rfl rfl
noncomputable def te5:TE:=aY Tryz.t5 Tryz.t5
theorem aiV:aM Tryz.prog 5 te5:=aQ Tryz.underlying5 Tryz.typeInfo5 rfl rfl rfl
noncomputable def te6:TE:=aY Tryz.t6 Tryz.t5
theorem aiW:aM Tryz.prog 6 te6:=aQ Tryz.underlying6 Tryz.typeInfo6 rfl rfl rfl
noncomputable def te7:TE:=lg Tryz.t7 Tryz.t7 [.int .i64,.int .i64,.bool,.int .u8]
theorem aiX:aM Tryz.prog 7 te7:=kK ⟨Tryz.eqGuardType7,_,qqD,ajJ⟩ Tryz.underlying7 Tryz.typeInfo7 rfl rfl rfl
noncomputable def te9:TE:=aY Tryz.t9 Tryz.t9
theorem aiY:aM Tryz.prog 9 te9:=aQ Tryz.underlying9 Tryz.typeInfo9 rfl rfl rfl
noncomputable def agk:TE:=aY Tryz.t12 Tryz.t12
theorem agl:aM Tryz.prog 12 agk:=aQ Tryz.underlying12 Tryz.typeInfo12 rfl rfl rfl
noncomputable def agm:TE:=aY Tryz.t13 Tryz.t13
theorem agn:aM Tryz.prog 13 agm:=aQ Tryz.underlying13 Tryz.typeInfo13 rfl rfl rfl
noncomputable def agp:TE:=aY Tryz.t14 Tryz.t13
theorem agq:aM Tryz.prog 14 agp:=aQ Tryz.underlying14 Tryz.typeInfo14 rfl rfl rfl
noncomputable def agr:TE:=aY Tryz.t16 Tryz.t16
theorem ags:aM Tryz.prog 16 agr:=aQ Tryz.underlying16 Tryz.typeInfo16 rfl rfl rfl
noncomputable def agt:TE:=aY Tryz.t20 Tryz.t20
theorem agu:aM Tryz.prog 20 agt:=aQ Tryz.underlying20 Tryz.typeInfo20 rfl rfl rfl
noncomputable def agv:TE:=aY Tryz.t21 Tryz.t21
theorem agw:aM Tryz.prog 21 agv:=aQ Tryz.underlying21 Tryz.typeInfo21 rfl rfl rfl
noncomputable def XI:TE:=aY Tryz.t22 Tryz.t22
theorem agx:aM Tryz.prog 22 XI:=aQ Tryz.underlying22 Tryz.typeInfo22 rfl rfl rfl
noncomputable def Qj:TE:=aY Tryz.t23 Tryz.t9
theorem agy:aM Tryz.prog 23 Qj:=aQ Tryz.underlying23 Tryz.typeInfo23 rfl rfl rfl
noncomputable def agz:TE:=aY Tryz.t24 Tryz.t24
theorem agA:aM Tryz.prog 24 agz:=aQ Tryz.underlying24 Tryz.typeInfo24 rfl rfl rfl
noncomputable def agB:TE:=aY Tryz.t25 Tryz.t3
theorem agC:aM Tryz.prog 25 agB:=aQ Tryz.underlying25 Tryz.typeInfo25 rfl rfl rfl
noncomputable def agD:TE:=aY Tryz.t26 Tryz.t26
theorem agE:aM Tryz.prog 26 agD:=aQ Tryz.underlying26 Tryz.typeInfo26 rfl rfl rfl
noncomputable def agF:TE:=aY Tryz.t28 Tryz.t28
theorem agG:aM Tryz.prog 28 agF:=aQ Tryz.underlying28 Tryz.typeInfo28 rfl rfl rfl
noncomputable def agH:TE:=aY Tryz.t32 Tryz.t32
theorem agI:aM Tryz.prog 32 agH:=aQ Tryz.underlying32 Tryz.typeInfo32 rfl rfl rfl
noncomputable def agJ:TE:=aY Tryz.t42 Tryz.t42
theorem agK:aM Tryz.prog 42 agJ:=aQ Tryz.underlying42 Tryz.typeInfo42 rfl rfl rfl
noncomputable def agL:TE:=aY Tryz.t51 Tryz.t51
theorem agM:aM Tryz.prog 51 agL:=aQ Tryz.underlying51 Tryz.typeInfo51 rfl rfl rfl
noncomputable def agN:TE:=aY Tryz.t53 Tryz.t53
theorem agO:aM Tryz.prog 53 agN:=aQ Tryz.underlying53 Tryz.typeInfo53 rfl rfl rfl
noncomputable def agP:TE:=aY Tryz.t56 Tryz.t56
theorem agQ:aM Tryz.prog 56 agP:=aQ Tryz.underlying56 Tryz.typeInfo56 rfl rfl rfl
noncomputable def agR:TE:=aY Tryz.t58 Tryz.t58
theorem agS:aM Tryz.prog 58 agR:=aQ Tryz.underlying58 Tryz.typeInfo58 rfl rfl rfl
noncomputable def agT:TE:=aY Tryz.t63 Tryz.t63
theorem agU:aM Tryz.prog 63 agT:=aQ Tryz.underlying63 Tryz.typeInfo63 rfl rfl rfl
noncomputable def agV:TE:=aY Tryz.t64 Tryz.t64
theorem agW:aM Tryz.prog 64 agV:=aQ Tryz.underlying64 Tryz.typeInfo64 rfl rfl rfl
noncomputable def agX:TE:=aY Tryz.t65 Tryz.t65
theorem agY:aM Tryz.prog 65 agX:=aQ Tryz.underlying65 Tryz.typeInfo65 rfl rfl rfl
noncomputable def XJ:TE:=aY Tryz.t67 Tryz.t67
theorem agZ:aM Tryz.prog 67 XJ:=aQ Tryz.underlying67 Tryz.typeInfo67 rfl rfl rfl
noncomputable def ag0:TE:=aY Tryz.t70 Tryz.t70
theorem ag1:aM Tryz.prog 70 ag0:=aQ Tryz.underlying70 Tryz.typeInfo70 rfl rfl rfl
noncomputable def ag2:TE:=aY Tryz.t85 Tryz.t85
theorem ag3:aM Tryz.prog 85 ag2:=aQ Tryz.underlying85 Tryz.typeInfo85 rfl rfl rfl
noncomputable def ag4:TE:=aY Tryz.t95 Tryz.t95
theorem ag5:aM Tryz.prog 95 ag4:=aQ Tryz.underlying95 Tryz.typeInfo95 rfl rfl rfl
noncomputable def Z9:TE:=aY Tryz.t106 Tryz.t106
theorem acf:aM Tryz.prog 106 Z9:=aQ Tryz.underlying106 Tryz.typeInfo106 rfl rfl rfl
noncomputable def aac:TE:=lg Tryz.t107 Tryz.t107 [.int .i8,.int .i8]
theorem acg:aM Tryz.prog 107 aac:=kK ⟨Tryz.eqGuardType107,_,qqD,agf⟩ Tryz.underlying107 Tryz.typeInfo107 rfl rfl rfl
noncomputable def aad:TE:=aY Tryz.t111 Tryz.t111
theorem ach:aM Tryz.prog 111 aad:=aQ Tryz.underlying111 Tryz.typeInfo111 rfl rfl rfl
noncomputable def aae:TE:=aY Tryz.t123 Tryz.t123
theorem aci:aM Tryz.prog 123 aae:=aQ Tryz.underlying123 Tryz.typeInfo123 rfl rfl rfl
noncomputable def aaf:TE:=aY Tryz.t125 Tryz.t125
theorem acj:aM Tryz.prog 125 aaf:=aQ Tryz.underlying125 Tryz.typeInfo125 rfl rfl rfl
noncomputable def aag:TE:=aY Tryz.t126 Tryz.t126
theorem acn:aM Tryz.prog 126 aag:=aQ Tryz.underlying126 Tryz.typeInfo126 rfl rfl rfl
noncomputable def Qk:TE:=aY Tryz.t127 Tryz.t126
theorem aco:aM Tryz.prog 127 Qk:=aQ Tryz.underlying127 Tryz.typeInfo127 rfl rfl rfl
noncomputable def aah:TE:=aY Tryz.t131 Tryz.t131
theorem acp:aM Tryz.prog 131 aah:=aQ Tryz.underlying131 Tryz.typeInfo131 rfl rfl rfl
noncomputable def qR:TE:=aY Tryz.t132 Tryz.t131
theorem acr:aM Tryz.prog 132 qR:=aQ Tryz.underlying132 Tryz.typeInfo132 rfl rfl rfl
noncomputable def aai:TE:=aY Tryz.t139 Tryz.t139
theorem acs:aM Tryz.prog 139 aai:=aQ Tryz.underlying139 Tryz.typeInfo139 rfl rfl rfl
noncomputable def aaj:TE:=aY Tryz.t143 Tryz.t143
theorem acu:aM Tryz.prog 143 aaj:=aQ Tryz.underlying143 Tryz.typeInfo143 rfl rfl rfl
noncomputable def aak:TE:=aY Tryz.t145 Tryz.t145
theorem acv:aM Tryz.prog 145 aak:=aQ Tryz.underlying145 Tryz.typeInfo145 rfl rfl rfl
noncomputable def aal:TE:=aY Tryz.t146 Tryz.t145
theorem acw:aM Tryz.prog 146 aal:=aQ Tryz.underlying146 Tryz.typeInfo146 rfl rfl rfl
noncomputable def aam:TE:=aY Tryz.t147 Tryz.t147
theorem acy:aM Tryz.prog 147 aam:=aQ Tryz.underlying147 Tryz.typeInfo147 rfl rfl rfl
noncomputable def Ql:TE:=aY Tryz.t150 Tryz.t150
theorem acz:aM Tryz.prog 150 Ql:=aQ Tryz.underlying150 Tryz.typeInfo150 rfl rfl rfl
noncomputable def aan:TE:=aY Tryz.t151 Tryz.t151
theorem acA:aM Tryz.prog 151 aan:=aQ Tryz.underlying151 Tryz.typeInfo151 rfl rfl rfl
noncomputable def Qm:TE:=aY Tryz.t153 Tryz.t153
theorem acB:aM Tryz.prog 153 Qm:=aQ Tryz.underlying153 Tryz.typeInfo153 rfl rfl rfl
noncomputable def aao:TE:=aY Tryz.t154 Tryz.t154
theorem acC:aM Tryz.prog 154 aao:=aQ Tryz.underlying154 Tryz.typeInfo154 rfl rfl rfl
noncomputable def aap:TE:=aY Tryz.t155 Tryz.t154
theorem acD:aM Tryz.prog 155 aap:=aQ Tryz.underlying155 Tryz.typeInfo155 rfl rfl rfl
noncomputable def aaq:TE:=aY Tryz.t157 Tryz.t157
theorem acE:aM Tryz.prog 157 aaq:=aQ Tryz.underlying157 Tryz.typeInfo157 rfl rfl rfl
noncomputable def aar:TE:=aY Tryz.t158 Tryz.t157
theorem acF:aM Tryz.prog 158 aar:=aQ Tryz.underlying158 Tryz.typeInfo158 rfl rfl rfl
noncomputable def aas:TE:=aY Tryz.t167 Tryz.t167
theorem acG:aM Tryz.prog 167 aas:=aQ Tryz.underlying167 Tryz.typeInfo167 rfl rfl rfl
noncomputable def aat:TE:=lg Tryz.t170 Tryz.t170 [.int .i64]
theorem acH:aM Tryz.prog 170 aat:=kK ⟨Tryz.eqGuardType170,_,qqD,aga⟩ Tryz.underlying170 Tryz.typeInfo170 rfl rfl rfl
noncomputable def aau:TE:=lg Tryz.t171 Tryz.t170 [.int .i64]
theorem acI:aM Tryz.prog 171 aau:=kK ⟨Tryz.eqGuardType171,_,qqD,agb⟩ Tryz.underlying171 Tryz.typeInfo171 rfl rfl rfl
noncomputable def aav:TE:=aY Tryz.t172 Tryz.t172
theorem acJ:aM Tryz.prog 172 aav:=aQ Tryz.underlying172 Tryz.typeInfo172 rfl rfl rfl
noncomputable def aaw:TE:=aY Tryz.t174 Tryz.t174
theorem acK:aM Tryz.prog 174 aaw:=aQ Tryz.underlying174 Tryz.typeInfo174 rfl rfl rfl
noncomputable def aax:TE:=aY Tryz.t175 Tryz.t174
theorem acL:aM Tryz.prog 175 aax:=aQ Tryz.underlying175 Tryz.typeInfo175 rfl rfl rfl
noncomputable def aay:TE:=aY Tryz.t182 Tryz.t182
theorem acM:aM Tryz.prog 182 aay:=aQ Tryz.underlying182 Tryz.typeInfo182 rfl rfl rfl
noncomputable def aaz:TE:=aY Tryz.t187 Tryz.t187
theorem acN:aM Tryz.prog 187 aaz:=aQ Tryz.underlying187 Tryz.typeInfo187 rfl rfl rfl
noncomputable def aaA:TE:=aY Tryz.t188 Tryz.t187
theorem acO:aM Tryz.prog 188 aaA:=aQ Tryz.underlying188 Tryz.typeInfo188 rfl rfl rfl
noncomputable def aaB:TE:=aY Tryz.t196 Tryz.t196
theorem acP:aM Tryz.prog 196 aaB:=aQ Tryz.underlying196 Tryz.typeInfo196 rfl rfl rfl
noncomputable def aaC:TE:=aY Tryz.t197 Tryz.t197
theorem acQ:aM Tryz.prog 197 aaC:=aQ Tryz.underlying197 Tryz.typeInfo197 rfl rfl rfl
noncomputable def aaD:TE:=aY Tryz.t199 Tryz.t199
theorem acR:aM Tryz.prog 199 aaD:=aQ Tryz.underlying199 Tryz.typeInfo199 rfl rfl rfl
noncomputable def aaE:TE:=aY Tryz.t205 Tryz.t205
theorem acS:aM Tryz.prog 205 aaE:=aQ Tryz.underlying205 Tryz.typeInfo205 rfl rfl rfl
noncomputable def qU:TE:=aY Tryz.t210 Tryz.t210
theorem acT:aM Tryz.prog 210 qU:=aQ Tryz.underlying210 Tryz.typeInfo210 rfl rfl rfl
noncomputable def aaF:TE:=aY Tryz.t211 Tryz.t211
theorem acU:aM Tryz.prog 211 aaF:=aQ Tryz.underlying211 Tryz.typeInfo211 rfl rfl rfl
noncomputable def aaG:TE:=aY Tryz.t215 Tryz.t215
theorem acV:aM Tryz.prog 215 aaG:=aQ Tryz.underlying215 Tryz.typeInfo215 rfl rfl rfl
noncomputable def aaH:TE:=aY Tryz.t216 Tryz.t216
theorem acW:aM Tryz.prog 216 aaH:=aQ Tryz.underlying216 Tryz.typeInfo216 rfl rfl rfl
noncomputable def aaI:TE:=aY Tryz.t219 Tryz.t219
theorem acX:aM Tryz.prog 219 aaI:=aQ Tryz.underlying219 Tryz.typeInfo219 rfl rfl rfl
noncomputable def aaJ:TE:=aY Tryz.t227 Tryz.t227
theorem acY:aM Tryz.prog 227 aaJ:=aQ Tryz.underlying227 Tryz.typeInfo227 rfl rfl rfl
noncomputable def aaK:TE:=aY Tryz.t229 Tryz.t229
theorem acZ:aM Tryz.prog 229 aaK:=aQ Tryz.underlying229 Tryz.typeInfo229 rfl rfl rfl
noncomputable def aaL:TE:=aY Tryz.t230 Tryz.t230
theorem ac0:aM Tryz.prog 230 aaL:=aQ Tryz.underlying230 Tryz.typeInfo230 rfl rfl rfl
noncomputable def aaM:TE:=aY Tryz.t236 Tryz.t236
theorem ac1:aM Tryz.prog 236 aaM:=aQ Tryz.underlying236 Tryz.typeInfo236 rfl rfl rfl
noncomputable def aaN:TE:=aY Tryz.t237 Tryz.t236
theorem ac2:aM Tryz.prog 237 aaN:=aQ Tryz.underlying237 Tryz.typeInfo237 rfl rfl rfl
noncomputable def aaO:TE:=aY Tryz.t238 Tryz.t238
theorem ac3:aM Tryz.prog 238 aaO:=aQ Tryz.underlying238 Tryz.typeInfo238 rfl rfl rfl
noncomputable def aaP:TE:=aY Tryz.t247 Tryz.t247
theorem ac4:aM Tryz.prog 247 aaP:=aQ Tryz.underlying247 Tryz.typeInfo247 rfl rfl rfl
noncomputable def aaQ:TE:=aY Tryz.t252 Tryz.t252
theorem ac5:aM Tryz.prog 252 aaQ:=aQ Tryz.underlying252 Tryz.typeInfo252 rfl rfl rfl
noncomputable def aaR:TE:=aY Tryz.t253 Tryz.t253
theorem ac6:aM Tryz.prog 253 aaR:=aQ Tryz.underlying253 Tryz.typeInfo253 rfl rfl rfl
noncomputable def aaS:TE:=aY Tryz.t256 Tryz.t256
theorem ac7:aM Tryz.prog 256 aaS:=aQ Tryz.underlying256 Tryz.typeInfo256 rfl rfl rfl
noncomputable def aaT:TE:=aY Tryz.t258 Tryz.t258
theorem ac8:aM Tryz.prog 258 aaT:=aQ Tryz.underlying258 Tryz.typeInfo258 rfl rfl rfl
noncomputable def aaU:TE:=aY Tryz.t259 Tryz.t258
theorem ac9:aM Tryz.prog 259 aaU:=aQ Tryz.underlying259 Tryz.typeInfo259 rfl rfl rfl
noncomputable def aaV:TE:=aY Tryz.t260 Tryz.t260
theorem ada:aM Tryz.prog 260 aaV:=aQ Tryz.underlying260 Tryz.typeInfo260 rfl rfl rfl
noncomputable def aaW:TE:=aY Tryz.t263 Tryz.t263
theorem adb:aM Tryz.prog 263 aaW:=aQ Tryz.underlying263 Tryz.typeInfo263 rfl rfl rfl
noncomputable def aaX:TE:=aY Tryz.t266 Tryz.t266
theorem ade:aM Tryz.prog 266 aaX:=aQ Tryz.underlying266 Tryz.typeInfo266 rfl rfl rfl
noncomputable def aaY:TE:=aY Tryz.t269 Tryz.t269
theorem adf:aM Tryz.prog 269 aaY:=aQ Tryz.underlying269 Tryz.typeInfo269 rfl rfl rfl
noncomputable def aaZ:TE:=aY Tryz.t270 Tryz.t270
theorem adg:aM Tryz.prog 270 aaZ:=aQ Tryz.underlying270 Tryz.typeInfo270 rfl rfl rfl
noncomputable def aa0:TE:=aY Tryz.t271 Tryz.t271
theorem adh:aM Tryz.prog 271 aa0:=aQ Tryz.underlying271 Tryz.typeInfo271 rfl rfl rfl
noncomputable def Qn:TE:=aY Tryz.t272 Tryz.t271
theorem adi:aM Tryz.prog 272 Qn:=aQ Tryz.underlying272 Tryz.typeInfo272 rfl rfl rfl
noncomputable def aa1:TE:=aY Tryz.t275 Tryz.t275
theorem adj:aM Tryz.prog 275 aa1:=aQ Tryz.underlying275 Tryz.typeInfo275 rfl rfl rfl
noncomputable def aa2:TE:=aY Tryz.t278 Tryz.t3
theorem adk:aM Tryz.prog 278 aa2:=aQ Tryz.underlying278 Tryz.typeInfo278 rfl rfl rfl
noncomputable def aa3:TE:=aY Tryz.t279 Tryz.t279
theorem adl:aM Tryz.prog 279 aa3:=aQ Tryz.underlying279 Tryz.typeInfo279 rfl rfl rfl
noncomputable def aa4:TE:=aY Tryz.t281 Tryz.t281
theorem adn:aM Tryz.prog 281 aa4:=aQ Tryz.underlying281 Tryz.typeInfo281 rfl rfl rfl
noncomputable def aa5:TE:=aY Tryz.t285 Tryz.t285
theorem ado:aM Tryz.prog 285 aa5:=aQ Tryz.underlying285 Tryz.typeInfo285 rfl rfl rfl
noncomputable def aa6:TE:=aY Tryz.t288 Tryz.t288
theorem adp:aM Tryz.prog 288 aa6:=aQ Tryz.underlying288 Tryz.typeInfo288 rfl rfl rfl
noncomputable def aa7:TE:=aY Tryz.t291 Tryz.t291
theorem adq:aM Tryz.prog 291 aa7:=aQ Tryz.underlying291 Tryz.typeInfo291 rfl rfl rfl
noncomputable def aa8:TE:=aY Tryz.t292 Tryz.t291
theorem adr:aM Tryz.prog 292 aa8:=aQ Tryz.underlying292 Tryz.typeInfo292 rfl rfl rfl
noncomputable def aa9:TE:=aY Tryz.t295 Tryz.t295
theorem ads:aM Tryz.prog 295 aa9:=aQ Tryz.underlying295 Tryz.typeInfo295 rfl rfl rfl
noncomputable def abb:TE:=aY Tryz.t297 Tryz.t297
theorem adt:aM Tryz.prog 297 abb:=aQ Tryz.underlying297 Tryz.typeInfo297 rfl rfl rfl
noncomputable def abd:TE:=aY Tryz.t299 Tryz.t299
theorem adu:aM Tryz.prog 299 abd:=aQ Tryz.underlying299 Tryz.typeInfo299 rfl rfl rfl
noncomputable def abe:TE:=aY Tryz.t301 Tryz.t301
theorem adv:aM Tryz.prog 301 abe:=aQ Tryz.underlying301 Tryz.typeInfo301 rfl rfl rfl
noncomputable def abf:TE:=lg Tryz.t302 Tryz.t302 [.int .u8,.int .u8]
theorem adw:aM Tryz.prog 302 abf:=kK ⟨Tryz.eqGuardType302,_,qqD,agh⟩ Tryz.underlying302 Tryz.typeInfo302 rfl rfl rfl
noncomputable def abg:TE:=lg Tryz.t303 Tryz.t302 [.int .u8,.int .u8]
theorem adx:aM Tryz.prog 303 abg:=kK ⟨Tryz.eqGuardType303,_,qqD,agi⟩ Tryz.underlying303 Tryz.typeInfo303 rfl rfl rfl
noncomputable def abh:TE:=aY Tryz.t304 Tryz.t304
theorem ady:aM Tryz.prog 304 abh:=aQ Tryz.underlying304 Tryz.typeInfo304 rfl rfl rfl
noncomputable def abj:TE:=aY Tryz.t307 Tryz.t307
theorem adz:aM Tryz.prog 307 abj:=aQ Tryz.underlying307 Tryz.typeInfo307 rfl rfl rfl
noncomputable def abk:TE:=lg Tryz.t308 Tryz.t308 [.str]
theorem adA:aM Tryz.prog 308 abk:=kK ⟨Tryz.eqGuardType308,_,qqD,agc⟩ Tryz.underlying308 Tryz.typeInfo308 rfl rfl rfl
noncomputable def abl:TE:=lg Tryz.t309 Tryz.t308 [.str]
theorem adB:aM Tryz.prog 309 abl:=kK ⟨Tryz.eqGuardType309,_,qqD,agd⟩ Tryz.underlying309 Tryz.typeInfo309 rfl rfl rfl
noncomputable def abm:TE:=lg Tryz.t311 Tryz.t311 [.int .u64,.int .u64,.int .u64,.int .u64,.int .u64,.int .u64,.int .u64,.int .u64,.int .u64,.int .u64,.int .u64,.int .u64,.int .u64,.int .u64,.int .u64,.int .u64,.int .u64,.int .u64,.int .u64,.int .u64]
theorem adC:aM Tryz.prog 311 abm:=kK ⟨Tryz.eqGuardType311,_,qqD,agj⟩ Tryz.underlying311 Tryz.typeInfo311 rfl rfl rfl
noncomputable def abn:TE:=aY Tryz.t312 Tryz.t312
theorem adD:aM Tryz.prog 312 abn:=aQ Tryz.underlying312 Tryz.typeInfo312 rfl rfl rfl
noncomputable def abo:TE:=aY Tryz.t316 Tryz.t316
theorem adE:aM Tryz.prog 316 abo:=aQ Tryz.underlying316 Tryz.typeInfo316 rfl rfl rfl
noncomputable def abp:TE:=aY Tryz.t317 Tryz.t317
theorem adF:aM Tryz.prog 317 abp:=aQ Tryz.underlying317 Tryz.typeInfo317 rfl rfl rfl
noncomputable def tab:TT:=(.node 171 (.node 65 (.node 22 (.node 9 (.node 4 (.node 2 (.leaf 0 te0) (.node 3 (.leaf 2 te2) (.leaf 3 te3))) (.node 6 (.node 5 (.leaf 4 te4) (.leaf 5 te5)) (.node 7 (.leaf 6 te6) (.leaf 7 te7)))) (.node 14 (.node 12 (.leaf 9 te9) (.node 13 (.leaf 12 agk) (.leaf 13 agm))) (.node 20 (.node 16 (.leaf 14 agp) (.leaf 16 agr)) (.node 21 (.leaf 20 agt) (.leaf 21 agv))))) (.node 42 (.node 25 (.node 23 (.leaf 22 XI) (.node 24 (.leaf 23 Qj) (.leaf 24 agz))) (.node 28 (.node 26 (.leaf 25 agB) (.leaf 26 agD)) (.node 32 (.leaf 28 agF) (.leaf 32 agH)))) (.node 56 (.node 51 (.leaf 42 agJ) (.node 53 (.leaf 51 agL) (.leaf 53 agN))) (.node 63 (.node 58 (.leaf 56 agP) (.leaf 58 agR)) (.node 64 (.leaf 63 agT) (.leaf 64 agV)))))) (.node 139 (.node 111 (.node 85 (.node 67 (.leaf 65 agX) (.node 70 (.leaf 67 XJ) (.leaf 70 ag0))) (.node 106 (.node 95 (.leaf 85 ag2) (.leaf 95 ag4)) (.node 107 (.leaf 106 Z9) (.leaf 107 aac)))) (.node 126 (.node 123 (.leaf 111 aad) (.node 125 (.leaf 123 aae) (.leaf 125 aaf))) (.node 131 (.node 127 (.leaf 126 aag) (.leaf 127 Qk)) (.node 132 (.leaf 131 aah) (.leaf 132 qR))))) (.node 153 (.node 146 (.node 143 (.leaf 139 aai) (.node 145 (.leaf 143 aaj) (.leaf 145 aak))) (.node 150 (.node 147 (.leaf 146 aal) (.leaf 147 aam)) (.node 151 (.leaf 150 Ql) (.leaf 151 aan)))) (.node 157 (.node 154 (.leaf 153 Qm) (.node 155 (.leaf 154 aao) (.leaf 155 aap))) (.node 167 (.node 158 (.leaf 157 aaq) (.leaf 158 aar)) (.node 170 (.leaf 167 aas) (.leaf 170 aat))))))) (.node 260 (.node 216 (.node 196 (.node 175 (.node 172 (.leaf 171 aau) (.node 174 (.leaf 172 aav) (.leaf 174 aaw))) (.node 187 (.node 182 (.leaf 175 aax) (.leaf 182 aay)) (.node 188 (.leaf 187 aaz) (.leaf 188 aaA)))) (.node 205 (.node 197 (.leaf 196 aaB) (.node 199 (.leaf 197 aaC) (.leaf 199 aaD))) (.node 211 (.node 210 (.leaf 205 aaE) (.leaf 210 qU)) (.node 215 (.leaf 211 aaF) (.leaf 215 aaG))))) (.node 238 (.node 229 (.node 219 (.leaf 216 aaH) (.node 227 (.leaf 219 aaI) (.leaf 227 aaJ))) (.node 236 (.node 230 (.leaf 229 aaK) (.leaf 230 aaL)) (.node 237 (.leaf 236 aaM) (.leaf 237 aaN)))) (.node 253 (.node 247 (.leaf 238 aaO) (.node 252 (.leaf 247 aaP) (.leaf 252 aaQ))) (.node 258 (.node 256 (.leaf 253 aaR) (.leaf 256 aaS)) (.node 259 (.leaf 258 aaT) (.leaf 259 aaU)))))) (.node 292 (.node 275 (.node 269 (.node 263 (.leaf 260 aaV) (.node 266 (.leaf 263 aaW) (.leaf 266 aaX))) (.node 271 (.node 270 (.leaf 269 aaY) (.leaf 270 aaZ)) (.node 272 (.leaf 271 aa0) (.leaf 272 Qn)))) (.node 281 (.node 278 (.leaf 275 aa1) (.node 279 (.leaf 278 aa2) (.leaf 279 aa3))) (.node 288 (.node 285 (.leaf 281 aa4) (.leaf 285 aa5)) (.node 291 (.leaf 288 aa6) (.leaf 291 aa7))))) (.node 304 (.node 299 (.node 295 (.leaf 292 aa8) (.node 297 (.leaf 295 aa9) (.leaf 297 abb))) (.node 302 (.node 301 (.leaf 299 abd) (.leaf 301 abe)) (.node 303 (.leaf 302 abf) (.leaf 303 abg)))) (.node 311 (.node 308 (.node 307 (.leaf 304 abh) (.leaf 307 abj)) (.node 309 (.leaf 308 abk) (.leaf 309 abl))) (.node 316 (.node 312 (.leaf 311 abm) (.leaf 312 abn)) (.node 317 (.leaf 316 abo) (.leaf 317 abp))))))))
theorem ak:bC Tryz.prog tab.get:=Xr ⟨⟨⟨⟨⟨⟨aiR,⟨aiS,aiT⟩⟩,⟨⟨aiU,aiV⟩,⟨aiW,aiX⟩⟩⟩,⟨⟨aiY,⟨agl,agn⟩⟩,⟨⟨agq,ags⟩,⟨agu,agw⟩⟩⟩⟩,⟨⟨⟨agx,⟨agy,agA⟩⟩,⟨⟨agC,agE⟩,⟨agG,agI⟩⟩⟩,⟨⟨agK,⟨agM,agO⟩⟩,⟨⟨agQ,agS⟩,⟨agU,agW⟩⟩⟩⟩⟩,⟨⟨⟨⟨agY,⟨agZ,ag1⟩⟩,⟨⟨ag3,ag5⟩,⟨acf,acg⟩⟩⟩,⟨⟨ach,⟨aci,acj⟩⟩,⟨⟨acn,aco⟩,⟨acp,acr⟩⟩⟩⟩,⟨⟨⟨acs,⟨acu,acv⟩⟩,⟨⟨acw,acy⟩,⟨acz,acA⟩⟩⟩,⟨⟨acB,⟨acC,acD⟩⟩,⟨⟨acE,acF⟩,⟨acG,acH⟩⟩⟩⟩⟩⟩,⟨⟨⟨⟨⟨acI,⟨acJ,acK⟩⟩,⟨⟨acL,acM⟩,⟨acN,acO⟩⟩⟩,⟨⟨acP,⟨acQ,acR⟩⟩,⟨⟨acS,acT⟩,⟨acU,acV⟩⟩⟩⟩,⟨⟨⟨acW,⟨acX,acY⟩⟩,⟨⟨acZ,ac0⟩,⟨ac1,ac2⟩⟩⟩,⟨⟨ac3,⟨ac4,ac5⟩⟩,⟨⟨ac6,ac7⟩,⟨ac8,ac9⟩⟩⟩⟩⟩,⟨⟨⟨⟨ada,⟨adb,ade⟩⟩,⟨⟨adf,adg⟩,⟨adh,adi⟩⟩⟩,⟨⟨adj,⟨adk,adl⟩⟩,⟨⟨adn,ado⟩,⟨adp,adq⟩⟩⟩⟩,⟨⟨⟨adr,⟨ads,adt⟩⟩,⟨⟨adu,adv⟩,⟨adw,adx⟩⟩⟩,⟨⟨⟨ady,adz⟩,⟨adA,adB⟩⟩,⟨⟨adC,adD⟩,⟨adE,adF⟩⟩⟩⟩⟩⟩⟩
theorem mixed:Tryz.prog.follows .mixedOrders=true:=qqR
end Go.Eng.YtmkagljofpddpaaGreatDoor
