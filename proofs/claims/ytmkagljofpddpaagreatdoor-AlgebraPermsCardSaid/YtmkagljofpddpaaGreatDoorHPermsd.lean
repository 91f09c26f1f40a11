/- Contracts of functions of the program: what each returns. Their conditions stand in them. -/
import Derived.Shelf.Slices.Delete
import Derived.LoopTactic
import Derived.Laws.RangeAny
import Derived.Tactics2
import Derived.ProofKit
import Derived.OpenShut
import Derived.Deep.Grids
import Derived.LaidMore
import Derived.Stop.Joined
import Derived.Stop.LaidErr
import Derived.Lib.LaidTab
import Derived.MakeChecks
import Derived.Lay
import Derived.Test.YtmkagljofpddpaaGreatDoorProg
import Derived.Test.YtmkagljofpddpaaGreatDoorCards
import Derived.Test.YtmkagljofpddpaaGreatDoorTie
import Derived.Test.YtmkagljofpddpaaGreatDoorHPermsc
open Array renaming getElem?_eq_getElem→ajK,getD_eq_getD_getElem?→ajN,getElem?_eq_none→ajH,getElem?_modify→ajL
open Bool renaming and_eq_true→aj0,not_eq_true'→akp,not_true→aku,not_false→akt,eq_false_iff→an0,eq_iff_iff→anx,false_eq_true→akC
open Int renaming emod_nonneg→anr,emod_lt_of_pos→ant,tmod_eq_emod_of_nonneg→anu,toNat_natCast→alR,natAbs_natCast→anb,natCast_mul→amk,ofNat_le→an7,mul_one→an9
open List renaming length_map→anP,take_length→alS,replicate→ajZ,getElem?_drop→akX,length_eq_zero_iff→ak6,mem_map→anW,size_toArray→am1,getD_eq_getElem?_getD→ajQ,getElem?_eq_getElem→ajV,length_eraseIdx_of_lt→an4,length_append→akY,length_cons→ajA,length_nil→ajw,range→ajO,range_succ→am4,length_drop→akW,length_take→akw,take→amM,drop→amN,mem_range→aly,append_nil→an8
open Nat renaming sub_zero→anU,mul_one→aj9,lt_or_ge→ajG,lt_of_lt_of_le→ajF,zero_add→aj2,zero_le→akA,mul_le_mul→akM,pow_le_pow_right→alW,le_trans→ajI,pow_succ'→an5,div_lt_of_lt_mul→an6,le_refl→ajE
open Option renaming map_some→ajM
namespace Go.Eng.YtmkagljofpddpaaGreatDoor
open Go.Proofs Go.Eng.Pm
set_option linter.unusedSimpArgs false
set_option linter.unusedVariables false
set_option maxHeartbeats 0
set_option maxRecDepth 100000
def hsP (p:List Int) (k:Int) (l:List (List Int)):Nat→List (Nat × AO):=fun i=>[(5,.cells (.ints .i64 (gG p k (l.take i))) false)]
theorem LH (p:List Int) (k:Int) (hk: -9223372036854775808≤k∧k≤9223372036854775807) (hp:p.length≤1000000) (h:dB 5 p=0):aD Tryz.prog 83 [.isl (.ints .i64 p) .none,.int .i64 k] (.tup [.isl (.ints .i64 (pwL p k)) .none,.int .i64 0]):=by
 have hP:=oz (by decide) h
 have hI:=wZ p hP hp;have hcl:=DX p;have hall0:=Kt hP k;have hge:∀i,i<(cys p).length→∃x,x<p.length∧hd p x=true∧(cys p).getD i []=cyc p x:=fun i hi=>DW hi;generalize cys p=l at hI hcl hge hall0⊢
 refine ay (md:=1) (rf:=[]) mixed av nk Tryz.func83 (by rfl) (by rfl) (by rfl) ?_
 repeat'((conv=>whnf);first|(intro hq;(try simp only[vw]at hq);try exact ak hq)|apply aI|exact aj|apply nM|apply fM)
 all_goals((try apply vM);(try simp only[vq]at*);try omega)
 all_goals(try contradiction)
 all_goals try exact .inl trivial
 conv=>whnf
 refine zh aJ mixed av nk (fun r=>aR) (fs:=[]) (cs:=[.ip (.pv [.isl (.ints .i64 p) .none]) 0]) (l.map zQ) (fun _=>true) (hsP p k l) (by rfl) (by rfl) (by rfl) hI (by rfl) (by rfl) (by rfl) (by rfl) ?_ ?_ ?_
 ·unfold hsP
  rw[List.take_zero,zS]
  repeat'((conv=>whnf);first|intro _|apply aI|exact aj|apply nM|apply fM)
  all_goals((try apply vM);(try simp only[vq]at*);try omega)
  all_goals first|exact zS p k
 ·intro hall
  rw[anP]
  repeat'((conv=>whnf);first|intro _|apply aI|exact aj|apply nM|apply fM)
  all_goals((try apply vM);(try simp only[vq]at*);try omega)
  all_goals(try rw[alS])
  all_goals(try rw[hall0])
  all_goals first|(rw[show(pwL p k).length=p.length by simp[pwL]];omega)|exact Ko _ _ _ _ (by simp[pwL])
 ·intro i x hx hall lp
  obtain⟨hi,rfl⟩:=zT hx;obtain⟨x,hx1,hx2,hx3⟩:=hge i hi;obtain⟨p1,p2,p3,p4⟩:=fB hP hx1;have hcl:=mZ p x;have hpn:=fun t (ht:t<per p x)=>VI (p:=p) (x:=x) ht;have hpl:=fun t (ht:t<per p x)=>wU p x t ht;have hpt:=fun t=>jA hP hx1 t;have hpa:=fun t (ht:t<per p x)=>aaX hP hx1 ht k;obtain⟨w1,w2,w3⟩:=nW k (per p x:Nat) (by omega)
  have htake:=FC (p:=p) k l i hi (cyc p x) hx3;have hm0:=anr k (show((per p x:Nat):Int)≠0 by omega)
  have hm1:=ant k (show 0<((per p x:Nat):Int) by omega)
  rw[hx3];rw[hcl]at htake;generalize hcc:cyc p x=c at*
  generalize hnn:per p x=n at*
  subst hcl;obtain⟨n,hn⟩:∃n,n=c.length:=⟨_,rfl⟩;obtain⟨r,hr⟩:∃r,k % (c.length:Int)=r:=⟨_,rfl⟩;rw[hr]at w1 hm0 hm1;simp only[hr]at hpa;have hp2:=Kr (p:=p) k (l.take i) c
  repeat'((conv=>whnf);first|(intro hq;(try simp only[vw]at hq);try exact ak hq)|apply aI|exact aj|apply nM|apply fM)
  all_goals((try apply vM);(try simp only[vq]at*);try omega)
  conv=>whnf
  refine aU (X:=Nat) (fun t=>t≤c.length) (fun t=>[(27,.int .i64 t),(10,.any),(11,.any)]) (fun t=>[(5,.cells (.ints .i64 (gG p k (l.take i++[c.take t]))) false)]) (fun t=>c.length-t) 0 ⟨aJ,mixed,av,nk,aR⟩ (by rfl) (by omega) ?_ ?_
  ·have:gG p k (l.take i++[c.take 0])=gG p k (l.take i):=Kq _ _ _
   rw[this];all_goals exact aW
  intro t ht;have hsl:=zR p k (l.take i++[c.take t]);by_cases hlt:t<c.length
  ·have a1:=hpn t hlt
   have a2:=hpl t hlt;have a3:=hpt t;have a4:=hpa t hlt;have a5:=hp2 t (by omega) a1
   have a6:((t:Int)+r).tmod c.length=((t:Int)+r) % c.length:=anu (by omega)
   have a7:=anr ((t:Int)+r) (show(c.length:Int)≠0 by omega)
   have a8:=ant ((t:Int)+r) (show 0<(c.length:Int) by omega)
   clear hpn hpl hpt hpa hp2 hge;have b1:∀z:Int,((t:Int)+z)=t+z:=fun _=>rfl
   repeat'((conv=>whnf);first|(intro hq;(try simp only[vw]at hq);try exact ak hq)|apply aI|exact aj|apply nM|apply fM)
   all_goals((try apply vM);(try simp only[vq]at*);try omega)
   all_goals(try simp only[w1,a6,a4,a5])
   all_goals first
    |omega
    |(refine⟨t+1,[],⟨by omega,by omega⟩,?_⟩
      all_goals exact aW)
  ·have:t=c.length:=by omega
   subst this;rw[htake]
   repeat'((conv=>whnf);first|(intro hq;(try simp only[vw]at hq);try exact ak hq)|apply aI|exact aj|apply nM|apply fM)
   all_goals((try apply vM);(try simp only[vq]at*);try omega)
   all_goals first
    |omega
    |(refine⟨[],?_⟩
      all_goals exact aW)
theorem Cg (p:List Int) (k:Int) (hk: -9223372036854775808≤k∧k≤9223372036854775807) (hp:p.length≤1000000):aD Tryz.prog 83 [.isl (.ints .i64 p) .none,.int .i64 k] (.tup [.isl (.ints .i64 (if dB 5 p=0 then pwL p k else [])) .none,.int .i64 (dB 5 p)]):=by
 by_cases h:dB 5 p=0
 ·rw[if_pos h,h];exact LH p k hk hp h
 ·rw[if_neg h]
  refine ay (md:=1) (rf:=[]) mixed av nk Tryz.func83 (by rfl) (by rfl) (by rfl) ?_
  all_goals exact EW
end Go.Eng.YtmkagljofpddpaaGreatDoor
namespace Go.Proofs
open Go.Shelf Go.RowKit Go.Lib Go.Sort
def Tryz.laysNm223_ren:Go.Shelf.Ren:=⟨fun|23=>121|n=>n,fun|22=>22|3=>3|4=>4|0=>0|n=>n,fun|n=>n⟩
theorem Tryz.laysNm223:Go.Proofs.Lays2.n23 Tryz.prog Tryz.laysNm223_ren:={
 mixed:=by kernel_rfl
 f23:=Tryz.func121.trans (congrArg some (by kernel_rfl))
 t0:=Tryz.underlying0
 a0:=Tryz.isAgg0
 z0:=Tryz.sizeOf0
 v0:=Tryz.zeroValue0
 t3:=Tryz.underlying3
 a3:=Tryz.isAgg3
 z3:=Tryz.sizeOf3
 v3:=Tryz.zeroValue3
 t4:=Tryz.underlying4
 a4:=Tryz.isAgg4
 z4:=Tryz.sizeOf4
 v4:=Tryz.zeroValue4
 t22:=Tryz.underlying22
 a22:=Tryz.isAgg22
 z22:=Tryz.sizeOf22
 v22:=Tryz.zeroValue22
 i3:=by kernel_rfl}
section
variable {P:Program} {ρ:Ren}
set_option maxHeartbeats 4000000 in
set_option maxRecDepth 1000000 in
theorem agY (L:Lays2.n23 P ρ) (blk off cap i j:Nat) (d:Array Int) (w:World) (hH:Holds encI w blk off d) (hcap:d.size≤cap) (hij:i≤j) (hj:j≤d.size):
 Calls P (ρ.f 23) #[.slice (some ⟨blk,off,none⟩) d.size cap,.int .i64 i,.int .i64 j] w fun e w'=>e=.returned (.slice (some ⟨blk,off,none⟩) (d.size-(j-i)) cap)∧∃q,w'=putRow encI (Sort.ahead w q) blk off (d.toList.take i++d.toList.drop j++ajZ (j-i) 0).toArray:=by
 have mixed:=L.mixed;have t0:=L.t0;have a0:=L.a0;have z0:=L.z0;have v0:=L.v0;have t3:=L.t3;have a3:=L.a3;have z3:=L.z3;have v3:=L.v3;have t4:=L.t4;have a4:=L.a4;have z4:=L.z4;have v4:=L.v4;have t22:=L.t22;have a22:=L.a22;have z22:=L.z22;have v22:=L.v22;obtain⟨i0,hi0,hz0,hz1,hz2⟩:=info_parts L.i3;by_cases heq:i=j
 ·subst heq
  have h0:Calls P (ρ.f 23) #[.slice (some ⟨blk,off,none⟩) d.size cap,.int .i64 i,.int .i64 i] w fun e w'=>e=.returned (.slice (some ⟨blk,off,none⟩) d.size cap)∧w'=w:=by
   clear hH
   go_enter L.f23,Body2.n23_ntmps ρ
   go_wp2
   all_goals(go_ret;exact⟨rfl,rfl⟩)
  refine h0.mono ?_
  rintro e w' ⟨rfl,rfl⟩
  have e:(d.toList.take i++d.toList.drop i++ajZ (i-i) 0).toArray=d:=by simp
  refine⟨by rw[Nat.sub_self,anU],0,?_⟩
  rw[e];exact(putRow_self encI (Sort.ahead w' 0) blk off d hH).symm
 ·have hlt:i<j:=by omega
  obtain⟨news,hnews⟩:∃news,news=(d.toList.drop j).map encI:=⟨_,rfl⟩;have hlen:news.length=d.size-j:=by rw[hnews];simp
  have hget:∀t,t<d.size-j→news[t]? =some (encI d[j+t]!):=by
   intro t ht;rw[hnews,List.getElem?_map,akX,Array.getElem?_toList,getElem!_pos d (j+t) (by omega),ajK (by omega)]
   rfl
  obtain⟨A,hA,hsrc⟩:∃A:Addr,(if cap=j then some (⟨blk,off,none⟩:Addr)else some ⟨blk,off+j,none⟩)=some A∧Hid (∀t u,news[t]? =some u→w.drew.cell? (A.add t)=some u):=by
   by_cases h:cap=j
   ·refine⟨⟨blk,off,none⟩,by simp[h],fun t u hu=>?_⟩
    have h0:news.length=0:=by rw[hlen];omega
    rw[ak6.1 h0]at hu;simp at hu
   ·refine⟨⟨blk,off+j,none⟩,by simp[h],fun t u hu=>?_⟩
    have ht:t<d.size-j:=by
     have:=(List.getElem?_eq_some_iff.1 hu).1
     rwa [hlen]at this
    rw[hget t ht]at hu;rw[Addr.add_lit,show off+j+t=off+(j+t) by omega]
    exact(hH (j+t) (by omega)).1.trans hu
  have s1:Hid (news.length=(d.size-j)*1):=by rw[aj9];exact hlen
  have s2:Hid (∀u∈news,u.oneCell'=true):=by
   intro u hu;rw[hnews]at hu;obtain⟨x,_,rfl⟩:=anW.1 hu;rfl
  have s3:Hid (∀t,t<news.length→(w.drew.cell? ⟨blk,off+i*1+t,none⟩).isSome=true∧w.drew.frozen? ⟨blk,off+i*1+t,none⟩=false):=by
   intro t ht;rw[hlen]at ht;rw[aj9,Nat.add_assoc];exact⟨by show(w.cell? _).isSome=true;rw[(hH (i+t) (by omega)).1];rfl,(hH (i+t) (by omega)).2⟩
  obtain⟨W1,hW1⟩:∃W1,W1=w.drew.setCells blk (off+i*1) news:=⟨_,rfl⟩;have hW1':W1=putRow encI (Sort.ahead w 1) blk off (lay d i (d.toList.drop j)):=by
   rw[hW1,hnews,aj9,←putRow_setCells encI (Sort.ahead w 1) blk off _ d i (by simp;omega),putRow_self encI (Sort.ahead w 1) blk off d (holds_ahead encI w 1 blk off d hH)]
   rfl
  have hH1:Holds encI W1 blk off (lay d i (d.toList.drop j)):=by rw[hW1'];exact holds_putRow encI _ blk off d _ (holds_ahead encI w 1 blk off d hH) (lay_size _ _ _)
  have hcl:∀ty,(Builtin.clear_ #[ρ.t 22] ty #[.slice (some ⟨blk,off+(i+(d.size-j)),none⟩) (d.size-(i+(d.size-j))) (cap-(i+(d.size-j)))]).run P W1=.ok (.tuple #[]) (W1.setCells blk (off+(i+(d.size-j))) (ajZ (d.size-(i+(d.size-j))) (encI 0))):=
   fun ty=>Lib.run_clear_slice W1 _ _ ty _ t22 v3 rfl rfl blk (off+(i+(d.size-j))) _ _ (by omega) (fun t ht=>by rw[show off+(i+(d.size-j))+t=off+(i+(d.size-j)+t) by omega,(hH1 _ (by rw[lay_size];omega)).1];rfl) (fun t ht=>by rw[show off+(i+(d.size-j))+t=off+(i+(d.size-j)+t) by omega];exact(hH1 _ (by rw[lay_size];omega)).2)
  have X:Aside (W1=putRow encI (Sort.ahead w 1) blk off (lay d i (d.toList.drop j))):=hW1';have hW:Hid (W1=w.drew.setCells blk (off+i*1) news):=hW1;have hic:i≤cap:=by omega
  have hjc:j≤cap:=by omega
  clear hW1 hW1' hH1 hH hget hnews hlen
  go_enter L.f23,Body2.n23_ntmps ρ
  go_wp2_with fail
  go_region_law_o (refine step_append_room rfl (.tmp 22) (.tmp 25) (ρ.t 22) rfl (ρ.t 3) i0 1 t22 hi0 hz1 blk off i cap (by simp[Act.eval,Act.put]) A (d.size-j) (cap-j) news (by simp[Act.eval,Act.put]) s1.out hsrc.out s2.out (by omega) s3.out ?_;rw[←hW.out])
  go_wp2
  go_ret
  refine⟨by rw[show d.size-(j-i)=i+(d.size-j) by omega];rfl,1,?_⟩
  rw[←delete_arr d i j 0 hij hj,←putRow_setCells encI _ blk off _ _ (i+(d.size-j)) (by rw[lay_size];simp;omega),←X.out,List.map_replicate,show d.size-(i+(d.size-j))=j-i by omega]
end
end Go.Proofs
namespace Go.Eng.YtmkagljofpddpaaGreatDoor
open Go.Proofs Go.RowKit Go.Sort Go.Shelf
set_option linter.unusedSimpArgs false
set_option linter.unusedVariables false
set_option maxHeartbeats 0
set_option maxRecDepth 100000
theorem VN (blk off cap i:Nat) (zs:List Int) (w:World) (hH:Holds (Value.int .i64) w blk off zs.toArray) (hcap:zs.length≤cap) (hj:i<zs.length):
 Calls Tryz.prog 121 #[.slice (some ⟨blk,off,none⟩) zs.length cap,.int .i64 i,.int .i64 ((i+1:Nat):Int)] w fun e w'=>e=.returned (.slice (some ⟨blk,off,none⟩) (zs.length-1) cap)∧∃q,w'=Sort.putRow (Value.int .i64) (Sort.ahead w q) blk off (zs.eraseIdx i++[0]).toArray:=by
 have h:=agY Tryz.laysNm223 blk off cap i (i+1) zs.toArray w hH (by simpa using hcap) (by omega) (by rw[am1];omega)
 change Calls Tryz.prog 121 _ _ _ at h;have e:i+1-i=1:=by omega
 rw[e]at h;rw[List.eraseIdx_eq_take_drop_succ];simp only[am1]at h;exact h
def RF:CT:=fun args n H K=>match args with
 | [p,q,r]=>match p with
  |.rsl k off m=>match q with
   |.int q1 a=>match r with
    |.int q2 b=>bR H k fun o=>match o with
     |.cells c fz=>match fz with
      |true=>False
      |false=>match c with
       |.ints q xs=>ifK (decide (q=.i64)&&(decide (q1=.i64)&&(decide (q2=.i64)&&Nat.beq off 0))) (VC (m=xs.length∧0≤a∧a<m∧b=a+1)∧K (.rsl k 0 (m-1)) [(k,.cells (.ints .i64 (xs.eraseIdx a.toNat)) false)] [k] [])
       |_=>False
     |_=>False
    |_=>False
   |_=>False
  |_=>False
 |_=>False
theorem YZ:COK Tryz.prog 121 RF:=by
 intro args n H K hk;unfold RF at hk;split at hk
 ·split at hk
  ·rename_i k off m
   split at hk
   ·rename_i q1 a
    split at hk
    ·rename_i q2 b2
     rw[bF]at hk;obtain⟨ob,hob,hk⟩:=hk;split at hk
     ·rename_i c fz
      split at hk
      ·exact hk.elim
      ·split at hk
       ·rename_i q xs
        simp only[aL,aj0,decide_eq_true_eq]at hk;obtain⟨⟨rfl,rfl,rfl,hoff⟩,⟨⟨rfl,ha0,ham,rfl⟩⟩,hk⟩:=hk;have hoff:=Nat.eq_of_beq_eq_true hoff;subst hoff;obtain⟨i,rfl⟩:=Int.eq_ofNat_of_zero_le ha0;rw[alR]at hk;have him:i<xs.length:=by omega
        refine⟨_,_,_,[],hk,.inl ⟨enters' Tryz.func121 (by rfl) (by rfl),fun S w ι H' vs _ M hr ha _=>?_⟩⟩
        have hob':=(ha k (by simp)).trans hob
        obtain⟨b,arr,e,g1,g2,g3,g4,g5⟩:=M.obj k _ hob';have hsz:vs.size=3:=hr.1.symm;have hv0:∃cap,vs= #[.slice (some ⟨b,0,none⟩) xs.length cap,.int .i64 i,.int .i64 ((i+1:Nat):Int)]∧xs.length≤cap∧∀j,j<cap→(rd w b j).isSome:=by
         have h0:=hr.2 0 (by simp)
         have h1:=hr.2 1 (by simp)
         have h2:=hr.2 2 (by simp)
         simp only[aH]at h0 h1 h2;have hvs:vs= #[vs.getD 0 undef,vs.getD 1 undef,vs.getD 2 undef]:=by
          apply Array.ext (by simp[hsz])
          intro j h1 h2;have:j=0∨j=1∨j=2:=by omega
          rcases this with rfl|rfl|rfl<;>simp[ajN,h1]
         rw[hvs];generalize vs.getD 0 undef=v0 at h0
         generalize vs.getD 1 undef=v1 at h1
         generalize vs.getD 2 undef=v2 at h2
         cases h1
         cases h2
         generalize hml:xs.length=ml at h0
         cases h0 with
         |rsl _ _ _ _ b' cap hk' hc hrd=>rw[g1]at hk';cases hk';exact⟨cap,rfl,hc,hrd rfl⟩
         |rslz _ _ _ b' o hk'=>omega
        obtain⟨cap,rfl,hcap,hcr⟩:=hv0;have hbw:b<w.heap.size:=by
         rcases ajG b w.heap.size with h6|h6
         ·exact h6
         ·rw[ajH h6]at g2;cases g2
        have hg4:∀j,j<xs.length→arr[j]? =some (.int .i64 (xs.getD j 0)):=fun j hj=>by
         have h7:=g4 j hj;have h8:j<arr.size:=ajF hj g3;rw[ajN,ajK h8]at h7;rw[ajK h8];simp only[CL.get,Option.getD_some]at h7;generalize arr[j]=y at h7
         cases h7;rfl
        have hH:Holds (Value.int .i64) w b 0 xs.toArray:=fun j hj=>by
         have hj':j<xs.length:=by simpa using hj
         rw[aj2];refine⟨?_,by simp[World.frozen?,g2]⟩
         rw[iM,aK g2,hg4 j hj'];simp[ajQ,ajV hj']
        refine(callsIn_wide.2 (VN b 0 cap i xs w hH hcap him)).mono ?_
        rintro ex w' ⟨rfl,n',hw'⟩
        have hel:(xs.eraseIdx i).length=xs.length-1:=an4 him;obtain⟨arr',harr,hsz',hget⟩:∃arr',w'.heap[b]? =some (.cells arr' e (0,0))∧arr'.size=arr.size∧∀j,j<xs.length-1→arr'[j]? =some (.int .i64 ((xs.eraseIdx i).getD j 0)):=by
         refine⟨putCells (Value.int .i64) 0 (xs.eraseIdx i++[0]).toArray arr,?_,by simp[putCells],fun j hj=>?_⟩
         ·rw[hw']
          show(mapBlock (Sort.ahead w n') b _).heap[b]? =_;simp only[mapBlock,Sort.ahead,ajL,if_true,g2,ajM,onCells];try rfl
         ·have h8:j<arr.size:=ajF (show j<xs.length by omega) g3
          have h9:j<(xs.eraseIdx i++[0]).length:=by rw[akY,hel,ajA,ajw];omega
          simp only[putCells,Array.getElem?_mapIdx,ajK h8,ajM,akA,aj2,true_and,am1,if_pos h9,anU];have h10:j<(xs.eraseIdx i).length:=by omega
          simp[ajQ,List.getElem?_append_left h10,ajV h10]
        have hoth:∀b',b'<w.heap.size→b'≠b→w'.heap[b']? =w.heap[b']? :=fun b' h1 h2=>by
         rw[hw'];show(mapBlock (Sort.ahead w n') b _).heap[b']? =_;simp only[mapBlock,Sort.ahead,ajL,if_neg (Ne.symm h2)]
        have hbel:Bel w w':=by
         have hlen0:∀b0,b0<w.heap.size→bsz w' b0=bsz w b0:=fun b0 hb0=>by
          by_cases e0:b0=b
          ·subst e0;unfold bsz;rw[harr,g2];simp[hsz']
          ·exact gq (hoth b0 hb0 e0)
         rw[hw']at hlen0⊢;exact⟨rfl,rfl,rfl,by simp[Sort.putRow,mapBlock,Sort.ahead],hlen0⟩
        obtain⟨M',K',T'⟩:=M.write' (c':=.ints .i64 (xs.eraseIdx i)) hob' g1 g2 hbel hoth harr (by omega) (by simp only[CL.ncell,hel];simp only[CL.ncell]at g3;omega) (fun j hj=>by
         simp only[CL.ncell,hel]at hj;rw[ajN,hget j hj];exact .int _ _ _)
        refine⟨_,S,ι,rfl,M',.refl _,K',.rsl _ _ _ _ b cap g1 (by omega) (fun _ j hj=>?_),T'⟩
        have:=hcr j hj;rw[aK g2]at this;rw[aK harr];have h11:j<arr.size:=by
         rcases ajG j arr.size with h1|h1
         ·exact h1
         ·rw[ajH h1]at this;simp at this
        rw[ajK (by omega)];rfl
       ·exact hk.elim
     ·exact hk.elim
    ·exact hk.elim
   ·exact hk.elim
  ·exact hk.elim
 ·exact hk.elim
end Go.Eng.YtmkagljofpddpaaGreatDoor
namespace Go.Eng.YtmkagljofpddpaaGreatDoor
open Go.Proofs Go.Eng.Dig Go.Eng.Dec Go.Eng.Pm
set_option linter.unusedSimpArgs false
set_option linter.unusedVariables false
set_option maxHeartbeats 0
set_option maxRecDepth 100000
def fac:Nat→Nat
 |0=>1
 |n+1=>fac n*(n+1)
theorem Og:∀n,0<fac n:=by
 intro n;induction n with
 |zero=>decide
 |succ n ih=>exact Nat.mul_pos ih (by omega)
theorem VO:∀n,n≤256→fac n≤256 ^ n:=by
 intro n;induction n with
 |zero=>intro _;decide
 |succ n ih=>
  intro h;rw[fac,Nat.pow_succ];exact akM (ih (by omega)) h
theorem agZ:256 ^ 260<W ^ 40:=by decide+kernel
set_option exponentiation.threshold 4000 in
theorem aaY {n:Nat} (h:n≤256):Lw (fac n)≤40:=by
 refine qM ?_;have h1:=VO n h;have h2:256 ^ n≤256 ^ 260:=alW (by omega) (by omega)
 have:=agZ;omega
abbrev niC (a:NI):List PV:=[.int .i64 a.s,.nnl (.ints .u64 a.w)]
def fcC (j:Nat):List PV:=match j with|0=>[.int .i64 1,.nils]|j+1=>niC (nr (fac (j+1)))
def fcL (i:Nat):List (List PV):=(ajO i).map fcC
theorem DY (i:Nat):(fcL i).length=i:=by simp[fcL]
theorem VP {i j:Nat} (h:j<i):(fcL i).getD j []=fcC j:=by simp[fcL,ajQ,h]
theorem Ku (i:Nat):fcL (i+1)++[niC (nr (fac (i+1)))]=fcL (i+2):=by simp[fcL,am4,fcC]
structure aaZ (c d:CL):Prop where
 cnt:d.cnt=c.cnt
 esz:d.esz=c.esz
 get:∀j,j<c.ncell→∀{S:Imm} {w:World} {ι:Ix} {v:Value},Rep S w ι (c.get j) v→Rep S w ι (d.get j) v
theorem VQ {c d:CL} (h:aaZ c d) (t:Tok):Sup (.isl c t) (.isl d .none):=⟨fun{S w ι v} hr=>by
 have hc:=h.cnt;have hn:d.ncell=c.ncell:=by rw[bG,bG,hc,h.esz]
 cases hr with
 |islnil _ _ _ g=>exact .islnil _ _ _ (by rw[hc];exact g)
 |isl _ _ _ b off cap h1 h2 h3 h4 h5=>
  rw[←hc];exact .isl _ _ _ b off cap (by rw[hc];exact h1) (fun j hj=>h2 j (by omega)) (fun j hj=>h.get j (by omega) (h3 j (by omega))) (fun g=>by cases g) (fun k g=>by cases g)⟩
abbrev fcV (n:Nat):PV:=.isl (.genr 2 n fun j=>niC (nr (fac j))) .none
noncomputable def ajq:CPT:=aB 108 (aV ofP) (aB 110 (aV uo) noC)
theorem Oh:bC Tryz.prog ajq:=au (aG ow) (au (aG oM) aF)
theorem VR:nr (fac 0)=⟨1,[]⟩:=iJ (by unfold fac;omega)
theorem Oi (n:Nat):aaZ (.recs 2 (fcL n)) (.genr 2 n fun j=>niC (nr (fac j))):=⟨by simp[CL.cnt,DY],rfl,fun j hj {S w ι v} hr=>by
 simp only[CL.ncell,DY]at hj;simp only[CL.get]at hr⊢;rw[VP (by omega)]at hr
 have hj2:j % 2=0∨j % 2=1:=by omega
 cases hq:j / 2 with
 |zero=>
  rw[hq]at hr;rw[VR];rcases hj2 with e|e
  ·rw[e]at hr⊢;exact hr
  ·rw[e]at hr⊢
   have hr':Rep S w ι .nils v:=hr;show Rep S w ι (.nnl (.ints .u64 [])) v;cases hr';exact .nnl0 _ _ rfl
 |succ q=>rw[hq]at hr;exact hr⟩
theorem GZ {x:Int} (h:0≤x∧x≤1000000000):(⟨x,[]⟩:NI).OK∧(⟨x,[]⟩:NI).L≤100000000000:=
 ⟨.inl ⟨rfl,by show smI x;unfold smI;omega⟩,by unfold NI.L;rw[NI.val_sm];exact ajI (nS (by omega)) (by decide)⟩
theorem Ch {n:Nat} (h:n≤256):(nr (fac n)).OK∧(nr (fac n)).L≤100000000000:=
 ⟨bO _,by unfold nr;rw[NI.L_nrm,anb];exact ajI (aaY h) (by decide)⟩
theorem ag0 (j:Nat):nrm ((nr (fac j)).val*NI.val ⟨(j:Int)+1,[]⟩)=nr (fac (j+1)):=by
 unfold nr;rw[bA,NI.val_sm,fac,amk];rfl
theorem ahS:nrm (NI.val ⟨1,[]⟩*NI.val ⟨((0:Nat):Int)+1,[]⟩)=nr (fac 1):=by
 have:=ag0 0;rw[VR]at this;exact this
theorem VT:P6.size=2:=by rfl
theorem Ci (n:Nat) (hn:n≤256):aD Tryz.prog 107 [.int .i64 n] (fcV (n+1)):=by
 refine ay (md:=1) (rf:=[]) mixed av Oh Tryz.func107 (by rfl) (by rfl) (by rfl) ?_
 repeat'((conv=>whnf);first|(intro hq;(try simp only[vw]at hq);try exact ak hq)|apply aI|exact aj|apply nM|apply fM)
 all_goals((try apply vM);(try simp only[vq]at*);try omega)
 conv=>whnf
 refine aU (X:=Nat) (fun i=>i≤n) (fun i=>[(8,.int .i64 i),(4,.any),(3,match i with|0=>.isl (.recs 2 [[.int .i64 1,.nils]]) .full|j+1=>.isl (.recs 2 (fcL (j+2))) (.own 5))]) (fun i=>match i with|0=>[]|j+1=>[(5,.tok 2 (j+2))]) (fun i=>n-i) 0 ⟨aJ,mixed,av,Oh,aR⟩ (by rfl) (by omega) ?_ ?_
 ·all_goals exact jq
 intro i hi;cases i with
 |zero=>
  have v1:=GZ (x:=1) (by omega)
  have v2:=GZ (x:=((0:Nat):Int)+1) (by omega)
  by_cases hlt:0<n
  ·repeat'((conv=>whnf);first|(intro hq;(try simp only[vw]at hq);try exact ak hq)|apply aI|exact aj|apply nM|apply fM)
   all_goals((try apply vM);(try simp only[vq]at*);try omega)
   all_goals(try simp only[ahS,VT])
   all_goals first
    |rfl
    |exact⟨v1.1,v2.1,v1.2,v2.2⟩
    |exact .inr (by decide)
    |(simp only[akY,chunks,ajA,ajw];omega)
    |(refine⟨1,[(14,5)],⟨by omega,by omega⟩,?_⟩
      repeat'((conv=>whnf);first|intro _|apply aI|exact aj|apply nM|apply fM)
      all_goals((try apply vM);(try simp only[vq]at*);try omega)
      all_goals first|exact congrArg (CL.recs 2) (Ku 0)|rfl)
  ·have:n=0:=by omega
   subst this
   repeat'((conv=>whnf);first|(intro hq;(try simp only[vw]at hq);try exact ak hq)|apply aI|exact aj|apply nM|apply fM)
   all_goals((try apply vM);(try simp only[vq]at*);try omega)
   all_goals first|exact VQ (Oi 1) _
 |succ i=>
  have hl:=DY (i+2);have hg:(CL.recs 2 (fcL (i+2))).rcd (i+1)=niC (nr (fac (i+1))):=VP (i:=i+2) (j:=i+1) (by omega)
  by_cases hlt:i+1<n
  ·repeat'((conv=>whnf);first|(intro hq;(try simp only[vw]at hq);try exact ak hq)|apply aI|exact aj|apply nM|apply fM)
   all_goals((try apply vM);(try simp only[vq]at*);try omega)
   ·rw[hg];rfl
   rw[hg];have v1:=Ch (n:=i+1) (by omega)
   have v2:=GZ (x:=((i+1:Nat):Int)+1) (by omega)
   have hm:=ag0 (i+1)
   repeat'((conv=>whnf);first|(intro hq;(try simp only[vw]at hq);try exact ak hq)|apply aI|exact aj|apply nM|apply fM)
   all_goals((try apply vM);(try simp only[vq]at*);try omega)
   all_goals(try simp only[dJ,hm,VT])
   all_goals first
    |rfl
    |exact⟨v1.1,v2.1,v1.2,v2.2⟩
    |(simp only[akY,chunks,ajA,ajw];omega)
    |(refine⟨i+2,[],⟨by omega,by omega⟩,?_⟩
      repeat'((conv=>whnf);first|intro _|apply aI|exact aj|apply nM|apply fM)
      all_goals((try apply vM);(try simp only[vq]at*);try omega)
      all_goals first|exact congrArg (CL.recs 2) (Ku (i+1))|rfl)
  ·have:n=i+1:=by omega
   subst this
   repeat'((conv=>whnf);first|(intro hq;(try simp only[vw]at hq);try exact ak hq)|apply aI|exact aj|apply nM|apply fM)
   all_goals((try apply vM);(try simp only[vq]at*);try omega)
   all_goals first|exact VQ (Oi _) _
def lsT (p:List Int) (i t:Nat):Nat:=((p.drop (i+1)).take t).countP fun y=>decide (y<p.getD i 0)
def lsN (p:List Int) (i:Nat):Nat:=lsT p i (p.length-(i+1))
theorem Y0 {p:List Int} {i t:Nat} (h:i+1+t<p.length):lsT p i (t+1)=lsT p i t+(if p.getD (i+1+t) 0<p.getD i 0 then 1 else 0):=by
 unfold lsT;have hl:t<(p.drop (i+1)).length:=by rw[akW];omega
 rw[List.take_add_one,ajV hl,List.countP_append];congr 1;rw[List.getElem_drop];have:p.getD (i+1+t) 0=p[i+1+t]:=by rw[ajQ,ajV h];rfl
 rw[this];simp[List.countP_cons]
theorem VU (p:List Int) (i t:Nat):lsT p i t≤t:=by
 unfold lsT;exact ajI List.countP_le_length (by rw[akw];omega)
def rkT (p:List Int):Nat→Nat
 |0=>0
 |i+1=>rkT p i+lsN p i*fac (p.length-1-i)
def rkN (p:List Int):Nat:=rkT p p.length
set_option exponentiation.threshold 4000 in
theorem ag1 {p:List Int} (h:p.length≤256):∀i,i≤256→rkT p i≤i*256 ^ 257:=by
 intro i;induction i with
 |zero=>intro _;exact akA _
 |succ i ih=>
  intro hi;have h1:=ih (by omega)
  have h2:lsN p i≤256:=ajI (VU _ _ _) (by omega)
  have h3:fac (p.length-1-i)≤256 ^ 256:=ajI (VO _ (by omega)) (alW (by omega) (by omega))
  have h4:=akM h2 h3;rw[rkT,Nat.succ_mul];have:(256:Nat)*256 ^ 256=256 ^ 257:=(an5 (m:=256) (n:=256)).symm;omega
set_option exponentiation.threshold 4000 in
theorem RG {p:List Int} (h:p.length≤256) {i:Nat} (hi:i≤256):Lw (rkT p i)≤40:=by
 refine qM ?_;have h1:=ag1 h i hi;have h2:i*256 ^ 257≤256*256 ^ 257:=Nat.mul_le_mul_right _ hi;have h3:(256:Nat)*256 ^ 257=256 ^ 258:=(an5 (m:=256) (n:=257)).symm;have h4:(256:Nat) ^ 258≤256 ^ 260:=alW (by omega) (by omega)
 have:=agZ;omega
noncomputable def ajr:CPT:=aB 80 (aP Ce) (aB 108 (aV ofP) (aB 110 (aV uo) (aB 109 (aV Df) (aB 112 (aV wO) (aB 111 (aV GR) noC)))))
theorem aeD:bC Tryz.prog ajr:=au (aC Km) (au (aG ow) (au (aG oM) (au (aG wI) (au (aG uy) (au (aG Dx) aF)))))
theorem aeE {a b:NI} (ha:0≤a.val) (hb:0≤b.val):addN a b=nrm (a.val+b.val):=by
 unfold addN;rw[if_neg]
 rintro⟨h1,h2,h3⟩
 have e1:a.val=a.s:=gF h1;have e2:b.val=b.s:=gF h2;omega
theorem RH (p:List Int) (hp:p.length≤1000000) (h:dB 5 p=0):aD Tryz.prog 18 [.isl (.ints .i64 p) .none] (.tup [.str (rsS (rkN p:Nat)),.int .i64 (rsE (rkN p:Nat))]):=by
 have hP:=oz (by decide) h
 have hl:=zB (by decide) h
 have hc:=aY (Ci p.length hl) aeD;refine ay (md:=1) (rf:=[]) mixed av hc Tryz.func18 (by rfl) (by rfl) (by rfl) ?_
 repeat'((conv=>whnf);first|(intro hq;(try simp only[vw]at hq);try exact ak hq)|apply aI|exact aj|apply nM|apply fM)
 all_goals((try apply vM);(try simp only[vq]at*);try omega)
 all_goals(try contradiction)
 conv=>whnf
 refine aU (X:=Nat) (fun i=>i≤p.length) (fun i=>[(23,.int .i64 i),(7,.any),(8,.any),(9,.any),(11,.any)]) (fun i=>[(12,.cells (.pv (niC (nr (rkT p i)))) false)]) (fun i=>p.length-i) 0 ⟨aJ,mixed,av,hc,aR⟩ (by rfl) (by omega) ?_ ?_
 ·all_goals exact mM
 intro i hi;by_cases hlt:i<p.length
 ·repeat'((conv=>whnf);first|(intro hq;(try simp only[vw]at hq);try exact ak hq)|apply aI|exact aj|apply nM|apply fM)
  all_goals((try apply vM);(try simp only[vq]at*);try omega)
  all_goals(try omega)
  conv=>whnf
  refine aU (X:=Nat) (fun t=>t≤p.length-(i+1)) (fun t=>[(33,.int .i64 t),(11,.any),(9,.int .i64 (lsT p i t:Nat))]) (fun t=>[]) (fun t=>p.length-(i+1)-t) 0 ⟨aJ,mixed,av,hc,aR⟩ (by rfl) (by omega) ?_ ?_
  ·all_goals exact mM
  intro t ht;have hle:=VU p i t;have hRl:(amM (p.length-((i:Int)+1).toNat) (amN ((i:Int)+1).toNat p)).length=p.length-(i+1):=by
   rw[akw,akW];omega
  have hRn:((CL.ints IntKind.i64 p).sub ((i:Int)+1).toNat p.length).ncell=p.length-(i+1):=hRl;by_cases hlt2:t<p.length-(i+1)
  ·have hRg:(amM (p.length-((i:Int)+1).toNat) (amN ((i:Int)+1).toNat p)).getD t 0=p.getD (i+1+t) 0:=by
    rw[ajQ,ajQ,List.getElem?_take,if_pos (by omega),akX]
    congr 2
   have hs:=Y0 (p:=p) (i:=i) (t:=t) (by omega)
   repeat'((conv=>whnf);first|(intro hq;(try simp only[vw]at hq);try exact ak hq)|apply aI|exact aj|apply nM|apply fM)
   all_goals((try apply vM);(try simp only[vq]at*);try omega)
   all_goals(try simp only[hRg]at*)
   all_goals first
    |omega
    |(rw[hRn];omega)
    |(refine⟨t+1,[],⟨by omega,by omega⟩,?_⟩
      first|rw[if_pos (by assumption)]at hs|rw[if_neg (by assumption)]at hs
      all_goals exact EX)
  ·have:t=p.length-(i+1):=by omega
   subst this;have hk:((p.length:Int)-1-i).toNat=p.length-1-i:=by omega
   have v1:=GZ (x:=(lsT p i (p.length-(i+1)):Nat)) (by omega)
   have v2:=Ch (n:=p.length-1-i) (by omega)
   have hm:nrm (NI.val ⟨(lsT p i (p.length-(i+1)):Nat),[]⟩*(nr (fac (p.length-1-i))).val)=nr (lsN p i*fac (p.length-1-i)):=by
    unfold nr;rw[NI.val_sm,bA,←amk];rfl
   have hL1:(nr (rkT p i)).L≤100000000000:=by unfold nr;rw[NI.L_nrm,anb];exact ajI (RG hl (by omega)) (by decide)
   have hL2:(nr (lsN p i*fac (p.length-1-i))).L≤100000000000:=by
    unfold nr;rw[NI.L_nrm,anb];refine ajI (eZ (?_:_≤rkT p (i+1))) (ajI (RG hl (by omega)) (by decide))
    rw[rkT];omega
   have ha:addN (nr (rkT p i)) (nr (lsN p i*fac (p.length-1-i)))=nr (rkT p (i+1)):=by
    rw[aeE (by unfold nr;rw[bA];omega) (by unfold nr;rw[bA];omega)]
    unfold nr;rw[bA,bA,←Int.natCast_add];rfl
   repeat'((conv=>whnf);first|(intro hq;(try simp only[vw]at hq);try exact ak hq)|apply aI|exact aj|apply nM|apply fM)
   all_goals((try apply vM);(try simp only[vq]at*);try omega)
   all_goals(try simp only[hk,dJ,hm,ha])
   all_goals first
    |omega
    |rfl
    |exact⟨v1.1,v2.1,v1.2,v2.2⟩
    |exact⟨bO _,bO _,hL1,hL2⟩
    |(refine⟨i+1,[],⟨by omega,by omega⟩,?_⟩
      all_goals exact EX)
 ·have:i=p.length:=by omega
  subst this;have hft:FT ⟨nr (rkT p p.length),fJ⟩:=by
   refine⟨?_,?_⟩
   ·have:=dY ((rkT p p.length:Nat):Rat)
    have e:can ((rkT p p.length:Nat):Rat)=⟨nr (rkT p p.length),fJ⟩:=rfl;rw[e]at this;exact this
   ·have e:(⟨nr (rkT p p.length),fJ⟩:Fr)=can ((rkT p p.length:Nat):Rat):=rfl
    rw[e,lZ];show RL _≤_;unfold RL;have h1:=RG hl (i:=p.length) (by omega)
    have h2:Lw 1≤1:=nS (by omega)
    show max (Lw (Int.natAbs ((rkT p p.length:Nat):Int))) (Lw 1)≤_;rw[anb];omega
  have hv:Fr.val ⟨nr (rkT p p.length),fJ⟩=((rkT p p.length:Nat):Rat):=by
   have e:(⟨nr (rkT p p.length),fJ⟩:Fr)=can ((rkT p p.length:Nat):Rat):=rfl;rw[e,dU]
  repeat'((conv=>whnf);first|(intro hq;(try simp only[vw]at hq);try exact ak hq)|apply aI|exact aj|apply nM|apply fM)
  all_goals((try apply vM);(try simp only[vq]at*);try omega)
  all_goals(try simp only[cK,hv])
  all_goals first
   |exact hft
   |exact Sup.of rfl
def upI (n:Nat):List Int:=(ajO n).map fun i:Nat=>(i:Int)
theorem Oj (n:Nat):(upI n).length=n:=by simp[upI]
theorem Y1 (n:Nat):upI n++[(n:Int)]=upI (n+1):=by simp[upI,am4]
structure Ur where
 l:Nat
 r:List Int
 o:List Int
def urT (n x:Nat):Nat→Ur
 |0=>⟨x,upI n,[]⟩
 |i+1=>⟨(urT n x i).l % fac (n-1-i),(urT n x i).r.eraseIdx ((urT n x i).l / fac (n-1-i)),(urT n x i).o++[(urT n x i).r.getD ((urT n x i).l / fac (n-1-i)) 0]⟩
def ag2 (n x:Nat):List Int:=(urT n x n).o
theorem VW {n x:Nat} (hx:x<fac n):∀i,i≤n→(urT n x i).l<fac (n-i)∧(urT n x i).r.length=n-i∧(urT n x i).o.length=i:=by
 intro i;induction i with
 |zero=>intro _;exact⟨hx,Oj n,rfl⟩
 |succ i ih=>
  intro hi;obtain⟨h1,h2,h3⟩:=ih (by omega)
  have hf:=Og (n-1-i);have hfe:fac (n-i)=fac (n-1-i)*(n-i):=by
   obtain⟨k,hk⟩:∃k,n-i=k+1:=⟨n-i-1,by omega⟩
   rw[hk,show n-1-i=k by omega,fac]
  have hk:(urT n x i).l / fac (n-1-i)<n-i:=an6 (by rw[←hfe];exact h1)
  refine⟨?_,?_,?_⟩
  ·rw[show n-(i+1)=n-1-i by omega];exact Nat.mod_lt _ hf
  ·show((urT n x i).r.eraseIdx _).length=_
   rw[an4 (by omega),h2];omega
  ·show((urT n x i).o++[_]).length=_
   rw[akY,h3];rfl
theorem ajs {n x:Nat} (hx:x<fac n) {i:Nat} (hi:i<n):(urT n x i).l / fac (n-1-i)<n-i:=by
 obtain⟨h1,h2,h3⟩:=VW hx i (by omega)
 have hfe:fac (n-i)=fac (n-1-i)*(n-i):=by
  obtain⟨k,hk⟩:∃k,n-i=k+1:=⟨n-i-1,by omega⟩
  rw[hk,show n-1-i=k by omega,fac]
 exact an6 (by rw[←hfe];exact h1)
noncomputable def ajt:CPT:=aB 100 (aP Rb) (aB 113 (aP pX) (aB 114 (aP jZ) (aB 115 (aP GQ) (aB 116 (aV QE) (aB 117 (aV Yc) (aB 118 (aV GH) (aB 119 (aV dmP) (aB 120 (aV TV) (aB 121 RF noC)))))))))
theorem aeF:bC Tryz.prog ajt:=au (aC Va) (au (aC aoa) (au (aC iT) (au (aC NG) (au (aG Jy) (au (aG Us) (au (aG Dh) (au (aG Qn) (au (aG XG) (au YZ aF)))))))))
theorem ahT {z:Int}:decide (eG z<0)=decide (z<0):=by
 rw[decide_eq_decide];unfold eG;(repeat' split)<;>omega
theorem ahU {a b:Int}:decide (0≤mR a b)=decide (b≤a):=by
 rw[decide_eq_decide];unfold mR;(repeat' split)<;>omega
theorem Y2 (n:Nat) (hn:1≤n∧n≤256) (q:Rat) (hs:(txQ q).size≤1000000000) (hc0:wS (txQ q)=0) (hD:Lw q.num.natAbs≤1000∧Lw q.den≤1000) (x:Nat) (hq1:q.den=1) (hq2:q.num=x) (hx0:x<fac n):aD Tryz.prog 19 [.int .i64 n,.str (txQ q)] (.tup [.isl (.ints .i64 (ag2 n x)) .none,.int .i64 0]):=by
 have hc1:=aY (Ci n hn.2) aeF;have e0:bV [if 256<(n:Int)then 3 else 0,wS (txQ q)]=0:=by rw[hc0,if_neg (by omega)];rfl
 have hr:=wQ q;have hx:=JL q;have k1:(can q).OK:=dY q;have k2:(can q).d.val=1:=by show(nr q.den).val=_;unfold nr;rw[bA,hq1];try rfl
 have k3:(can q).n.val=x:=by show(nrm q.num).val=_;rw[bA,hq2]
 have k5:(can q).n=nr x:=by show nrm q.num=_;rw[hq2];try rfl
 have v2:=Ch hn.2;have v3:(can q).n.L≤100000000000:=by show(nrm q.num).L≤_;rw[NI.L_nrm];omega
 have k4:(nr (fac n)).val=(fac n:Nat):=by unfold nr;rw[bA]
 have a1:¬eG (x:Int)<0:=fun h=>by have:=(decide_eq_decide.1 (ahT (z:=(x:Int)))).1 h;omega
 have a2:¬0≤mR (x:Int) ((fac n:Nat):Int):=fun h=>by have:=(decide_eq_decide.1 (ahU (a:=(x:Int)) (b:=((fac n:Nat):Int)))).1 h;omega
 have hsl:((nr x).val)=x:=by unfold nr;rw[bA]
 generalize txQ q=s at*
 subst hr;refine ay (md:=1) (rf:=[63]) mixed av hc1 Tryz.func19 (by rfl) (by rfl) (by rfl) ?_
 repeat'((conv=>whnf);first|(intro hq;(try simp only[vw]at hq);try exact ak hq)|apply aI|exact aj|apply nM|apply fM)
 all_goals((try apply vM);(try simp only[vq]at*);try omega)
 all_goals first
  |exact⟨hx,hs⟩
  |exact k1
  |rfl
  |exact⟨bO _,v2.1,v3,v2.2⟩
  |contradiction
  |(exfalso
    simp only[dJ,k2,k3,k4,akp,decide_eq_false_iff_not,not_true]at*
    done)
  |(exfalso
    simp only[dJ,k2,k3,k4,akp,decide_eq_false_iff_not,not_true]at*
    contradiction)
  |skip
 clear k1 k2 k3 a1 a2 e0 hc0 v2 v3 k4;conv=>whnf
 refine aU (X:=Nat) (fun i=>i≤n) (fun i=>[(57,.int .i64 i),(12,.any),(10,match i with|0=>.nils|j+1=>.rsl 5 0 (j+1))]) (fun i=>match i with|0=>[]|j+1=>[(5,.cells (.ints .i64 (upI (j+1))) false)]) (fun i=>n-i) 0 ⟨aJ,mixed,av,hc1,aR⟩ (by rfl) (by omega) ?_ ?_
 ·all_goals exact mM
 intro i hi;cases i with
 |zero=>
  repeat'((conv=>whnf);first|(intro hq;(try simp only[vw]at hq);try exact ak hq)|apply aI|exact aj|apply nM|apply fM)
  all_goals((try apply vM);(try simp only[vq]at*);try omega)
  all_goals first
   |omega
   |(refine⟨1,[(36,5)],⟨by omega,by omega⟩,?_⟩
     all_goals exact jq)
 |succ i=>
  have hul:=Oj (i+1);by_cases hlt:i+1<n
  ·have hus:=Y1 (i+1)
   have hus2:amM (i+1-0) (amN 0 (upI (i+1)))++[((i+1:Nat):Int)]=upI (i+2):=by
    rw[anU,List.drop_zero,List.take_of_length_le (by omega)];exact hus
   repeat'((conv=>whnf);first|(intro hq;(try simp only[vw]at hq);try exact ak hq)|apply aI|exact aj|apply nM|apply fM)
   all_goals((try apply vM);(try simp only[vq]at*);try omega)
   all_goals first
    |omega
    |(refine⟨i+2,[(36,5)],⟨by omega,by omega⟩,?_⟩
      repeat'((conv=>whnf);first|intro _|apply aI|exact aj|apply nM|apply fM)
      all_goals((try apply vM);(try simp only[vq]at*);try omega)
      all_goals first|exact hus|exact hus2)
  ·have:n=i+1:=by omega
   subst this
   repeat'((conv=>whnf);first|(intro hq;(try simp only[vw]at hq);try exact ak hq)|apply aI|exact aj|apply nM|apply fM)
   all_goals((try apply vM);(try simp only[vq]at*);try omega)
   all_goals(try omega)
   conv=>whnf
   have hinv:=fun j hj=>VW hx0 j hj;have hkk:=fun j hj=>ajs hx0 (i:=j) hj;refine aU (X:=Nat) (fun j=>j≤i+1) (fun j=>[(66,.int .i64 j),(13,.any),(14,.any),(15,.any),(16,.any),(17,.any),(69,.any),(81,.any),(12,.any),(10,.rsl 5 0 (i+1-j)),(11,.isl (.ints .i64 (urT (i+1) x j).o) (.own 9))]) (fun j=>[(5,.cells (.ints .i64 (urT (i+1) x j).r) false),(9,.tok 1 j),(34,.cells (.pv (niC (nr (urT (i+1) x j).l))) false)]) (fun j=>i+1-j) 0 ⟨aJ,mixed,av,hc1,aR⟩ (by rfl) (by omega) ?_ ?_
   ·rw[k5]
    all_goals exact jq
   intro j hj;obtain⟨i1,i2,i3⟩:=hinv j hj;by_cases hlt2:j<i+1
   ·have hk1:=hkk j hlt2
    have hu:urT (i+1) x (j+1)=⟨(urT (i+1) x j).l % fac (i+1-1-j),(urT (i+1) x j).r.eraseIdx ((urT (i+1) x j).l / fac (i+1-1-j)),(urT (i+1) x j).o++[(urT (i+1) x j).r.getD ((urT (i+1) x j).l / fac (i+1-1-j)) 0]⟩:=rfl;clear hinv hkk;generalize urT (i+1) x j=U at*
    have hi1:(((i+1:Nat):Int)-1-j).toNat=i+1-1-j:=by omega
    have v2:=Ch (n:=i+1-1-j) (by omega)
    have hlL:(nr U.l).L≤100000000000:=by
     unfold nr;rw[NI.L_nrm,anb];exact ajI (eZ (Nat.le_of_lt i1)) (ajI (aaY (by omega)) (by decide))
    have hfp:=Og (i+1-1-j);have hfv:(nr (fac (i+1-1-j))).val=(fac (i+1-1-j):Nat):=by unfold nr;rw[bA]
    have hlv:(nr U.l).val=(U.l:Nat):=by unfold nr;rw[bA]
    have hdc:((U.l:Nat):Int) / (fac (i+1-1-j):Nat)=((U.l / fac (i+1-1-j):Nat):Int):=(Int.natCast_ediv _ _).symm;have hmv:nrm ((nr U.l).val % (nr (fac (i+1-1-j))).val)=nr (U.l % fac (i+1-1-j)):=by
     rw[hlv,hfv,←Int.natCast_emod];try rfl
    have hnl:¬((nr U.l).s<0):=by
     rw[NI.neg_iff (bO _),hlv];omega
    generalize hD:U.l / fac (i+1-1-j)=d at*
    generalize hE:U.l % fac (i+1-1-j)=e at*
    have hdv:divN (nr U.l) (nr (fac (i+1-1-j)))=⟨(d:Int),[]⟩:=by
     unfold divN;have e:nrm ((nr U.l).val / (nr (fac (i+1-1-j))).val)=⟨(d:Int),[]⟩:=by
      rw[hlv,hfv,hdc];exact iJ (by omega)
     split
     ·exact e
     ·rw[if_neg (fun h=>hnl h.1)];exact e
    generalize hF:fac (i+1-1-j)=F at*
    repeat'((conv=>whnf);first|(intro hq;(try simp only[vw]at hq);try exact ak hq)|apply aI|exact aj|apply nM|apply fM)
    all_goals((try apply vM);(try simp only[vq]at*);try omega)
    all_goals(try simp only[hi1,hF,dJ,hdv,hmv,alR,hfv])
    all_goals first
     |omega
     |rfl
     |exact⟨bO _,v2.1,by omega,hlL,v2.2⟩
     |(rw[akY,ajA,ajw];omega)
     |(refine⟨j+1,[],⟨by omega,by omega⟩,?_⟩
       rw[hu]
       repeat'((conv=>whnf);first|intro _|apply aI|exact aj|apply nM|apply fM)
       all_goals((try apply vM);(try simp only[vq]at*);try omega)
       all_goals first|rfl|omega|(rw[←hfv,hmv]))
   ·have:j=i+1:=by omega
    subst this;all_goals exact gJ
end Go.Eng.YtmkagljofpddpaaGreatDoor
namespace Go.Eng.YtmkagljofpddpaaGreatDoor
open Go.Proofs Go.RowKit
set_option linter.unusedSimpArgs false
set_option linter.unusedVariables false
set_option maxHeartbeats 0
set_option maxRecDepth 1000000
def nmB (i:Nat) (c:Nat):Bool:=decide ((97≤c∧c≤122)∨(65≤c∧c≤90)∨(i≠0∧(c=95∨(48≤c∧c≤57))))
theorem G5 {i c:Nat}:nmB i c=true↔((97≤c∧c≤122)∨(65≤c∧c≤90)∨(i≠0∧(c=95∨(48≤c∧c≤57)))):=decide_eq_true_iff
def zU (s:ByteArray):Bool:=decide ((∀i,i<s.size→nmB i (s.get! i).toNat=true)∧0<s.size∧s.size≤24)
theorem VX (s:ByteArray):s.toList=[]↔s.size=0:=by rw[ByteArray.toList_eq,←ak6,Array.length_toList];exact Iff.rfl
theorem Y3 (s:ByteArray) (w:World):Calls Tryz.prog 37 #[.string s] w fun e w'=>e=.returned (.bool (zU s))∧∃pos,w'=w.iter s pos:=by
 go_enter Tryz.func37,Tryz.ntmps37
 go_wp2
 go_loopw [2] (fun n w'=>∃(pos:Nat),w'=w.iter s pos∧pos≤s.size∧∀i,i<pos→nmB i (s.get! i).toNat=true) (fun _ w'=>s.size-w'.iterPos w.heap.size)
 case atStart=>exact⟨0,rfl,by omega,fun i h=>by omega⟩
 case round=>
  obtain⟨pos,rfl,hps,hok⟩:=hrel;by_cases hp:pos<s.size
  ·have hnx:∀ty,(Instr.next (.pointer (some ⟨w.heap.size,0,none⟩)) true ty).run Tryz.prog (w.iter s pos)=_:=fun ty=>run_next_any w s pos ty hp
   obtain⟨D,hD⟩:∃D,Utf8.decode s pos=D:=⟨_,rfl⟩;have hle:=decode_le s pos;have hhi:=decode_high s pos hp;have hlo:=decode_ascii s pos hp;rw[hD]at hle hhi hlo;simp only[hD]at hnx;obtain⟨r,m⟩:=D;simp only at hle hhi hlo hnx;obtain⟨b,hb⟩:∃b,(s[pos]'hp).toNat=b:=⟨_,rfl⟩;have hg:s.get! pos=s[pos]'hp:=by simp[ByteArray.get!,getElem!_pos,hp];rfl
   have hF:nmB pos (s.get! pos).toNat=true↔nmB pos r=true:=by
    rw[hg,hb];by_cases h:b<128
    ·have:=hlo (by omega)
     rw[hb]at this;rw[(Prod.mk.inj this).1]
    ·have:=hhi (by omega)
     rw[G5,G5];omega
   have hm:nmB pos r=true→m=1:=fun h=>by
    rw[G5]at h;by_cases h2:b<128
    ·exact(Prod.mk.inj (hlo (by omega))).2
    ·have:=hhi (by omega);omega
   have good:nmB pos r=true→(∃q,w.iter s (pos+m)=w.iter s q∧q≤s.size∧∀(i:Nat),i<q→nmB i (s.get! i).toNat=true)∧s.size-(w.iter s (pos+m)).iterPos w.heap.size<s.size-(w.iter s pos).iterPos w.heap.size:=fun h=>by
    have e:=hm h;subst e;refine⟨⟨pos+1,rfl,by omega,fun i hi=>?_⟩,?_⟩
    ·by_cases e:i=pos
     ·subst e;exact hF.2 h
     ·exact hok i (by omega)
    ·rw[World.iterPos_iter,World.iterPos_iter];omega
   have bad:¬nmB pos r=true→zU s=false:=fun h=>decide_eq_false fun g=>h (hF.1 (g.1 pos hp));rw[G5]at good bad;clear hF hm hhi hlo
   go_wp2
   all_goals(try simp only[akp,decide_eq_false_iff_not,Bool.not_eq_false',decide_eq_true_eq,bne_iff_ne,beq_iff_eq,Bool.not_eq_eq_eq_not,aku,akt,ne_eq,bne_eq_false_iff_eq,beq_eq_false_iff_ne]at*)
   all_goals first
    |(refine good ?_;omega)
    |(go_ret;rw[bad (by omega)];exact⟨rfl,_,rfl⟩)
    |(have hz:pos=0:=by omega
      subst hz;simp only[aj2]at good;refine good ?_;omega)
  ·have hnx:∀ty,(Instr.next (.pointer (some ⟨w.heap.size,0,none⟩)) true ty).run Tryz.prog (w.iter s pos)=_:=fun ty=>run_next_end w s pos ty hp
   have he:pos=s.size:=by omega
   subst he;have e1:(∃q,w.iter s s.size=w.iter s q):=⟨_,rfl⟩
   go_wp2
   ·rename_i h
    have e0:=VX s
    go_ret
    have:zU s=false:=decide_eq_false fun g=>by have:=e0.1 h;omega
    rw[this];exact⟨rfl,e1⟩
   ·rename_i h
    have e0:=VX s
    go_ret
    have h1:s.toList.isEmpty=false:=by rw[an0];simpa using h
    have h2:=fun g=>h (e0.2 g);have:zU s=(!s.toList.isEmpty&&decide ((s.size:Int)≤24)):=by
     rw[h1];unfold zU;rw[akt,Bool.true_and,decide_eq_decide];exact⟨fun g=>an7.2 g.2.2,fun g=>⟨hok,Nat.pos_of_ne_zero h2,an7.1 g⟩⟩
    rw[this];exact⟨rfl,e1⟩
theorem Y4 (s:ByteArray):aD Tryz.prog 37 [.str s] (.bp (zU s)):=by
 refine fD (enters' Tryz.func37 (by rfl) (by rfl)) fun S w vs himm hA=>?_
 rw[M9 hA];refine⟨_,.bp _ _,(Y3 s w).mono ?_⟩
 rintro e w' ⟨rfl,pos,rfl⟩
 refine⟨rfl,rfl,rfl,rfl,?_,fun k hk=>?_⟩
 ·show _≤(w.heap.push _).size
  rw[Array.size_push];omega
 ·show(w.heap.push _)[k]? =_
  rw[Array.getElem?_push,if_neg (by omega)]
def Y5:PSp:=fun xs K=>match xs with
 | [.str s]=>VC (True)∧K (.bp (zU s))
 |_=>False
theorem ag3:POK Tryz.prog 37 Y5:=by
 intro xs K h;unfold Y5 at h;split at h
 ·exact⟨_,h.2,Y4 _⟩
 ·exact h.elim
end Go.Eng.YtmkagljofpddpaaGreatDoor
namespace Go.Eng.YtmkagljofpddpaaGreatDoor
open Go.Proofs Go.Eng.Dig Go.Eng.Dec Go.Eng.Pm Go.Eng.ElG
set_option linter.unusedSimpArgs false
set_option linter.unusedVariables false
set_option maxHeartbeats 0
set_option maxRecDepth 100000
theorem RI {n:Nat} {f:Nat→PV} {cs:List PV} (hl:cs.length=n) (h:∀i,i<n→f i=aH cs i):gK (.gen n f) (.pv cs):=⟨hl,rfl,fun j hj=>by simp only[CL.ncell]at hj;simp only[CL.get];exact(h j hj).symm⟩
abbrev stF (l:List ByteArray):PV:=.isl (.strs l) .full
theorem sD (L:List (List ByteArray)) {n:Nat} (hn:L.length=n) {f:Nat→List ByteArray} (hf:∀i,i<n→L.getD i []=f i) {S:Imm} {w:World} {ι:Ix} {t:Tok} {v:Value} (hr:Rep S w ι (.isl (.pv (L.map stF)) t) v):Rep S w ι (tmV n f) v:=by
 have hl:(L.map stF).length=n:=by rw[anP,hn]
 have hg:∀(l:List (List ByteArray)) (i:Nat),i<l.length→aH (l.map stF) i=stF (l.getD i []):=by
  intro l;induction l with
  |nil=>intro i h;cases h
  |cons x l ih=>
   intro i h;cases i with
   |zero=>rfl
   |succ i=>exact ih i (by simpa using h)
 show Rep S w ι (.isl (.gen n fun i=>stV (f i)) .none) v;cases hr with
 |islnil _ _ _ g=>exact .islnil _ _ _ (by rw[←hl];exact g)
 |isl _ _ _ b off cap h1 h2 h3 h4 h5=>
  rw[show(CL.pv (L.map stF)).cnt=(CL.gen n fun i=>stV (f i)).cnt from hl];refine .isl ι (.gen n fun i=>stV (f i)) .none b off cap ?_ (fun j hj=>h2 j ?_) (fun j hj=>?_) (fun g=>by cases g) (fun k g=>by cases g)
  ·show n≤cap;rw[←hl];exact h1
  ·show j<(L.map stF).length;rw[hl];exact hj
  have hj':j<n:=hj;have h:=h3 j (by show j<(L.map stF).length;rw[hl];exact hj)
  have e:(CL.pv (L.map stF)).get j=stF (f j):=by
   show aH (L.map stF) j=_;rw[hg L j (by omega),hf j hj']
  rw[e]at h;exact jy (gK.rfl' _) h
def qOf (l:List (List Rat)):Nat→Nat→Rat:=fun i j=>(l.getD i []).getD j 0
def vOf (l:List Rat):Nat→Rat:=fun i=>l.getD i 0
def iOf (l:List (List Int)):Nat→List Int:=fun i=>l.getD i []
abbrev exM:List (List Rat):=[[1,2,3],[2,4,7]]
abbrev exD:List (List Rat):=[[1,2],[3,4]]
abbrev exR:List (List Rat):=[[1,1],[2,2]]
theorem VY:jB 2 3 1 (qOf exM):=⟨by decide,by decide,by decide+kernel,by decide+kernel,by decide+kernel,by decide+kernel⟩
theorem ag4:jB 2 2 1 (qOf exD):=⟨by decide,by decide,by decide+kernel,by decide+kernel,by decide+kernel,by decide+kernel⟩
theorem ag5:jB 2 2 1 (qOf exR):=⟨by decide,by decide,by decide+kernel,by decide+kernel,by decide+kernel,by decide+kernel⟩
theorem ag6:l6 2 1 (vOf [4,9]):=⟨by decide+kernel,by decide+kernel,by decide+kernel⟩
theorem ag7:l6 2 1 (vOf [1,3]):=⟨by decide+kernel,by decide+kernel,by decide+kernel⟩
theorem ag8:l6 2 1 (vOf [-2,1]):=⟨by decide+kernel,by decide+kernel,by decide+kernel⟩
abbrev RJ:List (List ByteArray):=[[⟨#[49]⟩,⟨#[50]⟩,⟨#[51]⟩],[⟨#[50]⟩,⟨#[52]⟩,⟨#[55]⟩]]
abbrev Y6:List (List ByteArray):=[[⟨#[49]⟩,⟨#[50]⟩],[⟨#[51]⟩,⟨#[52]⟩]]
abbrev Y7:List (List ByteArray):=[[⟨#[49]⟩,⟨#[49]⟩],[⟨#[50]⟩,⟨#[50]⟩]]
abbrev Y8:List (List ByteArray):=[[⟨#[49]⟩,⟨#[45,49,47,50]⟩,⟨#[48]⟩]]
abbrev RN:PV:=.isl (.pv (RJ.map stF)) .none
abbrev ag9:PV:=.isl (.pv (Y6.map stF)) .none
abbrev aha:PV:=.isl (.pv (Y7.map stF)) .none
theorem aa0:∀i,i<2→RJ.getD i []=qmL 3 (qOf exM) i:=by decide+kernel
theorem ahV:∀i,i<2→Y6.getD i []=qmL 2 (qOf exD) i:=by decide+kernel
theorem ahW:∀i,i<2→Y7.getD i []=qmL 2 (qOf exR) i:=by decide+kernel
theorem a1:aD Tryz.prog 39 [.int .i64 6,.int .i64 (-4)] (.tup [.str ⟨#[45,51,47,50]⟩,.int .i64 0]):=by
 have h:=Yk 6 (-4) (by unfold wM;decide) (by unfold wM;decide)
 rw[show ofS 6 (-4)=⟨#[45,51,47,50]⟩from by decide+kernel,show ofE 6 (-4)=0 from by decide+kernel]at h
 exact h
theorem a2:aD Tryz.prog 41 [.int .i64 12,.int .i64 (-18)] (.tup [.int .i64 6,.int .i64 0]):=by
 have h:=UJ 12 (-18);rw[show JD 12 (-18)=(6,0)from by decide+kernel]at h
 exact h
theorem a3:aD Tryz.prog 45 [.int .i64 3,.int .i64 10] (.tup [.int .i64 7,.int .i64 0]):=by
 have h:=UM 3 10;rw[show QX 3 10=(7,0)from by decide+kernel]at h
 exact h
abbrev exP:List Int:=[1,2,0,4,3]
theorem a4:aD Tryz.prog 84 [.isl (.ints .i64 exP) .none] (.tup [.isl (.rows .i64 [[0,1,2],[3,4]]) .none,.int .i64 0]):=by
 have h:=w9 exP (by decide)
 rw[show dB 5 exP=0 from by decide+kernel,if_pos rfl,show cys exP=[[0,1,2],[3,4]]from by decide+kernel]at h
 exact h
theorem a5:aD Tryz.prog 85 [.isl (.ints .i64 exP) .none] (.tup [.int .i64 (-1),.int .i64 0]):=by
 have h:=FD exP (by decide)
 rw[show dB 5 exP=0 from by decide+kernel,if_pos rfl,show sgT (cys exP)= -1 from by decide+kernel]at h
 exact h
theorem a6:aD Tryz.prog 83 [.isl (.ints .i64 exP) .none,.int .i64 2] (.tup [.isl (.ints .i64 [2,0,1,3,4]) .none,.int .i64 0]):=by
 have h:=Cg exP 2 (by decide) (by decide)
 rw[show dB 5 exP=0 from by decide+kernel,if_pos rfl,show pwL exP 2=[2,0,1,3,4]from by decide+kernel]at h
 exact h
theorem a7:aD Tryz.prog 18 [.isl (.ints .i64 [2,0,1]) .none] (.tup [.str ⟨#[52]⟩,.int .i64 0]):=by
 have h:=RH [2,0,1] (by decide) (by decide+kernel)
 rw[show rsS (rkN [2,0,1]:Nat)=⟨#[52]⟩from by decide+kernel,show rsE (rkN [2,0,1]:Nat)=0 from by decide+kernel]at h
 exact h
theorem a8:aD Tryz.prog 19 [.int .i64 4,.str ⟨#[50,51]⟩] (.tup [.isl (.ints .i64 [3,2,1,0]) .none,.int .i64 0]):=by
 have h:=Y2 4 (by decide) 23 (by decide+kernel) (by decide+kernel) (by decide+kernel) 23 (by decide+kernel) (by decide+kernel) (by decide+kernel)
 rw[show txQ 23=⟨#[50,51]⟩from by decide+kernel,show ag2 4 23=[3,2,1,0]from by decide+kernel]at h
 exact h
theorem a9:aD Tryz.prog 70 [RN] (.tup [.isl (.pv [stV [⟨#[49]⟩,⟨#[45,49,47,50]⟩,⟨#[48]⟩]]) .none,.int .i64 0]):=by
 have h:=YO VY (by decide) (by unfold agN;decide+kernel)
 unfold mtR at h;rw[show mtE (keQ 2 3 (qOf exM)).piv.length 3 (keQ 2 3 (qOf exM)).M=0 from by decide+kernel,show mtN (keQ 2 3 (qOf exM)).piv.length 3 (keQ 2 3 (qOf exM)).M=1 from by decide+kernel]at h
 refine iI (cB (ys:=[tmV 2 (qmL 3 (qOf exM))]) (fun S wd vs hA=>⟨hA.1,fun i hi=>?_⟩) h) (uD (RI (n:=1) rfl fun i hi=>?_) _ _)
 ·have:=hA.2 i hi
  match i,hi with
  |0,_=>exact sD RJ rfl aa0 this
 ·obtain rfl:i=0:=by omega
  exact congrArg stV (by decide+kernel)
theorem a10:aD Tryz.prog 93 [RN,stV [⟨#[52]⟩,⟨#[57]⟩]] (.tup [stV [⟨#[49]⟩,⟨#[48]⟩,⟨#[49]⟩],.int .i64 0]):=by
 have h:=YS VY ag6 (by decide) (by decide+kernel)
 unfold Kl at h;rw[show YR 3 (svQ (slQ 2 3 (qOf exM) (vOf [4,9])) 3 (slQ 2 3 (qOf exM) (vOf [4,9])).piv.length)=[⟨#[49]⟩,⟨#[48]⟩,⟨#[49]⟩]from by decide+kernel,show Rs 3 (svQ (slQ 2 3 (qOf exM) (vOf [4,9])) 3 (slQ 2 3 (qOf exM) (vOf [4,9])).piv.length)=0 from by decide+kernel]at h
 refine cB (ys:=[tmV 2 (qmL 3 (qOf exM)),stV (qsL 2 (vOf [4,9]))]) (fun S wd vs hA=>⟨hA.1,fun i hi=>?_⟩) h;have:=hA.2 i hi
 match i,hi with
 |0,_=>exact sD RJ rfl aa0 this
 |1,_=>rw[show qsL 2 (vOf [4,9])=[⟨#[52]⟩,⟨#[57]⟩]from by decide+kernel];exact this
theorem a11:aD Tryz.prog 33 [ag9] (.tup [.str ⟨#[45,50]⟩,.int .i64 0]):=by
 have h:=YQ ag4 (by decide+kernel)
 rw[show rsS (deQ 2 (qOf exD))=⟨#[45,50]⟩from by decide+kernel,show rsE (deQ 2 (qOf exD))=0 from by decide+kernel]at h
 refine cB (ys:=[tmV 2 (qmL 2 (qOf exD))]) (fun S wd vs hA=>⟨hA.1,fun i hi=>?_⟩) h;have:=hA.2 i hi
 match i,hi with
 |0,_=>exact sD Y6 rfl ahV this
theorem a13:aD Tryz.prog 95 [aha,stV [⟨#[49]⟩,⟨#[51]⟩],stV [⟨#[45,50]⟩,⟨#[49]⟩]] (.int .i64 0):=by
 have h:=YV ag5 ag7 ag8 (by decide) (by decide)
 rw[show crQ 2 2 (qOf exR) (vOf [1,3]) (vOf [-2,1])=true from by decide+kernel,if_pos rfl]at h
 refine cB (ys:=[tmV 2 (qmL 2 (qOf exR)),stV (qsL 2 (vOf [1,3])),stV (qsL 2 (vOf [-2,1]))]) (fun S wd vs hA=>⟨hA.1,fun i hi=>?_⟩) h;have:=hA.2 i hi
 match i,hi with
 |0,_=>exact sD Y7 rfl ahW this
 |1,_=>rw[show qsL 2 (vOf [1,3])=[⟨#[49]⟩,⟨#[51]⟩]from by decide+kernel];exact this
 |2,_=>rw[show qsL 2 (vOf [-2,1])=[⟨#[45,50]⟩,⟨#[49]⟩]from by decide+kernel];exact this
abbrev exI:List (List Int):=[[1,2],[3,4]]
theorem ahb:YL 2 2 (iOf exI) 2:=⟨by decide,by decide,⟨by decide,by decide⟩,by decide+kernel,⟨by decide,by decide⟩,by decide,by decide⟩
abbrev ahc:PV:=.isl (.rows .i64 exI) .none
theorem a12:aD Tryz.prog 57 [ahc,.int .i64 2] (.tup [.isl (.rows .i64 [[0,1]]) .none,.int .i64 0]):=by
 have h:=YM 2 2 (iOf exI) 2 ahb (k:=0) (by decide+kernel)
 rw[show(gP (Fp 2) 0 1 2 2 (rsM 2 (iOf exI))).piv.length=1 from by decide+kernel]at h
 refine iI (cB (ys:=[tmI 2 (iOf exI),.int .i64 2]) (fun S wd vs hA=>⟨hA.1,fun i hi=>?_⟩) (F5 h (by decide))) (uD ?_ _ _)
 ·have:=hA.2 i hi
  match i,hi with
  |0,_=>exact jy (uK exI) this
  |1,_=>exact this
 ·refine⟨rfl,rfl,fun j hj=>?_⟩
  obtain rfl:j=0:=by simp only[CL.ncell]at hj;omega
  show PV.isl (.ints .i64 [0,1]) .none=PV.isl (.ints .i64 (cO 2 ((gP (Fp 2) 0 1 2 2 (rsM 2 (iOf exI))).M 0))) .none;rw[show cO 2 ((gP (Fp 2) 0 1 2 2 (rsM 2 (iOf exI))).M 0)=[0,1]from by decide+kernel]
theorem b1:aD Tryz.prog 77 [.isl (.pv [stV [⟨#[49]⟩,⟨#[45,49,47,50]⟩,⟨#[48]⟩]]) .none,.isl (.pv (Y8.map stF)) .none] (.bp true):=by
 have h:=VF 1 1 (fun _=>[⟨#[49]⟩,⟨#[45,49,47,50]⟩,⟨#[48]⟩]) (fun _=>[⟨#[49]⟩,⟨#[45,49,47,50]⟩,⟨#[48]⟩]) (by decide) (by decide) (by decide) true (by simp[agU])
 refine cB (ys:=[tmV 1 fun _=>[⟨#[49]⟩,⟨#[45,49,47,50]⟩,⟨#[48]⟩],tmV 1 fun _=>[⟨#[49]⟩,⟨#[45,49,47,50]⟩,⟨#[48]⟩]]) (fun S wd vs hA=>⟨hA.1,fun i hi=>?_⟩) h;have:=hA.2 i hi
 match i,hi with
 |0,_=>exact jy (BM (n:=1) rfl fun i hi=>by(obtain rfl:i=0:=by omega);rfl) this
 |1,_=>exact sD Y8 rfl (by decide) this
def RO:PSp:=fun xs K=>match xs with
 | [.isl (.rows .i64 a) .none,.isl (.rows .i64 b) .none]=>VC ((a.length≤1000000∧b.length≤1000000)∧(∀r,r∈a→r.length≤1000000000)∧(∀r,r∈b→r.length≤1000000000))∧K (.bp (decide (a=b)))
 |_=>False
theorem aeG:POK Tryz.prog 61 RO:=by
 intro xs K hk;unfold RO at hk;split at hk
 ·exact⟨_,hk.2,Fy _ _ hk.1.get.1 hk.1.get.2.1 hk.1.get.2.2⟩
 ·exact hk.elim
noncomputable def aju:CPT:=iw 39 [.int .i64 6,.int .i64 (-4)] (.tup [.str ⟨#[45,51,47,50]⟩,.int .i64 0])
 (iw 41 [.int .i64 12,.int .i64 (-18)] (.tup [.int .i64 6,.int .i64 0])
 (iw 45 [.int .i64 3,.int .i64 10] (.tup [.int .i64 7,.int .i64 0])
 (iw 84 [.isl (.ints .i64 exP) .none] (.tup [.isl (.rows .i64 [[0,1,2],[3,4]]) .none,.int .i64 0])
 (iw 85 [.isl (.ints .i64 exP) .none] (.tup [.int .i64 (-1),.int .i64 0])
 (iw 83 [.isl (.ints .i64 exP) .none,.int .i64 2] (.tup [.isl (.ints .i64 [2,0,1,3,4]) .none,.int .i64 0])
 (iw 18 [.isl (.ints .i64 [2,0,1]) .none] (.tup [.str ⟨#[52]⟩,.int .i64 0])
 (iw 19 [.int .i64 4,.str ⟨#[50,51]⟩] (.tup [.isl (.ints .i64 [3,2,1,0]) .none,.int .i64 0])
 (iw 70 [RN] (.tup [.isl (.pv [stV [⟨#[49]⟩,⟨#[45,49,47,50]⟩,⟨#[48]⟩]]) .none,.int .i64 0])
 (iw 93 [RN,stV [⟨#[52]⟩,⟨#[57]⟩]] (.tup [stV [⟨#[49]⟩,⟨#[48]⟩,⟨#[49]⟩],.int .i64 0])
 (iw 33 [ag9] (.tup [.str ⟨#[45,50]⟩,.int .i64 0])
 (iw 57 [ahc,.int .i64 2] (.tup [.isl (.rows .i64 [[0,1]]) .none,.int .i64 0])
 (iw 95 [aha,stV [⟨#[49]⟩,⟨#[51]⟩],stV [⟨#[45,50]⟩,⟨#[49]⟩]] (.int .i64 0)
 (iw 77 [.isl (.pv [stV [⟨#[49]⟩,⟨#[45,49,47,50]⟩,⟨#[48]⟩]]) .none,.isl (.pv (Y8.map stF)) .none] (.bp true)
 (aB 61 (aP RO) (aB 51 (aP Cb) (aB 106 (aP GY) (aB 37 (aP Y5) noC)))))))))))))))))
theorem aeH:bC Tryz.prog aju:=aY a1 (aY a2 (aY a3 (aY a4 (aY a5 (aY a6 (aY a7 (aY a8 (aY a9 (aY a10 (aY a11 (aY a12 (aY a13 (aY b1 (au (aC aeG) (au (aC DT) (au (aC Oc) (au (aC ag3) aF)))))))))))))))))
theorem RP:aD Tryz.prog 17 [] (.bp true):=by
 refine ay (md:=1) (rf:=[]) mixed av aeH Tryz.func17 (by rfl) (by rfl) (by rfl) ?_
 repeat'((conv=>whnf);first|(intro hq;(try simp only[vw]at hq);try exact ak hq)|apply aI|exact aj|apply nM|apply fM)
 all_goals((try apply vM);(try simp only[vq]at*);try omega)
 all_goals(try rfl)
 all_goals(try decide+kernel)
 all_goals(try(exfalso;exact absurd hq (by decide+kernel)))
 have hb:∀b,b=true→Sup (dH [PV.bp b]) (PV.bp true):=fun b e=>by subst e;exact Sup.of rfl
 all_goals first|exact hb _ (by decide+kernel)
end Go.Eng.YtmkagljofpddpaaGreatDoor
namespace Go.Eng.YtmkagljofpddpaaGreatDoor
open Go.Proofs Go.Eng.Dig Go.Eng.Pm
set_option linter.unusedSimpArgs false
set_option linter.unusedVariables false
set_option maxHeartbeats 0
set_option maxRecDepth 100000
def qR (x e b y:Int):Prop:=if b≠0 then x=0∧e=b else e=0∧x=y
theorem Kv (x e b y:Int) (h:qR x e b y):aD Tryz.prog 43 [.int .i64 x,.int .i64 e,.int .i64 b,.int .i64 y] (.bp true):=by
 by_cases hb:b=0
 ·subst hb
  unfold qR at h;rw[if_neg (by simp)]at h
  obtain⟨rfl,rfl⟩:=h;refine ay (md:=1) (rf:=[]) mixed av aF Tryz.func43 (by rfl) (by rfl) (by rfl) ?_
  all_goals exact qK
 ·unfold qR at h
  rw[if_pos hb]at h;obtain⟨rfl,rfl⟩:=h;refine ay (md:=1) (rf:=[]) mixed av aF Tryz.func43 (by rfl) (by rfl) (by rfl) ?_
  all_goals exact qK
end Go.Eng.YtmkagljofpddpaaGreatDoor
namespace Go.Eng.YtmkagljofpddpaaGreatDoor
open Go.Proofs Go.Eng.Dig Go.Eng.Dec
set_option linter.unusedSimpArgs false
set_option linter.unusedVariables false
set_option maxHeartbeats 0
set_option maxRecDepth 100000
structure QT (t:ByteArray) (x d:Nat):Prop where
 sl:slP t.data.toList=(bZ x).size
 sz:t.size=(bZ x).size+(if d=1 then 0 else(bZ d).size+1)
 hd:t.extract 0 (bZ x).size=bZ x
 tl:d≠1→t.extract ((bZ x).size+1) t.size=bZ d
def qk (q:Rat):Bool:=decide ((bZ q.num.natAbs).size≤9)&&decide ((bZ q.den).size≤9)
end Go.Eng.YtmkagljofpddpaaGreatDoor
namespace Go.Eng.YtmkagljofpddpaaGreatDoor
open Go.Proofs Go.Eng.Dig Go.Eng.Dec Go.Eng.Pm
set_option linter.unusedSimpArgs false
set_option linter.unusedVariables false
set_option maxHeartbeats 0
set_option maxRecDepth 100000
theorem Cj {b c:Bool} (h:b=c):Sup (.bp b) (.bool c):=⟨fun hr=>by subst h;cases hr;exact .bool _ _⟩
def aa1:PSp:=fun xs K=>match xs with
 | [.int .i64 x,.int .i64 e,.int .i64 b,.int .i64 y]=>VC (qR x e b y)∧K (.bool true)
 |_=>False
theorem DZ:POK Tryz.prog 43 aa1:=by
 intro xs K h;unfold aa1 at h;split at h
 ·exact⟨_,h.2,iI (Kv _ _ _ _ h.1.get) (Cj rfl)⟩
 ·exact h.elim
end Go.Eng.YtmkagljofpddpaaGreatDoor
namespace Go.Eng.YtmkagljofpddpaaGreatDoor
open Go.Proofs Go.Eng.Dig Go.Eng.Pm
set_option linter.unusedSimpArgs false
set_option linter.unusedVariables false
set_option maxHeartbeats 0
set_option maxRecDepth 100000
noncomputable def ajv:CPT:=aB 51 (aP Cb) noC
theorem Ol:bC Tryz.prog ajv:=au (aC DT) aF
def jL (x:List Int) (e b:Int) (y:List Int):Prop:=if b≠0 then x=[]∧e=b else e=0∧x=y
theorem VZ (x:List Int) (e b:Int) (y:List Int) (hl:x.length≤1000000000∧y.length≤1000000000) (h:jL x e b y):aD Tryz.prog 30 [.isl (.ints .i64 x) .none,.int .i64 e,.int .i64 b,.isl (.ints .i64 y) .none] (.bp true):=by
 by_cases hb:b=0
 ·subst hb
  unfold jL at h;rw[if_neg (by simp)]at h
  obtain⟨rfl,rfl⟩:=h;refine ay (md:=1) (rf:=[]) mixed av Ol Tryz.func30 (by rfl) (by rfl) (by rfl) ?_
  all_goals exact qK
 ·unfold jL at h
  rw[if_pos hb]at h;obtain⟨rfl,rfl⟩:=h;refine ay (md:=1) (rf:=[]) mixed av Ol Tryz.func30 (by rfl) (by rfl) (by rfl) ?_
  all_goals exact qK
theorem V3 (p q:List Int) (hl:p.length≤1000000∧q.length≤1000000) (hP:OK p) (hQ:OK q) (h3:p.length=q.length):aD Tryz.prog 90 [.isl (.ints .i64 p) .none,.isl (.ints .i64 q) .none] (.isl (.ints .i64 (cmpL p q)) .none):=by
 refine ay (md:=1) (rf:=[]) mixed av aF Tryz.func90 (by rfl) (by rfl) (by rfl) ?_
 repeat'((conv=>whnf);first|(intro hq;(try simp only[vw]at hq);try exact ak hq)|apply aI|exact aj|apply nM|apply fM)
 all_goals((try apply vM);(try simp only[vq]at*);try omega)
 conv=>whnf
 refine aU (X:=Nat) (fun i=>i≤q.length) (fun i=>[(6,.int .i64 i),(5,.isl (.ints .i64 ((cmpL p q).take i)) (.own 3))]) (fun i=>[(3,.tok 1 i)]) (fun i=>q.length-i) 0 ⟨aJ,mixed,av,aF,aR⟩ (by rfl) (by omega) ?_ ?_
 ·all_goals exact aW
 intro i hi;have hcl:=zO p q;by_cases hlt:i<q.length
 ·have e:=hQ.rng i hlt
  have ht:=agV p q i hlt;have hlen:((cmpL p q).take i).length=i:=by rw[akw];omega
  have hlen2:((cmpL p q).take (i+1)).length=i+1:=by rw[akw];omega
  repeat'((conv=>whnf);first|(intro hq;(try simp only[vw]at hq);try exact ak hq)|apply aI|exact aj|apply nM|apply fM)
  all_goals((try apply vM);(try simp only[vq]at*);try omega)
  all_goals(try simp only[ht])
  all_goals first
   |omega
   |(refine⟨i+1,[],⟨by omega,by omega⟩,?_⟩
     repeat'((conv=>whnf);first|intro _|apply aI|exact aj|apply nM|apply fM)
     all_goals((try apply vM);(try simp only[vq]at*);try omega)
     all_goals first|rfl|exact ht)
 ·have:i=q.length:=by omega
  subst this;rw[show(cmpL p q).take q.length=cmpL p q by rw[←hcl,alS]]
  repeat'((conv=>whnf);first|(intro hq;(try simp only[vw]at hq);try exact ak hq)|apply aI|exact aj|apply nM|apply fM)
  all_goals((try apply vM);(try simp only[vq]at*);try omega)
  all_goals first|exact Sup.of rfl|exact Ko _ _ _ _ rfl
theorem Om (k:IntKind) (l:List Int) (n:Nat) (h:l.length=n):Sup (dH [PV.isl ((CL.ints k l).sub 0 n) .none]) (.isl (.ints k l) .none):=by
 subst h;refine Sup.of ?_;simp[dH,CL.sub]
theorem LJ (p:List Int) (hl:p.length≤1000000) (hP:OK p):aD Tryz.prog 86 [.isl (.ints .i64 p) .none] (.isl (.ints .i64 (ni p p.length)) .none):=by
 refine ay (md:=1) (rf:=[]) mixed av aF Tryz.func86 (by rfl) (by rfl) (by rfl) ?_
 repeat'((conv=>whnf);first|(intro hq;(try simp only[vw]at hq);try exact ak hq)|apply aI|exact aj|apply nM|apply fM)
 all_goals((try apply vM);(try simp only[vq]at*);try omega)
 all_goals(try exact .inl trivial)
 conv=>whnf
 refine aU (X:=Nat) (fun i=>i≤p.length) (fun i=>[(4,.int .i64 i)]) (fun i=>[(0,.cells (.ints .i64 (ni p i)) false)]) (fun i=>p.length-i) 0 ⟨aJ,mixed,av,aF,aR⟩ (by rfl) (by omega) ?_ ?_
 ·all_goals exact pI
 intro i hi;have hil:=zP p i;by_cases hlt:i<p.length
 ·have e:=hP.rng i hlt
  all_goals exact EU
 ·have:i=p.length:=by omega
  subst this
  repeat'((conv=>whnf);first|(intro hq;(try simp only[vw]at hq);try exact ak hq)|apply aI|exact aj|apply nM|apply fM)
  all_goals((try apply vM);(try simp only[vq]at*);try omega)
  all_goals first|exact Om _ _ _ hil|exact Sup.of rfl|omega
def kW (p:List Int) (i:Nat) (s:Int):Nat→Int
 |0=>s
 |k+1=>if p.getD i 0<p.getD k 0 then 0-kW p i s k else kW p i s k
def rA (p:List Int):Nat→Int
 |0=>1
 |i+1=>kW p i (rA p i) i
def zV (p:List Int):Int:=rA p p.length
theorem Oo {p:List Int} {i:Nat} {s:Int} (h:s=1∨s= -1):∀k,kW p i s k=1∨kW p i s k= -1:=by
 intro k;induction k with
 |zero=>exact h
 |succ k ih=>rw[kW];split<;>rcases ih with h|h<;>rw[h]<;>simp
theorem aeI (p:List Int):∀i,rA p i=1∨rA p i= -1:=by
 intro i;induction i with
 |zero=>exact .inl rfl
 |succ i ih=>exact Oo ih i
theorem LK (p:List Int) (hl:p.length≤1000000):aD Tryz.prog 89 [.isl (.ints .i64 p) .none] (.int .i64 (zV p)):=by
 refine ay (md:=1) (rf:=[]) mixed av aF Tryz.func89 (by rfl) (by rfl) (by rfl) ?_
 repeat'((conv=>whnf);first|(intro hq;(try simp only[vw]at hq);try exact ak hq)|apply aI|exact aj|apply nM|apply fM)
 all_goals((try apply vM);(try simp only[vq]at*);try omega)
 conv=>whnf
 refine aU (X:=Nat) (fun i=>i≤p.length) (fun i=>[(4,.int .i64 i),(3,.int .i64 (rA p i)),(5,.any)]) (fun _=>[]) (fun i=>p.length-i) 0 ⟨aJ,mixed,av,aF,aR⟩ (by rfl) (by omega) ?_ ?_
 ·all_goals exact pI
 intro i hi;by_cases hlt:i<p.length
 ·have hs:=aeI p i
  have hn:rA p (i+1)=kW p i (rA p i) i:=rfl;generalize rA p i=s at*
  repeat'((conv=>whnf);first|(intro hq;(try simp only[vw]at hq);try exact ak hq)|apply aI|exact aj|apply nM|apply fM)
  all_goals((try apply vM);(try simp only[vq]at*);try omega)
  conv=>whnf
  refine aU (X:=Nat) (fun k=>k≤i) (fun k=>[(5,.int .i64 k),(3,.int .i64 (kW p i s k))]) (fun _=>[]) (fun k=>i-k) 0 ⟨aJ,mixed,av,aF,aR⟩ (by rfl) (by omega) ?_ ?_
  ·all_goals exact pI
  intro k hk;by_cases hki:k<i
  ·have hpm:=Oo (p:=p) (i:=i) hs k
   have hn2:kW p i s (k+1)=if p.getD i 0<p.getD k 0 then 0-kW p i s k else kW p i s k:=rfl;generalize kW p i s k=v at*
   by_cases hc:p.getD i 0<p.getD k 0
   ·rw[if_pos hc]at hn2
    all_goals exact Ta
   ·rw[if_neg hc]at hn2
    all_goals exact Ta
  ·have:k=i:=by omega
   subst this
   repeat'((conv=>whnf);first|(intro hq;(try simp only[vw]at hq);try exact ak hq)|apply aI|exact aj|apply nM|apply fM)
   all_goals((try apply vM);(try simp only[vq]at*);try omega)
   all_goals first
    |omega
    |(refine⟨k+1,[],⟨by omega,by omega⟩,?_⟩
      rw[hn];all_goals exact pI)
 ·have:i=p.length:=by omega
  subst this;all_goals exact gJ
end Go.Eng.YtmkagljofpddpaaGreatDoor
namespace Go.Eng.YtmkagljofpddpaaGreatDoor
open Go.Eng.Pm
set_option linter.unusedSimpArgs false
set_option linter.unusedVariables false
def ivR (f:Nat→Int) (a:Int):Nat→Int
 |0=>1
 |k+1=>if a<f k then 0-ivR f a k else ivR f a k
def ivS (f:Nat→Int):Nat→Int
 |0=>1
 |i+1=>ivS f i*ivR f (f i) i
theorem V4 (f:Nat→Int) (a:Int):∀k,ivR f a k=1∨ivR f a k= -1:=by
 intro k;induction k with
 |zero=>exact .inl rfl
 |succ k ih=>rw[ivR];split<;>rcases ih with h|h<;>rw[h]<;>simp
theorem ahd (f:Nat→Int):∀k,ivS f k=1∨ivS f k= -1:=by
 intro k;induction k with
 |zero=>exact .inl rfl
 |succ k ih=>rw[ivS];rcases ih with h|h<;>rcases V4 f (f k) k with g|g<;>rw[h,g]<;>simp
theorem V5 (f:Nat→Int) (k:Nat):ivS f k*ivS f k=1:=by rcases ahd f k with h|h<;>rw[h]<;>rfl
theorem aeJ (p:List Int) (i:Nat) (s:Int):∀k,kW p i s k=s*ivR (fun k=>p.getD k 0) (p.getD i 0) k:=by
 intro k;induction k with
 |zero=>simp[kW,ivR]
 |succ k ih=>
  rw[kW,ivR,ih];split
  ·grind
  ·rfl
theorem aeK (p:List Int):∀i,rA p i=ivS (fun k=>p.getD k 0) i:=by
 intro i;induction i with
 |zero=>rfl
 |succ i ih=>rw[rA,ivS,aeJ,ih]
theorem xg {f g:Nat→Int} (a:Int):∀k,(∀i,i<k→f i=g i)→ivR f a k=ivR g a k:=by
 intro k;induction k with
 |zero=>intro _;rfl
 |succ k ih=>
  intro h;rw[ivR,ivR,ih (fun i hi=>h i (by omega)),h k (by omega)]
theorem FE {f g:Nat→Int}:∀k,(∀i,i<k→f i=g i)→ivS f k=ivS g k:=by
 intro k;induction k with
 |zero=>intro _;rfl
 |succ k ih=>
  intro h;rw[ivS,ivS,ih (fun i hi=>h i (by omega)),h k (by omega),xg _ k (fun i hi=>h i (by omega))]
theorem Oq {f:Nat→Int} {a:Int}:∀k,(∀i,i<k→f i<a)→ivR f a k=1:=by
 intro k;induction k with
 |zero=>intro _;rfl
 |succ k ih=>
  intro h;have:=h k (by omega)
  rw[ivR,ih (fun i hi=>h i (by omega)),if_neg (by omega)]
theorem aeL {f g:Nat→Int} {n j:Nat} (hj:j<n) (hg:∀k,k<n→g k=if k=j then f n else f k) (hd:∀k,k<n→f k≠f n) (hm:∀k,k≤n→k≠j→f k<f j):ivS f (n+1)= -ivS g n:=by
 have low:∀i,i≤j→ivS f i=ivS g i:=fun i hi=>FE i fun k hk=>by rw[hg k (by omega),if_neg (by omega)]
 have key:∀i,j<i→i≤n→ivR f (f n) i= -(ivS f i*ivS g i):=by
  intro i;induction i with
  |zero=>intro h;omega
  |succ i ih=>
   intro h1 h2;by_cases e:i=j
   ·subst e
    have t1:ivR f (f i) i=1:=Oq i fun k hk=>hm k (by omega) (by omega)
    have t2:g i=f n:=by rw[hg i (by omega),if_pos rfl]
    have t3:ivR g (g i) i=ivR f (f n) i:=by rw[t2];exact xg _ i fun k hk=>by rw[hg k (by omega),if_neg (by omega)]
    have t4:=hm n (ajE n) (by omega)
    have t5:=V5 f i;rw[ivR,if_pos t4,ivS,ivS,t1,t3,←low i (ajE i)]
    grind
   ·have h3:=ih (by omega) (by omega)
    have a1:g i=f i:=by rw[hg i (by omega),if_neg e]
    have a2:=hd i (by omega)
    have a3:=hm i (by omega) e
    have a5:∀k,j<k→k≤i→ivR f (f i) k*ivR g (f i) k=if f n>f i then 1 else-1:=by
     intro k;induction k with
     |zero=>intro h;omega
     |succ k ihk=>
      intro g1 g2;by_cases ek:k=j
      ·subst ek
       have c1:g k=f n:=by rw[hg k (by omega),if_pos rfl]
       have c2:ivR g (f i) k=ivR f (f i) k:=xg _ k fun m hm'=>by rw[hg m (by omega),if_neg (by omega)]
       have c3:ivR f (f i) k*ivR f (f i) k=1:=by rcases V4 f (f i) k with h|h<;>rw[h]<;>rfl
       rw[ivR,ivR,if_pos a3,c1,c2];split
       ·grind
       ·grind
      ·have c1:g k=f k:=by rw[hg k (by omega),if_neg ek]
       have c2:=ihk (by omega) (by omega)
       rw[ivR,ivR,c1,←c2];split
       ·grind
       ·rfl
    have a6:=a5 i (by omega) (ajE i)
    rw[ivR,h3,ivS,ivS,a1];split
    ·rw[if_neg (by omega)]at a6;grind
    ·rw[if_pos (by omega)]at a6;grind
 have h1:=key n hj (ajE n);have h2:=V5 f n;rw[ivS,h1]
 grind
theorem Ot {p:List Int} (h:OK p) {x:Nat} (hx:x<p.length):per p x=((ajO p.length).filter (inB p x)).length:=by
 have e:(ajO (per p x)).map (fun k=>it p k x)=(ajO (per p x)).map (fun k=>it p k x):=rfl;have n1:((ajO (per p x)).map fun k=>it p k x).Nodup:=by
  refine(List.nodup_iff_pairwise_ne.2 ?_);rw[List.pairwise_map];refine List.Pairwise.imp_of_mem (R:=fun a b=>a<b) (fun{a b'} ha hb hlt e=>?_) List.pairwise_lt_range;have:=Fj h hx (aly.1 ha) (aly.1 hb) e;omega
 have n2:((ajO p.length).filter (inB p x)).Nodup:=List.nodup_range.filter _;have hp:List.Perm ((ajO (per p x)).map fun k=>it p k x) ((ajO p.length).filter (inB p x)):=by
  refine(List.perm_ext_iff_of_nodup n1 n2).2 fun y=>?_;rw[anW,List.mem_filter,aly];constructor
  ·rintro⟨k,hk,rfl⟩
   exact⟨jA h hx k,(iC h hx).2 ⟨k,rfl⟩⟩
  ·rintro⟨h1,h2⟩
   obtain⟨k,hk,e⟩:=BO h hx ((iC h hx).1 h2);exact⟨k,aly.2 hk,e⟩
 have:=hp.length_eq;rw[anP,List.length_range]at this;exact this
def fA (p:List Int) (n:Nat):List Int:=(ajO n).map fun k=>if p.getD k 0=n then p.getD n 0 else p.getD k 0
theorem iL (p:List Int) (n:Nat):(fA p n).length=n:=by simp[fA]
theorem nu (p:List Int) {n k:Nat} (h:k<n):(fA p n).getD k 0=if p.getD k 0=n then p.getD n 0 else p.getD k 0:=by
 simp[fA,ajQ,h]
theorem qo {p:List Int} (h:OK p) {n:Nat} (hn:p.length=n+1):OK (fA p n):=by
 have hr:=fun i (hi:i<n+1)=>h.rng i (by omega)
 have hi:=fun i j (a:i<n+1) (b:j<n+1) e=>h.inj i j (by omega) (by omega) e
 constructor
 ·intro i hi'
  rw[iL]at hi'⊢;rw[nu p hi'];have h1:=hr i (by omega)
  have h2:=hr n (by omega)
  rw[hn]at h1 h2;split
  ·rename_i e
   have:p.getD n 0≠n:=fun g=>by have:=hi i n (by omega) (by omega) (e.trans g.symm);omega
   omega
  ·omega
 ·intro i j a b e
  rw[iL]at a b;rw[nu p a,nu p b]at e;split at e
  ·rename_i e1
   split at e
   ·rename_i e2;exact hi i j (by omega) (by omega) (e1.trans e2.symm)
   ·have:=hi n j (by omega) (by omega) e;omega
  ·split at e
   ·have:=hi i n (by omega) (by omega) e;omega
   ·exact hi i j (by omega) (by omega) e
theorem zW {p:List Int} {n x:Nat} (h:OK p) (hn:p.length=n+1) (hx:x<n):ap (fA p n) x=if ap p x=n then ap p n else ap p x:=by
 have h1:=mY h (x:=x) (by omega)
 unfold ap at h1⊢;rw[nu p hx];by_cases e:p.getD x 0=n
 ·rw[if_pos e,if_pos (by omega)]
 ·rw[if_neg e,if_neg (by omega)]
theorem xu {p:List Int} {n x y:Nat} (h:OK p) (hn:p.length=n+1) (hx:x<n) (hy:y<n):Go.Eng.Pm.inC (fA p n) x y↔Go.Eng.Pm.inC p x y:=by
 have hq:=qo h hn;have hlt:=fun k=>jA hq (x:=x) (by rw[iL];exact hx) k
 rw[iL]at hlt;constructor
 ·rintro⟨k,rfl⟩
  clear hy;induction k with
  |zero=>exact .refl p x
  |succ k ih=>
   obtain⟨m,hm⟩:=ih;show Go.Eng.Pm.inC p x (ap (fA p n) (it (fA p n) k x));rw[zW h hn (hlt k)];split
   ·rename_i e
    exact⟨m+1+1,by show ap p (ap p (it p m x))=_;rw[hm,e]⟩
   ·exact⟨m+1,by show ap p (it p m x)=_;rw[hm]⟩
 ·rintro⟨k,rfl⟩
  have key:∀k,it p k x<n→Go.Eng.Pm.inC (fA p n) x (it p k x):=by
   intro k;induction k using Nat.strongRecOn with
   |_ k ih=>
    intro hk;cases k with
    |zero=>exact .refl _ x
    |succ k=>
     by_cases hz:it p k x<n
     ·obtain⟨m,hm⟩:=ih k (by omega) hz
      refine⟨m+1,?_⟩;show ap (fA p n) (it (fA p n) m x)=ap p (it p k x);rw[hm,zW h hn hz,if_neg (by have:ap p (it p k x)<n:=hk;omega)]
     ·have hzn:it p k x=n:=by have:=jA h (x:=x) (by omega) k;omega
      cases k with
      |zero=>have:x=n:=hzn;omega
      |succ k=>
       have hw:it p k x<n:=by
        refine Decidable.byContradiction fun hw=>?_;have hwn:it p k x=n:=by have:=jA h (x:=x) (by omega) k;omega
        have e1:ap p n=n:=by
         have e0:ap p (it p k x)=n:=hzn;rw[hwn]at e0;exact e0
        have e2:it p (k+1+1) x=n:=by show ap p (it p (k+1) x)=n;rw[hzn];exact e1
        omega
       obtain⟨m,hm⟩:=ih k (by omega) hw
       refine⟨m+1,?_⟩;show ap (fA p n) (it (fA p n) m x)=ap p (it p (k+1) x);rw[hm,zW h hn hw,if_pos (show ap p (it p k x)=n from hzn),hzn]
  exact key k hy
theorem V6 {p:List Int} {n x y:Nat} (h:OK p) (hn:p.length=n+1) (hx:x<n) (hy:y<n):inB (fA p n) x y=inB p x y:=by
 rw[anx,iC (qo h hn) (by rw[iL];exact hx),iC h (by omega)]
 exact xu h hn hx hy
theorem zX {p:List Int} {n x:Nat} (h:OK p) (hn:p.length=n+1) (hx:x<n):hd (fA p n) x=hd p x:=by
 rw[anx,p9 (qo h hn) (by rw[iL];omega),p9 h (by omega)]
 exact forall_congr' fun j=>⟨fun g hj c=>g hj ((xu h hn (by omega) hx).2 c),fun g hj c=>g hj ((xu h hn (by omega) hx).1 c)⟩
theorem xw {p:List Int} {n x:Nat} (h:OK p) (hn:p.length=n+1) (hx:x<n):per p x=per (fA p n) x+(if inB p x n=true then 1 else 0):=by
 rw[Ot h (by omega),Ot (qo h hn) (by rw[iL];exact hx),iL,hn,am4,List.filter_append,akY]
 congr 1
 ·exact congrArg List.length (List.filter_congr fun y hy=>(V6 h hn hx (aly.1 hy)).symm)
 ·simp only[List.filter_cons,List.filter_nil]
  split<;>rfl
def csF (p:List Int) (x:Nat):Int:=if hd p x=true then(if per p x % 2=0 then-1 else 1)else 1
def csS (p:List Int):Nat→Int
 |0=>1
 |i+1=>csS p i*csF p i
theorem aeM (l:List (List Int)) (c:List Int):sgT (l++[c])=if c.length % 2=0 then 0-sgT l else sgT l:=by
 unfold sgT;rw[List.foldl_append];rfl
theorem ahe (p:List Int):∀i,sgT (fq p i)=csS p i:=by
 intro i;induction i with
 |zero=>rfl
 |succ i ih=>
  rw[lH,csS,csF];cases hh:hd p i
  ·rw[if_neg (by simp),if_neg (by simp),an8,ih]
   grind
  ·rw[if_pos rfl,if_pos rfl,aeM,mZ,ih]
   split<;>grind
theorem FH {p q:List Int}:∀i,(∀x,x<i→csF p x=csF q x)→csS p i=csS q i:=by
 intro i;induction i with
 |zero=>intro _;rfl
 |succ i ih=>intro h;rw[csS,csS,ih (fun x hx=>h x (by omega)),h i (by omega)]
theorem Y9 {p q:List Int} {y:Nat} (hy:csF p y= -csF q y):∀i,y<i→(∀x,x<i→x≠y→csF p x=csF q x)→csS p i= -csS q i:=by
 intro i;induction i with
 |zero=>intro h;omega
 |succ i ih=>
  intro h1 h2;rw[csS,csS];by_cases e:i=y
  ·subst e
   rw[hy,FH i fun x hx=>h2 x (by omega) (by omega)]
   grind
  ·rw[ih (by omega) fun x hx=>h2 x (by omega),h2 i (by omega) e]
   grind
theorem V7:∀(n:Nat) (p:List Int),p.length=n→OK p→csS p n=ivS (fun k=>p.getD k 0) n:=by
 intro n;induction n with
 |zero=>intro p _ _;rfl
 |succ n ih=>
  intro p hn h;have hq:=qo h hn;have hi:=ih (fA p n) (iL p n) hq;have hr:=fun i (hi:i<n+1)=>h.rng i (by omega)
  rw[hn]at hr;by_cases hpn:p.getD n 0=n
  ·have hno:∀k,k<n→p.getD k 0≠n:=fun k hk e=>by have:=h.inj k n (by omega) (by omega) (e.trans hpn.symm);omega
   have hfix:∀k,it p k n=n:=by
    intro k;induction k with
    |zero=>rfl
    |succ k ihk=>show ap p (it p k n)=n;rw[ihk];unfold ap;omega
   have hnb:∀x,x<n→inB p x n=false:=fun x hx=>by
    rw[an0];intro hb;obtain⟨k,hk⟩:=((iC h (by omega)).1 hb).symm h (by omega)
    rw[hfix]at hk;omega
   have hhd:hd p n=true:=(p9 h (by omega)).2 fun j hj c=>by
    have:=(iC h (x:=j) (by omega)).2 c
    rw[hnb j hj]at this;cases this
   have hpr:per p n=1:=by
    obtain⟨g1,g2,g3,g4⟩:=fB h (x:=n) (by omega)
    refine Decidable.byContradiction fun hne=>g4 1 (ajE 1) (by omega) (hfix 1)
   have hcf:csF p n=1:=by unfold csF;rw[if_pos hhd,hpr];rfl
   rw[csS,hcf,ivS,Oq n fun k hk=>by rw[hpn];have:=hr k (by omega);have:=hno k hk;omega]
   rw[an9,an9,FH (q:=fA p n) n fun x hx=>by
    unfold csF;rw[zX h hn hx,xw h hn hx,hnb x hx];rfl,hi]
   exact FE n fun k hk=>by
    show(fA p n).getD k 0=p.getD k 0;rw[nu p hk,if_neg (hno k hk)]
  ·obtain⟨j,hj,hjn⟩:=adX h (y:=n) (by omega)
   have hjc:=mY h hj;rw[hjn]at hjc;have hjlt:j<n:=by
    refine Decidable.byContradiction fun g=>hpn ?_;have:j=n:=by omega
    rw[←this];omega
   have hu:∀k,k<n→p.getD k 0=n→k=j:=fun k hk e=>h.inj k j (by omega) hj (by omega)
   have hiv:ivS (fun k=>p.getD k 0) (n+1)= -ivS (fun k=>(fA p n).getD k 0) n:=by
    refine aeL hjlt (fun k hk=>?_) (fun k hk e=>?_) (fun k hk hne=>?_)
    ·show(fA p n).getD k 0=if k=j then p.getD n 0 else p.getD k 0
     rw[nu p hk];by_cases e:k=j
     ·rw[if_pos e,if_pos (by rw[e];omega)]
     ·rw[if_neg e,if_neg (fun g=>e (hu k hk g))]
    ·have:=h.inj k n (by omega) (by omega) e;omega
    ·have h1:=hr k (by omega)
     have h2:p.getD k 0≠n:=fun g=>hne (h.inj k j (by omega) hj (by omega))
     show p.getD k 0<p.getD j 0;omega
   have hmn:ap p n<n:=by
    have h1:=Q9 h (x:=n) (by omega)
    have h2:=mY h (x:=n) (by omega)
    omega
   have hhn:hd p n=false:=by
    rw[an0];intro g;exact(p9 h (by omega)).1 g _ hmn (Go.Eng.Pm.inC.symm h (by omega) ⟨1,rfl⟩)
   obtain⟨y,hy1,hy2,hy3⟩:=least h n (by omega)
   have hyn:y<n:=by
    refine Decidable.byContradiction fun g=>?_;have:y=n:=by omega
    rw[this,hhn]at hy2;cases hy2
   have hcf:csF p n=1:=by unfold csF;rw[hhn];rfl
   have hyc:csF p y= -csF (fA p n) y:=by
    unfold csF;rw[zX h hn hyn,xw h hn hyn,(iC h (by omega)).2 hy3,hy2]
    simp only[if_true];by_cases e:per (fA p n) y % 2=0
    ·rw[if_neg (by omega),if_pos e];rfl
    ·rw[if_pos (by omega),if_neg e]
   have hoth:∀x,x<n→x≠y→csF p x=csF (fA p n) x:=fun x hx hne=>by
    unfold csF;rw[zX h hn hx,xw h hn hx];cases hh:hd p x
    ·rfl
    ·have:inB p x n=false:=by
      rw[an0];intro hb;have c:=(iC h (by omega)).1 hb
      have c2:Go.Eng.Pm.inC p x y:=c.trans (hy3.symm h (by omega))
      have c3:Go.Eng.Pm.inC p y x:=c2.symm h (by omega)
      rcases Nat.lt_or_gt_of_ne hne with g|g
      ·exact(p9 h (by omega)).1 hy2 x g c2
      ·exact(p9 h (by omega)).1 hh y g c3
     rw[this];rfl
   rw[csS,hcf,hiv,←hi,an9];exact Y9 hyc n hyn hoth
theorem aeN {p:List Int} (h:OK p):sgT (cys p)=zV p:=by
 unfold cys zV;rw[ahe,V7 p.length p rfl h,aeK]
end Go.Eng.YtmkagljofpddpaaGreatDoor
namespace Go.Eng.YtmkagljofpddpaaGreatDoor
open Go.Proofs Go.Eng.Dig Go.Eng.Pm
set_option linter.unusedSimpArgs false
set_option linter.unusedVariables false
set_option maxHeartbeats 0
set_option maxRecDepth 100000
theorem FI (p:List Int) (h:OK p) (hl:p.length≤1000000):aD Tryz.prog 88 [.isl (.ints .i64 p) .none] (.isl (.rows .i64 (cys p)) .none):=by
 refine ay (md:=1) (rf:=[]) mixed av aF Tryz.func88 (by rfl) (by rfl) (by rfl) ?_
 repeat'((conv=>whnf);first|(intro hq;(try simp only[vw]at hq);try exact ak hq)|apply aI|exact aj|apply nM|apply fM)
 all_goals((try apply vM);(try simp only[vq]at*);try omega)
 all_goals try exact .inl trivial
 conv=>whnf
 refine aU (X:=Nat) (fun i=>i≤p.length) (fun i=>[(5,.int .i64 i),(6,.any),(7,.any),(3,.isl (.rows .i64 (fq p i)) (.own 9))]) (fun i=>[(0,.cells (.bools (snL p i 0)) false),(9,.tok 1 (fq p i).length)]) (fun i=>p.length-i) 0 ⟨aJ,mixed,av,aF,aR⟩ (by rfl) (by omega) ?_ ?_
 ·repeat'((conv=>whnf);first|intro _|apply aI|exact aj|apply nM|apply fM)
  all_goals((try apply vM);(try simp only[vq]at*);try omega)
  all_goals first|exact uE p|exact(uE p).symm
 intro i hi;have hn:=yC p i;have hcT:=uF p i;by_cases hlt:i<p.length
 ·have hrng:=fun t=>jA h hlt t
  have hper:=fB h hlt;have hat:∀t,(snL p i t).getD (it p t i) false=snB p i t (it p t i):=fun t=>U6 (hrng t) i t
  repeat'((conv=>whnf);first|(intro hq;(try simp only[vw]at hq);try exact ak hq)|apply aI|exact aj|apply nM|apply fM)
  all_goals((try apply vM);(try simp only[vq]at*);try omega)
  conv=>whnf
  refine aU (X:=Nat) (fun t=>(t=0∨hd p i=true∧t≤per p i)) (fun t=>[(7,.int .i64 (it p t i:Nat)),(6,.isl (.ints .i64 (qj p i t)) (.own 5))]) (fun t=>[(0,.cells (.bools (snL p i t)) false),(5,.tok 1 t)]) (fun t=>per p i-t) 0 ⟨aJ,mixed,av,aF,aR⟩ (by rfl) (.inl rfl) ?_ ?_
  ·all_goals exact jq
  intro t ht;have hnt:=yC p i t;have hol:=uL p i t;have ha:=hat t;have hr:=hrng t;clear hat hrng;by_cases hs:snB p i t (it p t i)=true
  ·rw[hs]at ha
   by_cases hh:hd p i=true
   ·have ht:t=per p i:=by
     rcases ajG t (per p i)with g|g
     ·rw[U7 h hlt hh g]at hs;cases hs
     ·rcases ht with e|⟨_,e⟩
      ·omega
      ·omega
    subst ht;have e1:fq p (i+1)=fq p i++[cyc p i]:=by rw[lH,if_pos hh]
    have e2:(fq p (i+1)).length=(fq p i).length+1:=by rw[e1];simp
    have e3:qj p i (per p i)=cyc p i:=rfl;have e4:=JQ h hlt hh;have hcl:=mZ p i;have e5:=e1.symm;rw[e3];clear e3 hol
    repeat'((conv=>whnf);first|(intro hq;(try simp only[vw]at hq);try exact ak hq)|apply aI|exact aj|apply nM|apply fM)
    all_goals((try apply vM);(try simp only[vq]at*);try omega)
    all_goals first
     |(simp only[ha,aku,akt,reduceCtorEq,akC]at*;done)
     |omega
     |(rw[e5,e2];omega)
     |(refine⟨i+1,[],⟨by omega,by omega⟩,?_⟩
       rw[e2,←e4]
       repeat'((conv=>whnf);first|intro _|apply aI|exact aj|apply nM|apply fM)
       all_goals((try apply vM);(try simp only[vq]at*);try omega)
       all_goals first|exact e5|exact e5.symm|exact congrArg _ e5|rfl)
   ·have ht:t=0:=ht.elim id fun g=>absurd g.1 hh
    subst ht;have e4:=JR h hlt (an0.2 hh);have e1:fq p (i+1)=fq p i:=by rw[lH,if_neg hh];simp
    have e0:qj p i 0=[]:=rfl
    repeat'((conv=>whnf);first|(intro hq;(try simp only[vw]at hq);try exact ak hq)|apply aI|exact aj|apply nM|apply fM)
    all_goals((try apply vM);(try simp only[vq]at*);try omega)
    all_goals first
     |(simp only[ha,aku,akt,reduceCtorEq,akC]at*;done)
     |omega
     |(refine⟨i+1,[],⟨by omega,by omega⟩,?_⟩
       rw[e1,←e4];all_goals exact jq)
  ·have hs:=an0.2 hs
   rw[hs]at ha;have hh:hd p i=true:=by
    rcases ht with e|e
    ·subst e
     cases hh:hd p i with
     |true=>rfl
     |false=>have:=U9 hh;rw[show it p 0 i=i from rfl]at hs;rw[hs]at this;cases this
    ·exact e.1
   have ht:t<per p i:=by
    refine Nat.lt_of_not_le fun g=>?_;have:t=per p i:=by rcases ht with e|e<;>omega
    subst this;rw[U8 h hlt]at hs;cases hs
   have e4:=NK h hlt (t:=t);have e5:=Fz p i t;have e6:=mY h hr;have e7:((it p (t+1) i:Nat):Int)=p.getD (it p t i) 0:=e6;have hol2:=uL p i (t+1)
   repeat'((conv=>whnf);first|(intro hq;(try simp only[vw]at hq);try exact ak hq)|apply aI|exact aj|apply nM|apply fM)
   all_goals((try apply vM);(try simp only[vq]at*);try omega)
   all_goals(try simp only[e5])
   all_goals first
    |(simp only[ha,aku,akt,reduceCtorEq,akC]at*;done)
    |omega
    |(refine⟨t+1,[],⟨.inr ⟨hh,by omega⟩,by omega⟩,?_⟩
      rw[←e4,e7]
      repeat'((conv=>whnf);first|intro _|apply aI|exact aj|apply nM|apply fM)
      all_goals((try apply vM);(try simp only[vq]at*);try omega)
      all_goals first|exact e4|rfl|exact e5)
 ·have:i=p.length:=by omega
  subst this;all_goals exact gJ
end Go.Eng.YtmkagljofpddpaaGreatDoor
namespace Go.Eng.YtmkagljofpddpaaGreatDoor
open Go.Proofs Go.Eng.Pm
set_option linter.unusedSimpArgs false
set_option linter.unusedVariables false
set_option maxHeartbeats 0
set_option maxRecDepth 100000
def V8 (xs:List PV) (r:PV):PSp:=fun ys K=>VC (ys=xs)∧K r
theorem Za {g:FuncId} {xs:List PV} {r:PV} (h:aD Tryz.prog g xs r):POK Tryz.prog g (V8 xs r):=by
 rintro ys K ⟨⟨rfl⟩,hK⟩
 exact⟨r,hK,h⟩
noncomputable def ahX (g:FuncId) (xs:List PV) (r:PV) (C:CPT):CPT:=aB g (aP (V8 xs r)) C
theorem Zb {g:FuncId} {xs:List PV} {r:PV} {C:CPT} (h:aD Tryz.prog g xs r) (hC:bC Tryz.prog C):bC Tryz.prog (ahX g xs r C):=au (aC (Za h)) hC
theorem aeO (k:IntKind) (l:List Int) (n:Nat) (h:l.length=n):Sup (dH [PV.isl ((CL.ints k l).sub 0 n) .none]) (.isl (.ints k l) .none):=Om k l n h
theorem V9 (p:List Int) (k:Int) (hk: -9223372036854775808≤k∧k≤9223372036854775807) (hp:p.length≤1000000) (hP:OK p):aD Tryz.prog 87 [.isl (.ints .i64 p) .none,.int .i64 k] (.isl (.ints .i64 (pwL p k)) .none):=by
 have hcl:(cys p).length≤p.length:=uF p p.length;have hall0:=Kt hP k;have hge:∀i,i<(cys p).length→∃x,x<p.length∧hd p x=true∧(cys p).getD i []=cyc p x:=fun i hi=>DW hi;have hc:=Zb (FI p hP hp) (au (aC aez) aF);generalize cys p=l at hcl hge hall0 hc⊢
 have hn0:=zS p k;refine ay (md:=1) (rf:=[]) mixed av hc Tryz.func87 (by rfl) (by rfl) (by rfl) ?_
 repeat'((conv=>whnf);first|(intro hq;(try simp only[vw]at hq);try exact ak hq)|apply aI|exact aj|apply nM|apply fM)
 all_goals((try apply vM);(try simp only[vq]at*);try omega)
 all_goals try exact .inl trivial
 conv=>whnf
 refine aU (X:=Nat) (fun i=>i≤l.length) (fun i=>[(7,.int .i64 i),(8,.any),(9,.any)]) (fun i=>[(0,.cells (.ints .i64 (gG p k (l.take i))) false)]) (fun i=>l.length-i) 0 ⟨aJ,mixed,av,hc,aR⟩ (by rfl) (by omega) ?_ ?_
 ·repeat'((conv=>whnf);first|intro _|apply aI|exact aj|apply nM|apply fM)
  all_goals((try apply vM);(try simp only[vq]at*);try omega)
  all_goals first|exact hn0|exact hn0.symm
 intro i hi;have hsl0:=zR p k (l.take i);by_cases hil:i<l.length
 ·obtain⟨x,hx1,hx2,hx3⟩:=hge i hil
  obtain⟨p1,p2,p3,p4⟩:=fB hP hx1;have hcl:=mZ p x;have hpn:=fun t (ht:t<per p x)=>VI (p:=p) (x:=x) ht;have hpl:=fun t (ht:t<per p x)=>wU p x t ht;have hpt:=fun t=>jA hP hx1 t;have hpa:=fun t (ht:t<per p x)=>aaX hP hx1 ht k;have htake:=FC (p:=p) k l i hil (cyc p x) hx3;have hm0:=anr k (show((per p x:Nat):Int)≠0 by omega)
  have hm1:=ant k (show 0<((per p x:Nat):Int) by omega)
  rw[hcl]at htake;generalize hcc:cyc p x=c at*
  generalize hnn:per p x=n at*
  subst hcl;obtain⟨r,hr⟩:∃r,k % (c.length:Int)=r:=⟨_,rfl⟩;rw[hr]at hm0 hm1;simp only[hr]at hpa;have hp2:=Kr (p:=p) k (l.take i) c;have hx3l:(l.getD i []).length=c.length:=by rw[hx3]
  repeat'((conv=>whnf);first|(intro hq;(try simp only[vw]at hq);try exact ak hq)|apply aI|exact aj|apply nM|apply fM)
  all_goals((try apply vM);(try simp only[vq]at*);try omega)
  conv=>whnf
  refine aU (X:=Nat) (fun t=>t≤c.length) (fun t=>[(9,.int .i64 t)]) (fun t=>[(0,.cells (.ints .i64 (gG p k (l.take i++[c.take t]))) false)]) (fun t=>c.length-t) 0 ⟨aJ,mixed,av,hc,aR⟩ (by rfl) (by omega) ?_ ?_
  ·have:gG p k (l.take i++[c.take 0])=gG p k (l.take i):=Kq _ _ _
   rw[this];all_goals exact aW
  intro t ht;have hsl:=zR p k (l.take i++[c.take t]);by_cases hlt:t<c.length
  ·have a1:=hpn t hlt
   have a2:=hpl t hlt;have a3:=hpt t;have a4:=hpa t hlt;have a5:=hp2 t (by omega) a1
   have a6:((t:Int)+r).tmod c.length=((t:Int)+r) % c.length:=anu (by omega)
   have a7:=anr ((t:Int)+r) (show(c.length:Int)≠0 by omega)
   have a8:=ant ((t:Int)+r) (show 0<(c.length:Int) by omega)
   clear hpn hpl hpt hpa hp2 hge
   repeat'((conv=>whnf);first|(intro hq;(try simp only[vw]at hq);try exact ak hq)|apply aI|exact aj|apply nM|apply fM)
   all_goals((try apply vM);(try simp only[vq]at*);try omega)
   all_goals(try simp only[hx3,hr,a6,a4,a5])
   all_goals first
    |omega
    |(refine⟨t+1,[],⟨by omega,by omega⟩,?_⟩
      all_goals exact aW)
  ·have:t=c.length:=by omega
   subst this;rw[htake]
   repeat'((conv=>whnf);first|(intro hq;(try simp only[vw]at hq);try exact ak hq)|apply aI|exact aj|apply nM|apply fM)
   all_goals((try apply vM);(try simp only[vq]at*);try omega)
   all_goals(try simp only[hx3])
   all_goals first
    |omega
    |(refine⟨i+1,[],⟨by omega,by omega⟩,?_⟩
      all_goals exact aW)
 ·have:i=l.length:=by omega
  subst this;rw[alS,hall0]
  repeat'((conv=>whnf);first|(intro hq;(try simp only[vw]at hq);try exact ak hq)|apply aI|exact aj|apply nM|apply fM)
  all_goals((try apply vM);(try simp only[vq]at*);try omega)
  all_goals first|(rw[show(pwL p k).length=p.length by simp[pwL]];omega)|exact aeO _ _ _ (by simp[pwL])
end Go.Eng.YtmkagljofpddpaaGreatDoor
namespace Go.Eng.YtmkagljofpddpaaGreatDoor
open Go.Proofs Go.Eng.Dig Go.Eng.Dec Go.Eng.Pm
set_option linter.unusedSimpArgs false
set_option linter.unusedVariables false
set_option maxHeartbeats 0
set_option maxRecDepth 100000
theorem uM:aD Tryz.prog 17 [] (.bool true):=iI RP (Cj rfl)
def Wd:PSp:=fun xs K=>match xs with
 | [.isl (.ints .i64 x) .none,.int .i64 e,.int .i64 b,.isl (.ints .i64 y) .none]=>VC ((x.length≤1000000000∧y.length≤1000000000)∧jL x e b y)∧K (.bool true)
 |_=>False
theorem zY:POK Tryz.prog 30 Wd:=by
 intro xs K h;unfold Wd at h;split at h
 ·exact⟨_,h.2,iI (VZ _ _ _ _ h.1.get.1 h.1.get.2) (Cj rfl)⟩
 ·exact h.elim
theorem Zc {p:List Int} (h:OK p) (hl:p.length≤260):(cys p).length≤1000000∧∀r,r∈cys p→r.length≤1000000000:=by
 refine⟨ajI (uF p p.length) (by omega),fun r hr=>?_⟩
 obtain⟨i,hi,_,rfl⟩:=Od hr;rw[mZ];have:=(fB h hi).2.1;omega
theorem Wh (p q:List Int) (k:Int) (hp:p.length≤9223372036854775807) (hq:q.length≤9223372036854775807) (hk: -9223372036854775808≤k∧k≤9223372036854775807):aD Tryz.prog 12 [.isl (.ints .i64 p) .none,.isl (.ints .i64 q) .none,.int .i64 k] (.bp true):=by
 by_cases hb:(260<p.length∨260<q.length)∨(40<p.length∧p.length<250)∨(40<q.length∧q.length<250)
 ·have hc:=aY uM aF
  refine ay (md:=1) (rf:=[]) mixed av hc Tryz.func12 (by rfl) (by rfl) (by rfl) ?_
  repeat'((conv=>whnf);first|(intro hq;(try simp only[vw]at hq);try exact ak hq)|apply aI|exact aj|apply nM|apply fM)
  all_goals((try apply vM);(try simp only[vq]at*);try omega)
  all_goals first|rfl|omega|exact j6 rfl|exact Sup.of rfl
 have hp260:p.length≤260:=by omega
 have hq260:q.length≤260:=by omega
 have p80:=Cc p (by omega)
 have p81:=Kn p q ⟨by omega,by omega⟩
 have p82:=LD p (by omega)
 have p83:=Cg p k hk (by omega)
 have p84:=w9 p (by omega)
 have p85:=FD p (by omega)
 by_cases ho:dB 5 p=0
 ·have hP:=oz (by decide) ho
  obtain⟨cr1,cr2⟩:=Zc hP hp260;have p86:=LJ p (by omega) hP
  have p87:=V9 p k hk (by omega) hP
  have p88:=FI p hP (by omega)
  have p89:=LK p (by omega)
  have p61:=iI (Fy (cys p) (cys p) ⟨cr1,cr1⟩ cr2 cr2) (Cj (decide_eq_true rfl));have hl1:(ni p p.length).length≤1000000000:=by rw[zP];omega
  have hl2:(pwL p k).length≤1000000000:=by simp[pwL];omega
  have hl3:(cmpL p q).length≤1000000000:=by rw[zO];omega
  have hE:kI p q=bV [dB 5 q,if p.length=q.length then 0 else 2]:=by unfold kI;rw[ho];rfl
  have hE2:bV [dB 5 q,if(p.length:Int)≠(q.length:Int)then 2 else 0]=kI p q:=by
   rw[hE];by_cases e:p.length=q.length
   ·rw[if_pos e,if_neg (by omega)]
   ·rw[if_neg e,if_pos (by omega)]
  rw[if_pos ho,ho]at p82 p83 p84 p85;rw[aeN hP]at p85;have hcQ:kI p q=0→dB 5 q=0∧p.length=q.length:=fun h=>by
   rw[hE,wT]at h;split at h
   ·rename_i g
    refine⟨g,?_⟩;refine Decidable.byContradiction fun e=>?_;rw[if_neg e]at h;cases h
   ·rename_i g;exact absurd h g
  have hL1:jL (ni p p.length) 0 0 (ni p p.length):=by unfold jL;rw[if_neg (by simp)];exact⟨rfl,rfl⟩
  have hL2:jL (pwL p k) 0 0 (pwL p k):=by unfold jL;rw[if_neg (by simp)];exact⟨rfl,rfl⟩
  have hI1:qR (zV p) 0 0 (zV p):=by unfold qR;rw[if_neg (by simp)];exact⟨rfl,rfl⟩
  by_cases hc0:kI p q=0
  ·obtain⟨hq0,hlen⟩:=hcQ hc0
   have hQ:=oz (by decide) hq0
   have p90:=V3 p q ⟨by omega,by omega⟩ hP hQ hlen
   rw[if_pos hc0,hc0]at p81;rw[hc0]at hE2;have hL3:jL (cmpL p q) 0 0 (cmpL p q):=by unfold jL;rw[if_neg (by simp)];exact⟨rfl,rfl⟩
   clear hE hcQ;generalize ni p p.length=iv at*
   generalize pwL p k=pw at*
   generalize cmpL p q=cm at*
   generalize cys p=cy at*
   generalize zV p=sg at*
   have hc:=aY uM (au (aC zN) (aY p80 (aY p81 (aY p82 (aY p83 (aY p84 (aY p85 (au (aC zY) (aY p61 (au (aC DZ) (aY p86 (aY p87 (aY p88 (aY p89 (aY p90 (au (aC aob) (au (aC JC) aF)))))))))))))))));refine ay (md:=1) (rf:=[]) mixed av hc Tryz.func12 (by rfl) (by rfl) (by rfl) ?_
   all_goals exact wo
  ·rw[if_neg hc0]at p81
   have hL3:jL [] (kI p q) (bV [dB 5 q,if(p.length:Int)≠(q.length:Int)then 2 else 0]) []:=by unfold jL;rw[hE2,if_pos hc0];exact⟨rfl,rfl⟩
   clear hE hcQ;generalize ni p p.length=iv at*
   generalize pwL p k=pw at*
   generalize cys p=cy at*
   generalize zV p=sg at*
   generalize kI p q=ce at*
   have hc:=aY uM (au (aC zN) (aY p80 (aY p81 (aY p82 (aY p83 (aY p84 (aY p85 (au (aC zY) (aY p61 (au (aC DZ) (aY p86 (aY p87 (aY p88 (aY p89 (au (aC aob) (au (aC JC) aF))))))))))))))));refine ay (md:=1) (rf:=[]) mixed av hc Tryz.func12 (by rfl) (by rfl) (by rfl) ?_
   all_goals exact wo
 ·have hE:kI p q=dB 5 p:=by unfold kI;simp only[bV];rw[if_neg ho]
  rw[hE,if_neg ho]at p81;rw[if_neg ho]at p82 p83 p84 p85;have hL1:jL [] (dB 5 p) (dB 5 p) []:=by unfold jL;rw[if_pos ho];exact⟨rfl,rfl⟩
  have hL2:=hL1;have hL3:=hL1;have hI1:qR 0 (dB 5 p) (dB 5 p) 0:=by unfold qR;rw[if_pos ho];exact⟨rfl,rfl⟩
  have hc:=aY uM (au (aC zN) (aY p80 (aY p81 (aY p82 (aY p83 (aY p84 (aY p85 (au (aC zY) (au (aC DZ) aF)))))))));refine ay (md:=1) (rf:=[]) mixed av hc Tryz.func12 (by rfl) (by rfl) (by rfl) ?_
  all_goals exact wo
end Go.Eng.YtmkagljofpddpaaGreatDoor
namespace Go.Eng
open Go.RowKit Go.ChangeShapes Go.WideShapes
set_option linter.unusedSimpArgs false
set_option linter.unusedVariables false
def rC (W:World):Imm:=fun b j=>(rd W b j).isSome
inductive Lf where
 |int (k:IntKind)
 |str
 |ints (k:IntKind)
 |rows (k:IntKind)
 |bool
 |bools
instance:Inhabited Lf:=⟨.str⟩
def ahf:Lf→PV→Prop
 |.int k,p=>∃n,p=.int k n∧(Lit.int k n).wf=true
 |.str,p=>∃s,p=.str s∧s.size≤maxLen
 |.ints k,p=>∃xs,p=.isl (.ints k xs) .none∧(∀n∈xs,(Lit.int k n).wf=true)∧xs.length≤maxLen
 |.rows k,p=>∃xss:List (List Int),p=.isl (.rows k xss) .none∧(∀x∈xss,(∀n∈x,(Lit.int k n).wf=true)∧x.length≤maxLen)∧xss.length≤maxLen
 |.bool,p=>∃b:Bool,p=.bp b∧True
 |.bools,p=>∃xs:List Bool,p=.isl (.bools xs) .none∧xs.length≤maxLen
def Kw (v:Value):Prop:=∀a n c,v=.slice (some a) n c→a.spot=none
theorem Kz {P:Program} {w:World} {r:Reach} {base:Nat} {t:TypeId} {v:Value} (h:Cell.okWide P w r base t v):Kw v:=by
 rintro a n c rfl
 unfold Cell.okWide at h;split at h<;>try(rename_i e1 e2;cases e2)
 unfold Cell.ok at h;split at h<;>try(rename_i e1 e2;cases e2)
 ·exact h.2.2.2.1
 ·exact h.elim
section
variable {H:Type} (enc:TypeId × Value→H) (P:Program) (W:World)
def Ck (t:TypeId) (ls:List Lf):Prop:=∀(fuel:Nat) (cs:List Value) (x:DataW H × List MemPlace),DataW.trod enc P W 0 (fun _=>true) true fuel t cs=some x→(∀i,Kw (cs.getD i undef))→
 cs.length=ls.length∧∀i,i<ls.length→∃p,ahf (ls.getD i default) p∧Rep (rC W) W noI p (cs.getD i undef)
end
section
variable {H:Type} {enc:TypeId × Value→H} {P:Program} {W:World}
theorem Wi {t:TypeId} {k:IntKind} (ht:P.underlying t=some (.int k)):Ck enc P W t [.int k]:=by
 intro fuel cs x h hs;obtain⟨n,rfl,_,hw⟩:=DataW.trod_int ht h;refine⟨rfl,fun i hi=>?_⟩;have:i=0:=by simp at hi;omega
 subst this;exact⟨.int k n,⟨n,rfl,hw⟩,.int _ _ _⟩
theorem RQ {t e:TypeId} {k:IntKind} (ht:P.underlying t=some (.slice e)) (he:P.underlying e=some (.int k)) (hc:P.cellsOf e=1):Ck enc P W t [.ints k]:=by
 intro fuel cs x h hs;rcases open_ints ht he hc h with⟨rfl,_⟩|⟨a,len,cap,zs,rfl,_,hl,hm,hz,_,hcell,hwf⟩
 ·refine⟨rfl,fun i hi=>?_⟩
  have:i=0:=by simp at hi;omega
  subst this;exact⟨.isl (.ints k []) .none,⟨[],rfl,by simp,by simp⟩,.islnil _ _ _ rfl⟩
 ·refine⟨rfl,fun i hi=>?_⟩
  have:i=0:=by simp at hi;omega
  subst this;have hsp:a.spot=none:=hs 0 a len cap rfl;obtain⟨b,off,spot⟩:=a;simp only at hsp;subst hsp;simp only[ite_true]at hz;have hcell':∀i,i<cap→rd W b (off+i)=some (.int k (zs.getD i 0)):=fun i hi=>by
   have:=hcell i (by omega)
   rw[eH,iM]at this;exact this
  refine⟨.isl (.ints k (zs.take len)) .none,⟨_,rfl,fun n hn=>hwf n (List.mem_of_mem_take hn),by simp;omega⟩,?_⟩
  have hlen:(CL.ints k (zs.take len)).cnt=len:=by simp[CL.cnt];omega
  have hrep:=Rep.isl (S:=rC W) (w:=W) noI (.ints k (zs.take len)) .none b off cap (by rw[hlen];exact hl)
   (fun j hj=>by
     have hj':j<len:=by simp only[CL.ncell,akw]at hj;omega
     show(rd W b (off+j)).isSome;rw[hcell' j (by omega)];rfl)
   (fun j hj=>by
     have hj':j<len:=by simp only[CL.ncell,akw]at hj;omega
     have e1:rdv W b (off+j)=.int k (zs.getD j 0):=by unfold rdv;rw[hcell' j (by omega)];rfl
     have e2:(zs.take len).getD j 0=zs.getD j 0:=by simp only[ajQ,List.getElem?_take_of_lt hj']
     rw[e1];show Rep (rC W) W noI (.int k ((zs.take len).getD j 0)) _;rw[e2];exact .int _ _ _)
   (fun e=>by cases e) (fun k e=>by cases e)
  rw[hlen]at hrep;simpa using hrep
theorem xA {t:TypeId} {l:Lf} {v:Value} {d:DataW H} {qs:List MemPlace} {r:Reach} {base:Nat} (ht:(∃k,P.underlying t=some (.int k))∨P.underlying t=some .string∨∃e,P.underlying t=some (.slice e)) (hO:Ck enc P W t [l]) (hval:Value.okWide P W r base t v) (hd:DataW.Trod enc P W 0 (fun _=>true) true t v d qs):
 ∃p:PV,ahf l p∧Rep (rC W) W noI p v:=by
 have hv:v.cells.toList=[v]∧Kw v:=by
  rcases ht with⟨k,ht⟩|ht|⟨e,ht⟩
  ·obtain⟨n,rfl⟩:=okWide_int ht hval;exact⟨rfl,fun a n c h=>by cases h⟩
  ·obtain⟨n,rfl⟩:=okWide_string ht hval;exact⟨rfl,fun a n c h=>by cases h⟩
  ·have hc:Cell.okWide P W r base t v:=by unfold Value.okWide at hval;rw[ht]at hval;exact hval
   obtain⟨a,n,c,rfl⟩:=okWide_slice ht hval;exact⟨rfl,Kz hc⟩
 obtain⟨fuel,hf⟩:=hd;rw[hv.1]at hf;obtain⟨h1,h2⟩:=hO _ _ _ hf (fun i=>by
  cases i with
  |zero=>exact hv.2
  |succ i=>rintro a n c he;simp at he;cases he)
 obtain⟨p,hp,hr⟩:=h2 0 (by simp)
 exact⟨p,hp,hr⟩
end
theorem Zd {P:Program} {g:FuncId} {args:List PV} {vs:Array Value} {W:World} (h:aD P g args (.bp true)) (hr:bH (rC W) W noI args vs) (hg:gB (rC W) W):
 Calls P g vs W fun e w'=>e=.returned (.bool true)∧Below W.heap.size W w':=by
 have:=(h.2 (rC W) W vs hg (fun _ _ h=>h) hr);refine callsIn_wide.1 (CallsIn.mono (F:=Fw none) this ?_)
 rintro e w' ⟨val,S',rfl,o⟩
 have hv:=o.rep;exact⟨by cases hv;rfl,⟨o.below.os,o.below.tape,o.below.output,o.below.size,o.same⟩⟩
section
variable {H:Type} {enc:TypeId × Value→H} {P:Program}
theorem F8 (hl:laidOutB P=true) {W W':World} {sp:Nat→Bool} (hB:Below W.heap.size W W'):∀{ts:List TypeId} {vs:List Value} {ds:List (DataW H)} {ps:List MemPlace},ts.all (fun t=>P.readableRec t&&decide (t<P.types.size))=true→
 DataW.TrodAll enc P W 0 (fun _=>true) true ts vs ds ps→(∀x∈ps,x.block<W.heap.size)→(∀x∈ps,sp x.block=true)→DataW.TrodAll enc P W' 0 sp true ts vs ds ps:=by
 intro ts;induction ts with
 |nil=>
  intro vs ds ps _ h _ _;cases vs<;>cases ds<;>first|exact h|exact h.elim
 |cons t ts ih=>
  intro vs ds ps ha h hlt hs;cases vs with
  |nil=>exact h.elim
  |cons v vs=>
   cases ds with
   |nil=>exact h.elim
   |cons d ds=>
    obtain⟨p,q,h1,h2,rfl⟩:=h;simp only[List.all_cons,aj0,decide_eq_true_eq]at ha;refine⟨p,q,WideElems.Trod_stays hl ha.1.1 ha.1.2 h1 (fun x hx=>hB.same (hlt x (by simp[hx]))) (fun x hx=>hs x (by simp[hx])),ih ha.2 h2 (fun x hx=>hlt x (by simp[hx])) (fun x hx=>hs x (by simp[hx])),rfl⟩
theorem Ze {f:Func} {s:ChangeSpec} {W W':World} {args:Array Value} {ds gs:List (DataW H)} {before:List MemPlace} {tb:TypeId} (hl:laidOutB P=true) (hres:f.resultTypes= #[tb]) (htb:P.underlying tb=some .bool)
 (hread:f.params.toList.all (fun t=>P.readableRec t&&decide (t<P.types.size))=true) (hv:s.vars=[]) (hfn:s.fn H ds={results:=[.lit (.bool true)],args:=ds})
 (hW:DataW.Whole enc P f.params.toList s.vars false W args.toList ds gs before) (hB:Below W.heap.size W W'):s.post enc P f false true false false W args (.bool true) W':=by
 have hW':=hW;obtain⟨p,q,hA,hV,rfl,hfz,hnd⟩:=hW;rw[hv]at hV;obtain⟨rfl,rfl⟩:=trodVars_none hV;have hlt:∀x∈p,x.block<W.heap.size:=fun x hx=>by simpa using hW'.lt x (by simp[hx])
 refine⟨ds,[],p++[],[],p,[],hW',?_,?_,?_,hB.frame _,fun h=>by cases h⟩
 ·rw[an8,hfn,hres]
  exact trodAll_mk1 (shut_bool htb true)
 ·rw[an8,hfn]
  exact F8 hl hB hread hA hlt (fun x hx=>by simpa using hlt x hx)
 ·rw[an8,hfn,hv]
  exact rfl
end
end Go.Eng
namespace Go.Eng.YtmkagljofpddpaaGreatDoor
open Go.Proofs Go.Proofs.YtmkagljofpddpaaGreatDoor Go.RowKit Go.ChangeShapes Go.WideShapes
set_option linter.unusedVariables false
theorem own:ownKnob Tryz.prog.godebug=none:=by kernel_rfl
theorem laidOut:laidOutB Tryz.prog=true:=by kernel_rfl
abbrev uN:List (String × DataW Unit):=[("math/bits.deBruijn32tab",Rows.laid_math_bits_deBruijn32tab),("math/bits.deBruijn64tab",Rows.laid_math_bits_deBruijn64tab),("internal/strconv.uint64pow10",Rows.laid_internal_strconv_uint64pow10),("unicode/utf8.acceptRanges",Rows.laid_unicode_utf8_acceptRanges),("strconv.ErrRange",Rows.laid_strconv_ErrRange),("strconv.ErrSyntax",Rows.laid_strconv_ErrSyntax),("unicode/utf8.first",Rows.laid_unicode_utf8_first)]
theorem Zf (os:Os) (args:Array Value):laidMetH Tryz.prog uN ((World.laidAll Tryz.prog os uN).forCall (fun _ _=>0) ⟨#[],args,[]⟩).memory:=by
 rw[Go.MakeChecks.laidMetH_plain _ _ _ (by kernel_rfl)]
 exact laidMet_laidAll _ (by kernel_rfl) (by kernel_rfl)
theorem KA {W:World} {name:String} {k:IntKind} {zs:List Int} {g:Nat} (hg:Tryz.prog.globalNamed name=some g) (h:Lib.TabIs Tryz.prog W name k zs):
 bsz W g=some (CL.ints k zs).ncell∧∀j,j<(CL.ints k zs).ncell→rC W g j∧Rep (rC W) W noI ((CL.ints k zs).get j) (rdv W g j):=by
 unfold Lib.TabIs World.var? at h;rw[hg,Option.bind_some]at h;split at h
 ·rename_i cs e f hb
  have h:=Option.some.inj h;subst h;refine⟨by simp[bsz,hb,CL.ncell],fun j hj=>?_⟩
  simp only[CL.ncell]at hj;have hr:rd W g j=some (.int k (zs.getD j 0)):=by simp[rd,hb,hj]
  refine⟨by show(rd W g j).isSome=true;rw[hr];rfl,?_⟩
  have:rdv W g j=.int k (zs.getD j 0):=by unfold rdv;rw[hr];rfl
  rw[this];exact .int _ _ _
 ·cases h
theorem aeP {W:World} (h:laidMetH Tryz.prog uN W):gB (rC W) W:=by
 rw[Go.MakeChecks.laidMetH_plain _ _ _ (by kernel_rfl)]at h
 have t2:Lib.TabIs Tryz.prog W "math/bits.deBruijn32tab" .u8 G7:=Lib.tabIs_of_head (k:=.u8) (zs:=G7) (g:=8) (t:=316) (e:=5) (n:=32) (by kernel_rfl) (by kernel_rfl) (by kernel_rfl) (by kernel_rfl) (by kernel_rfl) (by kernel_rfl) h
 have t3:Lib.TabIs Tryz.prog W "math/bits.deBruijn64tab" .u8 G8:=Lib.tabIs_of_head (k:=.u8) (zs:=G8) (g:=9) (t:=317) (e:=5) (n:=64) (by kernel_rfl) (by kernel_rfl) (by kernel_rfl) (by kernel_rfl) (by kernel_rfl) (by kernel_rfl) h.tail
 have t0:Lib.TabIs Tryz.prog W "internal/strconv.uint64pow10" .u64 nG:=Lib.tabIs_of_head (k:=.u64) (zs:=nG) (g:=7) (t:=311) (e:=210) (n:=20) (by kernel_rfl) (by kernel_rfl) (by kernel_rfl) (by kernel_rfl) (by kernel_rfl) (by kernel_rfl) h.tail.tail
 intro g c hc;unfold xC at hc;split at hc
 ·cases hc;exact KA (by kernel_rfl) t2
 ·cases hc;exact KA (by kernel_rfl) t0
 ·cases hc;exact KA (by kernel_rfl) t3
 ·cases hc
theorem ahg {n:Int} (h:(Go.Lit.int Go.IntKind.i64 n).wf=true): -9223372036854775808≤n∧n≤9223372036854775807:=by
 have h1:Go.IntKind.i64.min= -9223372036854775808:=by decide
 have h2:Go.IntKind.i64.max=9223372036854775807:=by decide
 simp[Go.Lit.wf,h1,h2]at h;exact h
section
variable {H:Type} {enc:TypeId × Value→H} {W:World}
theorem o3:Ck enc Tryz.prog W 3 [.int .i64]:=Wi Tryz.underlying3
theorem o22:Ck enc Tryz.prog W 22 [.ints .i64]:=RQ Tryz.underlying22 Tryz.underlying3 (by kernel_rfl)
end
end Go.Eng.YtmkagljofpddpaaGreatDoor
