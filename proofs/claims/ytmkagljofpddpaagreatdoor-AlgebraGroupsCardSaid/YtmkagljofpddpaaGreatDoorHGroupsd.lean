/- Contracts of functions of the program: what each returns. Their conditions stand in them. -/
import Derived.Shelf.Slices.Delete
import Derived.LoopTactic
import Derived.Laws.RangeAny
import Derived.Tactics2
import Derived.ProofKit
import Derived.OpenShut
import Derived.Deep.Grids
import Derived.LaidMore
import Derived.Stop.Joined
import Derived.Stop.LaidErr
import Derived.Lib.LaidTab
import Derived.MakeChecks
import Derived.Lay
import Derived.Test.YtmkagljofpddpaaGreatDoorProg
import Derived.Test.YtmkagljofpddpaaGreatDoorCards
import Derived.Test.YtmkagljofpddpaaGreatDoorTie
import Derived.Test.YtmkagljofpddpaaGreatDoorHGroupsc
open Array renaming getElem?_eq_getElem→akA,getD_eq_getD_getElem?→akD,getElem?_eq_none→akx,getElem?_modify→akB
open Bool renaming and_eq_true→akQ,not_eq_true'→ale,not_eq_false'→aoB,not_false→ali,eq_false_iff→aoP,eq_iff_iff→aon
open Int renaming emod_nonneg→aoi,emod_lt_of_pos→aoj,toNat_natCast→amI,natAbs_natCast→an4,natCast_mul→anb,natCast_add→anc,natCast_emod→amR,ofNat_le→aoW,mul_one→ao0,toNat_of_nonneg→ao1
open List renaming length_map→aoE,take_length→amJ,replicate→akP,getElem?_drop→alP,length_eq_zero_iff→alY,mem_map→aoL,size_toArray→anU,getD_eq_getElem?_getD→akG,getElem?_eq_getElem→akL,length_eraseIdx_of_lt→aoT,length_append→alQ,length_cons→akq,length_nil→akm,getElem?_append_left→amr,range→akE,range_succ→anX,length_drop→alO,take_add_one→aoQ,length_take→alm,take→anF,drop→anG,mem_range→amn,mem_filter→aoS,length→amu,filter_congr→aoX,filter_cons→aoY,append_nil→aoZ,getElem_mem→aoD,getElem?_take_of_lt→ao3
open Nat renaming sub_zero→aoJ,mul_one→akZ,lt_or_ge→akw,lt_of_lt_of_le→akv,zero_add→akS,zero_le→alq,mul_pos→amZ,mul_le_mul→alE,pow_le_pow_right→amN,le_trans→aky,succ_mul→akt,pow_succ'→aoU,div_lt_of_lt_mul→aoV,mod_lt→alc,le_of_lt→am1,le_refl→aku,strongRecOn→anP,add_zero→akn,gcd→anL,gcd_pos_of_pos_left→ao2,div_le_self→anr,mul_comm→akT
open Option renaming getD_some→alo,map_some→akC
namespace Go.Eng.YtmkagljofpddpaaGreatDoor
open Go.Proofs Go.Eng.Pm
set_option linter.unusedSimpArgs false
set_option linter.unusedVariables false
set_option maxHeartbeats 0
set_option maxRecDepth 100000
def hsP (p:List Int) (k:Int) (l:List (List Int)):Nat→List (Nat × AO):=fun i=>[(5,.cells (.ints .i64 (iC p k (l.take i))) false)]
theorem y7 (p:List Int) (k:Int) (hk: -9223372036854775808≤k∧k≤9223372036854775807) (hp:p.length≤1000000) (h:bZ 5 p=0):aD Tryz.prog 83 [.isl (.ints .i64 p) .none,.int .i64 k] (.tup [.isl (.ints .i64 (pwL p k)) .none,.int .i64 0]):=by
 have hP:=oD qqD h;have hI:=xA p hP hp;have hcl:=Ed p;have hall0:=Zk hP k;have hge:∀i,i<(cys p).length→∃x,x<p.length∧hd p x=true∧(cys p).getD i []=cyc p x:=fun i hi=>Oo hi;generalize cys p=l at hI hcl hge hall0⊢
 refine ay (md:=1) (rf:=[]) mixed av nu Tryz.func83 qqR qqR qqR ?_
 repeat'((conv=>whnf);first|(intro hq;(try simp only[vw]at hq);try exact ak hq)|apply aI|exact aj|apply nM|apply fM)
 all_goals((try apply vM);(try simp only[vq]at*);try omega)
 all_goals(try contradiction)
 all_goals try exact .inl trivial
 conv=>whnf
 refine zu aL mixed av nu (fun r=>aU) (fs:=[]) (cs:=[.ip (.pv [.isl (.ints .i64 p) .none]) 0]) (l.map zW) (fun _=>true) (hsP p k l) qqR qqR qqR hI qqR qqR qqR qqR ?_ ?_ ?_
 ·unfold hsP
  rw[List.take_zero,KC]
  repeat'((conv=>whnf);first|intro _|apply aI|exact aj|apply nM|apply fM)
  all_goals((try apply vM);(try simp only[vq]at*);try omega)
  all_goals first|exact KC p k
 ·intro hall
  rw[aoE]
  repeat'((conv=>whnf);first|intro _|apply aI|exact aj|apply nM|apply fM)
  all_goals((try apply vM);(try simp only[vq]at*);try omega)
  all_goals(try rw[amJ])
  all_goals(try rw[hall0])
  all_goals first|(rw[show(pwL p k).length=p.length by simp[pwL]];omega)|exact VL _ _ _ _ (by simp[pwL])
 ·intro i x hx hall lp
  obtain⟨hi,rfl⟩:=zX hx;obtain⟨x,hx1,hx2,hx3⟩:=hge i hi;obtain⟨p1,p2,p3,p4⟩:=eB hP hx1;have hcl:=kF p x;have hpn:=fun t (ht:t<per p x)=>ahD (p:=p) (x:=x) ht;have hpl:=fun t (ht:t<per p x)=>BX p x t ht;have hpt:=fun t=>jQ hP hx1 t;have hpa:=fun t (ht:t<per p x)=>aiI hP hx1 ht k;obtain⟨w1,w2,w3⟩:=q9 k (per p x:Nat) qqO;have htake:=VO (p:=p) k l i hi (cyc p x) hx3;have hm0:=aoi k (show((per p x:Nat):Int)≠0 by omega)
  have hm1:=aoj k (show 0<((per p x:Nat):Int) by omega)
  rw[hx3];rw[hcl]at htake;generalize hcc:cyc p x=c at*
  generalize hnn:per p x=n at*
  subst hcl;obtain⟨n,hn⟩:∃n,n=c.length:=⟨_,rfl⟩;obtain⟨r,hr⟩:∃r,k % (c.length:Int)=r:=⟨_,rfl⟩;rw[hr]at w1 hm0 hm1;simp only[hr]at hpa;have hp2:=Zj (p:=p) k (l.take i) c
  repeat'((conv=>whnf);first|(intro hq;(try simp only[vw]at hq);try exact ak hq)|apply aI|exact aj|apply nM|apply fM)
  all_goals((try apply vM);(try simp only[vq]at*);try omega)
  conv=>whnf
  refine aV (X:=Nat) (fun t=>t≤c.length) (fun t=>[(27,.int .i64 t),(10,.any),(11,.any)]) (fun t=>[(5,.cells (.ints .i64 (iC p k (l.take i++[c.take t]))) false)]) (fun t=>c.length-t) 0 ⟨aL,mixed,av,nu,aU⟩ qqR qqO ?_ ?_
  ·have:iC p k (l.take i++[c.take 0])=iC p k (l.take i):=Zi _ _ _
   rw[this];all_goals exact aW
  intro t ht;have hsl:=Zh p k (l.take i++[c.take t]);by_cases hlt:t<c.length
  ·have a1:=hpn t hlt
   have a2:=hpl t hlt;have a3:=hpt t;have a4:=hpa t hlt;have a5:=hp2 t qqO a1;have a6:((t:Int)+r).tmod c.length=((t:Int)+r) % c.length:=Int.tmod_eq_emod_of_nonneg qqO;have a7:=aoi ((t:Int)+r) (show(c.length:Int)≠0 by omega)
   have a8:=aoj ((t:Int)+r) (show 0<(c.length:Int) by omega)
   clear hpn hpl hpt hpa hp2 hge;have b1:∀z:Int,((t:Int)+z)=t+z:=fun _=>rfl
   repeat'((conv=>whnf);first|(intro hq;(try simp only[vw]at hq);try exact ak hq)|apply aI|exact aj|apply nM|apply fM)
   all_goals((try apply vM);(try simp only[vq]at*);try omega)
   all_goals(try simp only[w1,a6,a4,a5])
   all_goals first
    |omega
    |(refine⟨t+1,[],⟨qqO,qqO⟩,?_⟩
      all_goals exact aW)
  ·have:t=c.length:=qqO
   subst this;rw[htake]
   repeat'((conv=>whnf);first|(intro hq;(try simp only[vw]at hq);try exact ak hq)|apply aI|exact aj|apply nM|apply fM)
   all_goals((try apply vM);(try simp only[vq]at*);try omega)
   all_goals first
    |omega
    |(refine⟨[],?_⟩
      all_goals exact aW)
theorem RN (p:List Int) (k:Int) (hk: -9223372036854775808≤k∧k≤9223372036854775807) (hp:p.length≤1000000):aD Tryz.prog 83 [.isl (.ints .i64 p) .none,.int .i64 k] (.tup [.isl (.ints .i64 (if bZ 5 p=0 then pwL p k else [])) .none,.int .i64 (bZ 5 p)]):=by
 by_cases h:bZ 5 p=0
 ·rw[if_pos h,h];exact y7 p k hk hp h
 ·rw[if_neg h]
  refine ay (md:=1) (rf:=[]) mixed av nu Tryz.func83 qqR qqR qqR ?_;all_goals exact Fy
end Go.Eng.YtmkagljofpddpaaGreatDoor
namespace Go.Proofs
open Go.Shelf Go.RowKit Go.Lib Go.Sort
def Tryz.laysNm223_ren:Go.Shelf.Ren:=⟨fun|23=>121|n=>n,fun|22=>22|3=>3|4=>4|0=>0|n=>n,fun|n=>n⟩
theorem Tryz.laysNm223:Go.Proofs.Lays2.n23 Tryz.prog Tryz.laysNm223_ren:={
 mixed:=by kernel_rfl
 f23:=Tryz.func121.trans (congrArg some (by kernel_rfl))
 t0:=Tryz.underlying0
 a0:=Tryz.isAgg0
 z0:=Tryz.sizeOf0
 v0:=Tryz.zeroValue0
 t3:=Tryz.underlying3
 a3:=Tryz.isAgg3
 z3:=Tryz.sizeOf3
 v3:=Tryz.zeroValue3
 t4:=Tryz.underlying4
 a4:=Tryz.isAgg4
 z4:=Tryz.sizeOf4
 v4:=Tryz.zeroValue4
 t22:=Tryz.underlying22
 a22:=Tryz.isAgg22
 z22:=Tryz.sizeOf22
 v22:=Tryz.zeroValue22
 i3:=by kernel_rfl}
section
variable {P:Program} {ρ:Ren}
set_option maxHeartbeats 4000000 in
set_option maxRecDepth 1000000 in
theorem ahF (L:Lays2.n23 P ρ) (blk off cap i j:Nat) (d:Array Int) (w:World) (hH:Holds encI w blk off d) (hcap:d.size≤cap) (hij:i≤j) (hj:j≤d.size):
 Calls P (ρ.f 23) #[.slice (some ⟨blk,off,none⟩) d.size cap,.int .i64 i,.int .i64 j] w fun e w'=>e=.returned (.slice (some ⟨blk,off,none⟩) (d.size-(j-i)) cap)∧∃q,w'=putRow encI (Sort.ahead w q) blk off (d.toList.take i++d.toList.drop j++akP (j-i) 0).toArray:=by
 have mixed:=L.mixed;have t0:=L.t0;have a0:=L.a0;have z0:=L.z0;have v0:=L.v0;have t3:=L.t3;have a3:=L.a3;have z3:=L.z3;have v3:=L.v3;have t4:=L.t4;have a4:=L.a4;have z4:=L.z4;have v4:=L.v4;have t22:=L.t22;have a22:=L.a22;have z22:=L.z22;have v22:=L.v22;obtain⟨i0,hi0,hz0,hz1,hz2⟩:=info_parts L.i3;by_cases heq:i=j
 ·subst heq
  have h0:Calls P (ρ.f 23) #[.slice (some ⟨blk,off,none⟩) d.size cap,.int .i64 i,.int .i64 i] w fun e w'=>e=.returned (.slice (some ⟨blk,off,none⟩) d.size cap)∧w'=w:=by
   clear hH
   go_enter L.f23,Body2.n23_ntmps ρ
   go_wp2
   all_goals(go_ret;exact⟨rfl,rfl⟩)
  refine h0.mono ?_
  rintro e w' ⟨rfl,rfl⟩
  have e:(d.toList.take i++d.toList.drop i++akP (i-i) 0).toArray=d:=qqS;refine⟨by rw[Nat.sub_self,aoJ],0,?_⟩
  rw[e];exact(putRow_self encI (Sort.ahead w' 0) blk off d hH).symm
 ·have hlt:i<j:=qqO
  obtain⟨news,hnews⟩:∃news,news=(d.toList.drop j).map encI:=⟨_,rfl⟩;have hlen:news.length=d.size-j:=by rw[hnews];simp
  have hget:∀t,t<d.size-j→news[t]? =some (encI d[j+t]!):=by
   intro t ht;rw[hnews,List.getElem?_map,alP,Array.getElem?_toList,getElem!_pos d (j+t) qqO,akA qqO];rfl
  obtain⟨A,hA,hsrc⟩:∃A:Addr,(if cap=j then some (⟨blk,off,none⟩:Addr)else some ⟨blk,off+j,none⟩)=some A∧Hid (∀t u,news[t]? =some u→w.drew.cell? (A.add t)=some u):=by
   by_cases h:cap=j
   ·refine⟨⟨blk,off,none⟩,by simp[h],fun t u hu=>?_⟩
    have h0:news.length=0:=by rw[hlen];omega
    rw[alY.1 h0]at hu;simp at hu
   ·refine⟨⟨blk,off+j,none⟩,by simp[h],fun t u hu=>?_⟩
    have ht:t<d.size-j:=by
     have:=(List.getElem?_eq_some_iff.1 hu).1
     rwa [hlen]at this
    rw[hget t ht]at hu;rw[Addr.add_lit,show off+j+t=off+(j+t) by omega]
    exact(hH (j+t) qqO).1.trans hu
  have s1:Hid (news.length=(d.size-j)*1):=by rw[akZ];exact hlen
  have s2:Hid (∀u∈news,u.oneCell'=true):=by
   intro u hu;rw[hnews]at hu;obtain⟨x,_,rfl⟩:=aoL.1 hu;rfl
  have s3:Hid (∀t,t<news.length→(w.drew.cell? ⟨blk,off+i*1+t,none⟩).isSome=true∧w.drew.frozen? ⟨blk,off+i*1+t,none⟩=false):=by
   intro t ht;rw[hlen]at ht;rw[akZ,Nat.add_assoc];exact⟨by show(w.cell? _).isSome=true;rw[(hH (i+t) qqO).1];rfl,(hH (i+t) qqO).2⟩
  obtain⟨W1,hW1⟩:∃W1,W1=w.drew.setCells blk (off+i*1) news:=⟨_,rfl⟩;have hW1':W1=putRow encI (Sort.ahead w 1) blk off (lay d i (d.toList.drop j)):=by
   rw[hW1,hnews,akZ,←putRow_setCells encI (Sort.ahead w 1) blk off _ d i (by simp;omega),putRow_self encI (Sort.ahead w 1) blk off d (holds_ahead encI w 1 blk off d hH)]
   rfl
  have hH1:Holds encI W1 blk off (lay d i (d.toList.drop j)):=by rw[hW1'];exact holds_putRow encI _ blk off d _ (holds_ahead encI w 1 blk off d hH) (lay_size _ _ _)
  have hcl:∀ty,(Builtin.clear_ #[ρ.t 22] ty #[.slice (some ⟨blk,off+(i+(d.size-j)),none⟩) (d.size-(i+(d.size-j))) (cap-(i+(d.size-j)))]).run P W1=.ok (.tuple #[]) (W1.setCells blk (off+(i+(d.size-j))) (akP (d.size-(i+(d.size-j))) (encI 0))):=
   fun ty=>Lib.run_clear_slice W1 _ _ ty _ t22 v3 rfl rfl blk (off+(i+(d.size-j))) _ _ qqO (fun t ht=>by rw[show off+(i+(d.size-j))+t=off+(i+(d.size-j)+t) by omega,(hH1 _ (by rw[lay_size];omega)).1];rfl) (fun t ht=>by rw[show off+(i+(d.size-j))+t=off+(i+(d.size-j)+t) by omega];exact(hH1 _ (by rw[lay_size];omega)).2)
  have X:Aside (W1=putRow encI (Sort.ahead w 1) blk off (lay d i (d.toList.drop j))):=hW1';have hW:Hid (W1=w.drew.setCells blk (off+i*1) news):=hW1;have hic:i≤cap:=qqO;have hjc:j≤cap:=qqO;clear hW1 hW1' hH1 hH hget hnews hlen
  go_enter L.f23,Body2.n23_ntmps ρ
  go_wp2_with fail
  go_region_law_o (refine step_append_room rfl (.tmp 22) (.tmp 25) (ρ.t 22) rfl (ρ.t 3) i0 1 t22 hi0 hz1 blk off i cap (by simp[Act.eval,Act.put]) A (d.size-j) (cap-j) news (by simp[Act.eval,Act.put]) s1.out hsrc.out s2.out qqO s3.out ?_;rw[←hW.out])
  go_wp2
  go_ret
  refine⟨by rw[show d.size-(j-i)=i+(d.size-j) by omega];rfl,1,?_⟩
  rw[←delete_arr d i j 0 hij hj,←putRow_setCells encI _ blk off _ _ (i+(d.size-j)) (by rw[lay_size];simp;omega),←X.out,List.map_replicate,show d.size-(i+(d.size-j))=j-i by omega]
end
end Go.Proofs
namespace Go.Eng.YtmkagljofpddpaaGreatDoor
open Go.Proofs Go.RowKit Go.Sort Go.Shelf
set_option linter.unusedSimpArgs false
set_option linter.unusedVariables false
set_option maxHeartbeats 0
set_option maxRecDepth 100000
theorem VU (blk off cap i:Nat) (zs:List Int) (w:World) (hH:Holds (Value.int .i64) w blk off zs.toArray) (hcap:zs.length≤cap) (hj:i<zs.length):
 Calls Tryz.prog 121 #[.slice (some ⟨blk,off,none⟩) zs.length cap,.int .i64 i,.int .i64 ((i+1:Nat):Int)] w fun e w'=>e=.returned (.slice (some ⟨blk,off,none⟩) (zs.length-1) cap)∧∃q,w'=Sort.putRow (Value.int .i64) (Sort.ahead w q) blk off (zs.eraseIdx i++[0]).toArray:=by
 have h:=ahF Tryz.laysNm223 blk off cap i (i+1) zs.toArray w hH (by simpa using hcap) qqO (by rw[anU];omega)
 change Calls Tryz.prog 121 _ _ _ at h;have e:i+1-i=1:=qqO;rw[e]at h;rw[List.eraseIdx_eq_take_drop_succ];simp only[anU]at h;exact h
def RO:CT:=fun args n H K=>match args with
 | [p,q,r]=>match p with
  |.rsl k off m=>match q with
   |.int q1 a=>match r with
    |.int q2 b=>bR H k fun o=>match o with
     |.cells c fz=>match fz with
      |true=>False
      |false=>match c with
       |.ints q xs=>ifK (decide (q=.i64)&&(decide (q1=.i64)&&(decide (q2=.i64)&&Nat.beq off 0))) (VC (m=xs.length∧0≤a∧a<m∧b=a+1)∧K (.rsl k 0 (m-1)) [(k,.cells (.ints .i64 (xs.eraseIdx a.toNat)) false)] [k] [])
       |_=>False
     |_=>False
    |_=>False
   |_=>False
  |_=>False
 |_=>False
theorem Zm:COK Tryz.prog 121 RO:=by
 intro args n H K hk;unfold RO at hk;split at hk
 ·split at hk
  ·rename_i k off m
   split at hk
   ·rename_i q1 a
    split at hk
    ·rename_i q2 b2
     rw[bE]at hk;obtain⟨ob,hob,hk⟩:=hk;split at hk
     ·rename_i c fz
      split at hk
      ·exact hk.elim
      ·split at hk
       ·rename_i q xs
        simp only[aK,akQ,decide_eq_true_eq]at hk;obtain⟨⟨rfl,rfl,rfl,hoff⟩,⟨⟨rfl,ha0,ham,rfl⟩⟩,hk⟩:=hk;have hoff:=Nat.eq_of_beq_eq_true hoff;subst hoff;obtain⟨i,rfl⟩:=Int.eq_ofNat_of_zero_le ha0;rw[amI]at hk;have him:i<xs.length:=qqO;refine⟨_,_,_,[],hk,.inl ⟨enters' Tryz.func121 qqR qqR,fun S w ι H' vs _ M hr ha _=>?_⟩⟩;have hob':=(ha k qqS).trans hob;obtain⟨b,arr,e,g1,g2,g3,g4,g5⟩:=M.obj k _ hob';have hsz:vs.size=3:=hr.1.symm;have hv0:∃cap,vs= #[.slice (some ⟨b,0,none⟩) xs.length cap,.int .i64 i,.int .i64 ((i+1:Nat):Int)]∧xs.length≤cap∧∀j,j<cap→(rd w b j).isSome:=by
         have h0:=hr.2 0 qqS;have h1:=hr.2 1 qqS;have h2:=hr.2 2 qqS;simp only[aH]at h0 h1 h2;have hvs:vs= #[vs.getD 0 undef,vs.getD 1 undef,vs.getD 2 undef]:=by
          apply Array.ext (by simp[hsz])
          intro j h1 h2;have:j=0∨j=1∨j=2:=qqO;rcases this with rfl|rfl|rfl<;>simp[akD,h1]
         rw[hvs];generalize vs.getD 0 undef=v0 at h0
         generalize vs.getD 1 undef=v1 at h1
         generalize vs.getD 2 undef=v2 at h2
         cases h1
         cases h2
         generalize hml:xs.length=ml at h0
         cases h0 with
         |rsl _ _ _ _ b' cap hk' hc hrd=>rw[g1]at hk';cases hk';exact⟨cap,rfl,hc,hrd rfl⟩
         |rslz _ _ _ b' o hk'=>omega
        obtain⟨cap,rfl,hcap,hcr⟩:=hv0;have hbw:b<w.heap.size:=by
         rcases akw b w.heap.size with h6|h6
         ·exact h6
         ·rw[akx h6]at g2;cases g2
        have hg4:∀j,j<xs.length→arr[j]? =some (.int .i64 (xs.getD j 0)):=fun j hj=>by
         have h7:=g4 j hj;have h8:j<arr.size:=akv hj g3;rw[akD,akA h8]at h7;rw[akA h8];simp only[CL.get,alo]at h7;generalize arr[j]=y at h7
         cases h7;rfl
        have hH:Holds (Value.int .i64) w b 0 xs.toArray:=fun j hj=>by
         have hj':j<xs.length:=by simpa using hj
         rw[akS];refine⟨?_,by simp[World.frozen?,g2]⟩
         rw[iP,aJ g2,hg4 j hj'];simp[akG,akL hj']
        refine(callsIn_wide.2 (VU b 0 cap i xs w hH hcap him)).mono ?_
        rintro ex w' ⟨rfl,n',hw'⟩
        have hel:(xs.eraseIdx i).length=xs.length-1:=aoT him;obtain⟨arr',harr,hsz',hget⟩:∃arr',w'.heap[b]? =some (.cells arr' e (0,0))∧arr'.size=arr.size∧∀j,j<xs.length-1→arr'[j]? =some (.int .i64 ((xs.eraseIdx i).getD j 0)):=by
         refine⟨putCells (Value.int .i64) 0 (xs.eraseIdx i++[0]).toArray arr,?_,by simp[putCells],fun j hj=>?_⟩
         ·rw[hw']
          show(mapBlock (Sort.ahead w n') b _).heap[b]? =_;simp only[mapBlock,Sort.ahead,akB,if_true,g2,akC,onCells];try rfl
         ·have h8:j<arr.size:=akv (show j<xs.length by omega) g3
          have h9:j<(xs.eraseIdx i++[0]).length:=by rw[alQ,hel,akq,akm];omega
          simp only[putCells,Array.getElem?_mapIdx,akA h8,akC,alq,akS,true_and,anU,if_pos h9,aoJ];have h10:j<(xs.eraseIdx i).length:=qqO;simp[akG,amr h10,akL h10]
        have hoth:∀b',b'<w.heap.size→b'≠b→w'.heap[b']? =w.heap[b']? :=fun b' h1 h2=>by
         rw[hw'];show(mapBlock (Sort.ahead w n') b _).heap[b']? =_;simp only[mapBlock,Sort.ahead,akB,if_neg (Ne.symm h2)]
        have hbel:Bel w w':=by
         have hlen0:∀b0,b0<w.heap.size→bsz w' b0=bsz w b0:=fun b0 hb0=>by
          by_cases e0:b0=b
          ·subst e0;unfold bsz;rw[harr,g2];simp[hsz']
          ·exact gq (hoth b0 hb0 e0)
         rw[hw']at hlen0⊢;exact⟨rfl,rfl,rfl,by simp[Sort.putRow,mapBlock,Sort.ahead],hlen0⟩
        obtain⟨M',K',T'⟩:=M.write' (c':=.ints .i64 (xs.eraseIdx i)) hob' g1 g2 hbel hoth harr qqO (by simp only[CL.ncell,hel];simp only[CL.ncell]at g3;omega) (fun j hj=>by
         simp only[CL.ncell,hel]at hj;rw[akD,hget j hj];exact .int _ _ _)
        refine⟨_,S,ι,rfl,M',.refl _,K',.rsl _ _ _ _ b cap g1 qqO (fun _ j hj=>?_),T'⟩;have:=hcr j hj;rw[aJ g2]at this;rw[aJ harr];have h11:j<arr.size:=by
         rcases akw j arr.size with h1|h1
         ·exact h1
         ·rw[akx h1]at this;simp at this
        rw[akA qqO];rfl
       ·exact hk.elim
     ·exact hk.elim
    ·exact hk.elim
   ·exact hk.elim
  ·exact hk.elim
 ·exact hk.elim
end Go.Eng.YtmkagljofpddpaaGreatDoor
namespace Go.Eng.YtmkagljofpddpaaGreatDoor
open Go.Proofs Go.Eng.Dig Go.Eng.Dec Go.Eng.Pm
set_option linter.unusedSimpArgs false
set_option linter.unusedVariables false
set_option maxHeartbeats 0
set_option maxRecDepth 100000
def fac:Nat→Nat
 |0=>1
 |n+1=>fac n*(n+1)
theorem Ot:∀n,0<fac n:=by
 intro n;induction n with
 |zero=>decide
 |succ n ih=>exact amZ ih qqO
theorem VW:∀n,n≤256→fac n≤256 ^ n:=by
 intro n;induction n with
 |zero=>intro _;decide
 |succ n ih=>
  intro h;rw[fac,Nat.pow_succ];exact alE (ih qqO) h
theorem ahG:256 ^ 260<W ^ 40:=qqV
set_option exponentiation.threshold 4000 in
theorem abx {n:Nat} (h:n≤256):Lw (fac n)≤40:=by
 refine qW ?_;have h1:=VW n h;have h2:256 ^ n≤256 ^ 260:=amN qqO qqO;have:=ahG;omega
abbrev niC (a:NI):List PV:=[.int .i64 a.s,.nnl (.ints .u64 a.w)]
def fcC (j:Nat):List PV:=match j with|0=>[.int .i64 1,.nils]|j+1=>niC (nr (fac (j+1)))
def fcL (i:Nat):List (List PV):=(akE i).map fcC
theorem Ee (i:Nat):(fcL i).length=i:=by simp[fcL]
theorem VX {i j:Nat} (h:j<i):(fcL i).getD j []=fcC j:=by simp[fcL,akG,h]
theorem KD (i:Nat):fcL (i+1)++[niC (nr (fac (i+1)))]=fcL (i+2):=by simp[fcL,anX,fcC]
structure aby (c d:CL):Prop where
 cnt:d.cnt=c.cnt
 esz:d.esz=c.esz
 get:∀j,j<c.ncell→∀{S:Imm} {w:World} {ι:Ix} {v:Value},Rep S w ι (c.get j) v→Rep S w ι (d.get j) v
theorem VY {c d:CL} (h:aby c d) (t:Tok):Sup (.isl c t) (.isl d .none):=⟨fun{S w ι v} hr=>by
 have hc:=h.cnt;have hn:d.ncell=c.ncell:=by rw[bF,bF,hc,h.esz]
 cases hr with
 |islnil _ _ _ g=>exact .islnil _ _ _ (by rw[hc];exact g)
 |isl _ _ _ b off cap h1 h2 h3 h4 h5=>
  rw[←hc];exact .isl _ _ _ b off cap (by rw[hc];exact h1) (fun j hj=>h2 j qqO) (fun j hj=>h.get j qqO (h3 j qqO)) (fun g=>by cases g) (fun k g=>by cases g)⟩
abbrev fcV (n:Nat):PV:=.isl (.genr 2 n fun j=>niC (nr (fac j))) .none
noncomputable def ake:CPT:=aB 108 (aR ofP) (aB 110 (aR uD) noC)
theorem Ou:bD Tryz.prog ake:=au (aF oC) (au (aF oP) aG)
theorem VZ:nr (fac 0)=⟨1,[]⟩:=iK (by unfold fac;omega)
theorem Ov (n:Nat):aby (.recs 2 (fcL n)) (.genr 2 n fun j=>niC (nr (fac j))):=⟨by simp[CL.cnt,Ee],rfl,fun j hj {S w ι v} hr=>by
 simp only[CL.ncell,Ee]at hj;simp only[CL.get]at hr⊢;rw[VX qqO]at hr;have hj2:j % 2=0∨j % 2=1:=qqO;cases hq:j / 2 with
 |zero=>
  rw[hq]at hr;rw[VZ];rcases hj2 with e|e
  ·rw[e]at hr⊢;exact hr
  ·rw[e]at hr⊢
   have hr':Rep S w ι .nils v:=hr;show Rep S w ι (.nnl (.ints .u64 [])) v;cases hr';exact .nnl0 _ _ rfl
 |succ q=>rw[hq]at hr;exact hr⟩
theorem Hf {x:Int} (h:0≤x∧x≤1000000000):(⟨x,[]⟩:NI).OK∧(⟨x,[]⟩:NI).L≤100000000000:=
 ⟨.inl ⟨rfl,by show smI x;unfold smI;omega⟩,by unfold NI.L;rw[NI.val_sm];exact aky (nT qqO) qqD⟩
theorem Cm {n:Nat} (h:n≤256):(nr (fac n)).OK∧(nr (fac n)).L≤100000000000:=
 ⟨bO _,by unfold nr;rw[NI.L_nrm,an4];exact aky (abx h) qqD⟩
theorem ahH (j:Nat):nrm ((nr (fac j)).val*NI.val ⟨(j:Int)+1,[]⟩)=nr (fac (j+1)):=by
 unfold nr;rw[bg,NI.val_sm,fac,anb];rfl
theorem aiJ:nrm (NI.val ⟨1,[]⟩*NI.val ⟨((0:Nat):Int)+1,[]⟩)=nr (fac 1):=by
 have:=ahH 0;rw[VZ]at this;exact this
theorem V3:Qc.size=2:=qqR
theorem Cn (n:Nat) (hn:n≤256):aD Tryz.prog 107 [.int .i64 n] (fcV (n+1)):=by
 refine ay (md:=1) (rf:=[]) mixed av Ou Tryz.func107 qqR qqR qqR ?_
 repeat'((conv=>whnf);first|(intro hq;(try simp only[vw]at hq);try exact ak hq)|apply aI|exact aj|apply nM|apply fM)
 all_goals((try apply vM);(try simp only[vq]at*);try omega)
 conv=>whnf
 refine aV (X:=Nat) (fun i=>i≤n) (fun i=>[(8,.int .i64 i),(4,.any),(3,match i with|0=>.isl (.recs 2 [[.int .i64 1,.nils]]) .full|j+1=>.isl (.recs 2 (fcL (j+2))) (.own 5))]) (fun i=>match i with|0=>[]|j+1=>[(5,.tok 2 (j+2))]) (fun i=>n-i) 0 ⟨aL,mixed,av,Ou,aU⟩ qqR qqO ?_ ?_
 ·all_goals exact jT
 intro i hi;cases i with
 |zero=>
  have v1:=Hf (x:=1) qqO;have v2:=Hf (x:=((0:Nat):Int)+1) qqO;by_cases hlt:0<n
  ·repeat'((conv=>whnf);first|(intro hq;(try simp only[vw]at hq);try exact ak hq)|apply aI|exact aj|apply nM|apply fM)
   all_goals((try apply vM);(try simp only[vq]at*);try omega)
   all_goals(try simp only[aiJ,V3])
   all_goals first
    |rfl
    |exact⟨v1.1,v2.1,v1.2,v2.2⟩
    |exact .inr qqD
    |(simp only[alQ,chunks,akq,akm];omega)
    |(refine⟨1,[(14,5)],⟨qqO,qqO⟩,?_⟩
      repeat'((conv=>whnf);first|intro _|apply aI|exact aj|apply nM|apply fM)
      all_goals((try apply vM);(try simp only[vq]at*);try omega)
      all_goals first|exact congrArg (CL.recs 2) (KD 0)|rfl)
  ·have:n=0:=qqO
   subst this
   repeat'((conv=>whnf);first|(intro hq;(try simp only[vw]at hq);try exact ak hq)|apply aI|exact aj|apply nM|apply fM)
   all_goals((try apply vM);(try simp only[vq]at*);try omega)
   all_goals first|exact VY (Ov 1) _
 |succ i=>
  have hl:=Ee (i+2);have hg:(CL.recs 2 (fcL (i+2))).rcd (i+1)=niC (nr (fac (i+1))):=VX (i:=i+2) (j:=i+1) qqO;by_cases hlt:i+1<n
  ·repeat'((conv=>whnf);first|(intro hq;(try simp only[vw]at hq);try exact ak hq)|apply aI|exact aj|apply nM|apply fM)
   all_goals((try apply vM);(try simp only[vq]at*);try omega)
   ·rw[hg];rfl
   rw[hg];have v1:=Cm (n:=i+1) qqO;have v2:=Hf (x:=((i+1:Nat):Int)+1) qqO;have hm:=ahH (i+1)
   repeat'((conv=>whnf);first|(intro hq;(try simp only[vw]at hq);try exact ak hq)|apply aI|exact aj|apply nM|apply fM)
   all_goals((try apply vM);(try simp only[vq]at*);try omega)
   all_goals(try simp only[dI,hm,V3])
   all_goals first
    |rfl
    |exact⟨v1.1,v2.1,v1.2,v2.2⟩
    |(simp only[alQ,chunks,akq,akm];omega)
    |(refine⟨i+2,[],⟨qqO,qqO⟩,?_⟩
      repeat'((conv=>whnf);first|intro _|apply aI|exact aj|apply nM|apply fM)
      all_goals((try apply vM);(try simp only[vq]at*);try omega)
      all_goals first|exact congrArg (CL.recs 2) (KD (i+1))|rfl)
  ·have:n=i+1:=qqO
   subst this
   repeat'((conv=>whnf);first|(intro hq;(try simp only[vw]at hq);try exact ak hq)|apply aI|exact aj|apply nM|apply fM)
   all_goals((try apply vM);(try simp only[vq]at*);try omega)
   all_goals first|exact VY (Ov _) _
def lsT (p:List Int) (i t:Nat):Nat:=((p.drop (i+1)).take t).countP fun y=>decide (y<p.getD i 0)
def lsN (p:List Int) (i:Nat):Nat:=lsT p i (p.length-(i+1))
theorem Zn {p:List Int} {i t:Nat} (h:i+1+t<p.length):lsT p i (t+1)=lsT p i t+(if p.getD (i+1+t) 0<p.getD i 0 then 1 else 0):=by
 unfold lsT;have hl:t<(p.drop (i+1)).length:=by rw[alO];omega
 rw[aoQ,akL hl,List.countP_append];congr 1;rw[List.getElem_drop];have:p.getD (i+1+t) 0=p[i+1+t]:=by rw[akG,akL h];rfl
 rw[this];simp[List.countP_cons]
theorem V4 (p:List Int) (i t:Nat):lsT p i t≤t:=by
 unfold lsT;exact aky List.countP_le_length (by rw[alm];omega)
def rkT (p:List Int):Nat→Nat
 |0=>0
 |i+1=>rkT p i+lsN p i*fac (p.length-1-i)
def rkN (p:List Int):Nat:=rkT p p.length
set_option exponentiation.threshold 4000 in
theorem ahI {p:List Int} (h:p.length≤256):∀i,i≤256→rkT p i≤i*256 ^ 257:=by
 intro i;induction i with
 |zero=>intro _;exact alq _
 |succ i ih=>
  intro hi;have h1:=ih qqO;have h2:lsN p i≤256:=aky (V4 _ _ _) qqO;have h3:fac (p.length-1-i)≤256 ^ 256:=aky (VW _ qqO) (amN qqO qqO);have h4:=alE h2 h3;rw[rkT,akt];have:(256:Nat)*256 ^ 256=256 ^ 257:=(aoU (m:=256) (n:=256)).symm;omega
set_option exponentiation.threshold 4000 in
theorem RP {p:List Int} (h:p.length≤256) {i:Nat} (hi:i≤256):Lw (rkT p i)≤40:=by
 refine qW ?_;have h1:=ahI h i hi;have h2:i*256 ^ 257≤256*256 ^ 257:=Nat.mul_le_mul_right _ hi;have h3:(256:Nat)*256 ^ 257=256 ^ 258:=(aoU (m:=256) (n:=257)).symm;have h4:(256:Nat) ^ 258≤256 ^ 260:=amN qqO qqO;have:=ahG;omega
noncomputable def akf:CPT:=aB 80 (aP Cj) (aB 108 (aR ofP) (aB 110 (aR uD) (aB 109 (aR Dr) (aB 112 (aR wT) (aB 111 (aR GZ) noC)))))
theorem afc:bD Tryz.prog akf:=au (aC Kv) (au (aF oC) (au (aF oP) (au (aF wN) (au (aF uG) (au (aF DT) aG)))))
theorem afd {a b:NI} (ha:0≤a.val) (hb:0≤b.val):addN a b=nrm (a.val+b.val):=by
 unfold addN;rw[if_neg]
 rintro⟨h1,h2,h3⟩
 have e1:a.val=a.s:=gF h1;have e2:b.val=b.s:=gF h2;omega
theorem RQ (p:List Int) (hp:p.length≤1000000) (h:bZ 5 p=0):aD Tryz.prog 18 [.isl (.ints .i64 p) .none] (.tup [.str (rsS (rkN p:Nat)),.int .i64 (rsE (rkN p:Nat))]):=by
 have hP:=oD qqD h;have hl:=zL qqD h;have hc:=bM (Cn p.length hl) afc;refine ay (md:=1) (rf:=[]) mixed av hc Tryz.func18 qqR qqR qqR ?_
 repeat'((conv=>whnf);first|(intro hq;(try simp only[vw]at hq);try exact ak hq)|apply aI|exact aj|apply nM|apply fM)
 all_goals((try apply vM);(try simp only[vq]at*);try omega)
 all_goals(try contradiction)
 conv=>whnf
 refine aV (X:=Nat) (fun i=>i≤p.length) (fun i=>[(23,.int .i64 i),(7,.any),(8,.any),(9,.any),(11,.any)]) (fun i=>[(12,.cells (.pv (niC (nr (rkT p i)))) false)]) (fun i=>p.length-i) 0 ⟨aL,mixed,av,hc,aU⟩ qqR qqO ?_ ?_
 ·all_goals exact mR
 intro i hi;by_cases hlt:i<p.length
 ·repeat'((conv=>whnf);first|(intro hq;(try simp only[vw]at hq);try exact ak hq)|apply aI|exact aj|apply nM|apply fM)
  all_goals((try apply vM);(try simp only[vq]at*);try omega)
  all_goals(try omega)
  conv=>whnf
  refine aV (X:=Nat) (fun t=>t≤p.length-(i+1)) (fun t=>[(33,.int .i64 t),(11,.any),(9,.int .i64 (lsT p i t:Nat))]) (fun t=>[]) (fun t=>p.length-(i+1)-t) 0 ⟨aL,mixed,av,hc,aU⟩ qqR qqO ?_ ?_
  ·all_goals exact mR
  intro t ht;have hle:=V4 p i t;have hRl:(anF (p.length-((i:Int)+1).toNat) (anG ((i:Int)+1).toNat p)).length=p.length-(i+1):=by
   rw[alm,alO];omega
  have hRn:((CL.ints IntKind.i64 p).sub ((i:Int)+1).toNat p.length).ncell=p.length-(i+1):=hRl;by_cases hlt2:t<p.length-(i+1)
  ·have hRg:(anF (p.length-((i:Int)+1).toNat) (anG ((i:Int)+1).toNat p)).getD t 0=p.getD (i+1+t) 0:=by
    rw[akG,akG,List.getElem?_take,if_pos qqO,alP];congr 2
   have hs:=Zn (p:=p) (i:=i) (t:=t) qqO
   repeat'((conv=>whnf);first|(intro hq;(try simp only[vw]at hq);try exact ak hq)|apply aI|exact aj|apply nM|apply fM)
   all_goals((try apply vM);(try simp only[vq]at*);try omega)
   all_goals(try simp only[hRg]at*)
   all_goals first
    |omega
    |(rw[hRn];omega)
    |(refine⟨t+1,[],⟨qqO,qqO⟩,?_⟩
      first|rw[if_pos qqA]at hs|rw[if_neg qqA]at hs
      all_goals exact Fz)
  ·have:t=p.length-(i+1):=qqO
   subst this;have hk:((p.length:Int)-1-i).toNat=p.length-1-i:=qqO;have v1:=Hf (x:=(lsT p i (p.length-(i+1)):Nat)) qqO;have v2:=Cm (n:=p.length-1-i) qqO;have hm:nrm (NI.val ⟨(lsT p i (p.length-(i+1)):Nat),[]⟩*(nr (fac (p.length-1-i))).val)=nr (lsN p i*fac (p.length-1-i)):=by
    unfold nr;rw[NI.val_sm,bg,←anb];rfl
   have hL1:(nr (rkT p i)).L≤100000000000:=by unfold nr;rw[NI.L_nrm,an4];exact aky (RP hl qqO) qqD
   have hL2:(nr (lsN p i*fac (p.length-1-i))).L≤100000000000:=by
    unfold nr;rw[NI.L_nrm,an4];refine aky (fq (?_:_≤rkT p (i+1))) (aky (RP hl qqO) qqD);rw[rkT];omega
   have ha:addN (nr (rkT p i)) (nr (lsN p i*fac (p.length-1-i)))=nr (rkT p (i+1)):=by
    rw[afd (by unfold nr;rw[bg];omega) (by unfold nr;rw[bg];omega)]
    unfold nr;rw[bg,bg,←anc];rfl
   repeat'((conv=>whnf);first|(intro hq;(try simp only[vw]at hq);try exact ak hq)|apply aI|exact aj|apply nM|apply fM)
   all_goals((try apply vM);(try simp only[vq]at*);try omega)
   all_goals(try simp only[hk,dI,hm,ha])
   all_goals first
    |omega
    |rfl
    |exact⟨v1.1,v2.1,v1.2,v2.2⟩
    |exact⟨bO _,bO _,hL1,hL2⟩
    |(refine⟨i+1,[],⟨qqO,qqO⟩,?_⟩
      all_goals exact Fz)
 ·have:i=p.length:=qqO
  subst this;have hft:FT ⟨nr (rkT p p.length),fI⟩:=by
   refine⟨?_,?_⟩
   ·have:=dY ((rkT p p.length:Nat):Rat)
    have e:can ((rkT p p.length:Nat):Rat)=⟨nr (rkT p p.length),fI⟩:=rfl;rw[e]at this;exact this
   ·have e:(⟨nr (rkT p p.length),fI⟩:Fr)=can ((rkT p p.length:Nat):Rat):=rfl
    rw[e,l9];show RL _≤_;unfold RL;have h1:=RP hl (i:=p.length) qqO;have h2:Lw 1≤1:=nT qqO;show max (Lw (Int.natAbs ((rkT p p.length:Nat):Int))) (Lw 1)≤_;rw[an4];omega
  have hv:Fr.val ⟨nr (rkT p p.length),fI⟩=((rkT p p.length:Nat):Rat):=by
   have e:(⟨nr (rkT p p.length),fI⟩:Fr)=can ((rkT p p.length:Nat):Rat):=rfl;rw[e,dS]
  repeat'((conv=>whnf);first|(intro hq;(try simp only[vw]at hq);try exact ak hq)|apply aI|exact aj|apply nM|apply fM)
  all_goals((try apply vM);(try simp only[vq]at*);try omega)
  all_goals(try simp only[cO,hv])
  all_goals first
   |exact hft
   |exact Sup.of rfl
def upI (n:Nat):List Int:=(akE n).map fun i:Nat=>(i:Int)
theorem Ow (n:Nat):(upI n).length=n:=by simp[upI]
theorem Zo (n:Nat):upI n++[(n:Int)]=upI (n+1):=by simp[upI,anX]
structure Ur where
 l:Nat
 r:List Int
 o:List Int
def urT (n x:Nat):Nat→Ur
 |0=>⟨x,upI n,[]⟩
 |i+1=>⟨(urT n x i).l % fac (n-1-i),(urT n x i).r.eraseIdx ((urT n x i).l / fac (n-1-i)),(urT n x i).o++[(urT n x i).r.getD ((urT n x i).l / fac (n-1-i)) 0]⟩
def ahJ (n x:Nat):List Int:=(urT n x n).o
theorem V5 {n x:Nat} (hx:x<fac n):∀i,i≤n→(urT n x i).l<fac (n-i)∧(urT n x i).r.length=n-i∧(urT n x i).o.length=i:=by
 intro i;induction i with
 |zero=>intro _;exact⟨hx,Ow n,rfl⟩
 |succ i ih=>
  intro hi;obtain⟨h1,h2,h3⟩:=ih qqO;have hf:=Ot (n-1-i);have hfe:fac (n-i)=fac (n-1-i)*(n-i):=by
   obtain⟨k,hk⟩:∃k,n-i=k+1:=⟨n-i-1,qqO⟩;rw[hk,show n-1-i=k by omega,fac]
  have hk:(urT n x i).l / fac (n-1-i)<n-i:=aoV (by rw[←hfe];exact h1)
  refine⟨?_,?_,?_⟩
  ·rw[show n-(i+1)=n-1-i by omega];exact alc _ hf
  ·show((urT n x i).r.eraseIdx _).length=_
   rw[aoT qqO,h2];omega
  ·show((urT n x i).o++[_]).length=_
   rw[alQ,h3];rfl
theorem akg {n x:Nat} (hx:x<fac n) {i:Nat} (hi:i<n):(urT n x i).l / fac (n-1-i)<n-i:=by
 obtain⟨h1,h2,h3⟩:=V5 hx i qqO;have hfe:fac (n-i)=fac (n-1-i)*(n-i):=by
  obtain⟨k,hk⟩:∃k,n-i=k+1:=⟨n-i-1,qqO⟩;rw[hk,show n-1-i=k by omega,fac]
 exact aoV (by rw[←hfe];exact h1)
noncomputable def akh:CPT:=aB 100 (aP Rk) (aB 113 (aP qp) (aB 114 (aP l7) (aB 115 (aP GY) (aB 116 (aR QM) (aB 117 (aR Yt) (aB 118 (aR GQ) (aB 119 (aR dmP) (aB 120 (aR Ui) (aB 121 RO noC)))))))))
theorem afe:bD Tryz.prog akh:=au (aC Vg) (au (aC iL) (au (aC iV) (au (aC NQ) (au (aF JG) (au (aF UF) (au (aF Dt) (au (aF Qu) (au (aF XZ) (au Zm aG)))))))))
theorem aiK {z:Int}:decide (eH z<0)=decide (z<0):=by
 rw[decide_eq_decide];unfold eH;(repeat' split)<;>omega
theorem aiL {a b:Int}:decide (0≤mX a b)=decide (b≤a):=by
 rw[decide_eq_decide];unfold mX;(repeat' split)<;>omega
theorem Zp (n:Nat) (hn:1≤n∧n≤256) (q:Rat) (hs:(txQ q).size≤1000000000) (hc0:wX (txQ q)=0) (hD:Lw q.num.natAbs≤1000∧Lw q.den≤1000) (x:Nat) (hq1:q.den=1) (hq2:q.num=x) (hx0:x<fac n):aD Tryz.prog 19 [.int .i64 n,.str (txQ q)] (.tup [.isl (.ints .i64 (ahJ n x)) .none,.int .i64 0]):=by
 have hc1:=bM (Cn n hn.2) afe;have e0:dG [if 256<(n:Int)then 3 else 0,wX (txQ q)]=0:=by rw[hc0,if_neg qqO];rfl
 have hr:=wV q;have hx:=JU q;have k1:(can q).OK:=dY q;have k2:(can q).d.val=1:=by show(nr q.den).val=_;unfold nr;rw[bg,hq1];try rfl
 have k3:(can q).n.val=x:=by show(nrm q.num).val=_;rw[bg,hq2]
 have k5:(can q).n=nr x:=by show nrm q.num=_;rw[hq2];try rfl
 have v2:=Cm hn.2;have v3:(can q).n.L≤100000000000:=by show(nrm q.num).L≤_;rw[NI.L_nrm];omega
 have k4:(nr (fac n)).val=(fac n:Nat):=by unfold nr;rw[bg]
 have a1:¬eH (x:Int)<0:=fun h=>by have:=(decide_eq_decide.1 (aiK (z:=(x:Int)))).1 h;omega
 have a2:¬0≤mX (x:Int) ((fac n:Nat):Int):=fun h=>by have:=(decide_eq_decide.1 (aiL (a:=(x:Int)) (b:=((fac n:Nat):Int)))).1 h;omega
 have hsl:((nr x).val)=x:=by unfold nr;rw[bg]
 generalize txQ q=s at*
 subst hr;refine ay (md:=1) (rf:=[63]) mixed av hc1 Tryz.func19 qqR qqR qqR ?_
 repeat'((conv=>whnf);first|(intro hq;(try simp only[vw]at hq);try exact ak hq)|apply aI|exact aj|apply nM|apply fM)
 all_goals((try apply vM);(try simp only[vq]at*);try omega)
 all_goals first
  |exact⟨hx,hs⟩
  |exact k1
  |rfl
  |exact⟨bO _,v2.1,v3,v2.2⟩
  |contradiction
  |(exfalso
    simp only[dI,k2,k3,k4,ale,decide_eq_false_iff_not,not_true]at*
    done)
  |(exfalso
    simp only[dI,k2,k3,k4,ale,decide_eq_false_iff_not,not_true]at*
    contradiction)
  |skip
 clear k1 k2 k3 a1 a2 e0 hc0 v2 v3 k4;conv=>whnf
 refine aV (X:=Nat) (fun i=>i≤n) (fun i=>[(57,.int .i64 i),(12,.any),(10,match i with|0=>.nils|j+1=>.rsl 5 0 (j+1))]) (fun i=>match i with|0=>[]|j+1=>[(5,.cells (.ints .i64 (upI (j+1))) false)]) (fun i=>n-i) 0 ⟨aL,mixed,av,hc1,aU⟩ qqR qqO ?_ ?_
 ·all_goals exact mR
 intro i hi;cases i with
 |zero=>
  repeat'((conv=>whnf);first|(intro hq;(try simp only[vw]at hq);try exact ak hq)|apply aI|exact aj|apply nM|apply fM)
  all_goals((try apply vM);(try simp only[vq]at*);try omega)
  all_goals first
   |omega
   |(refine⟨1,[(36,5)],⟨qqO,qqO⟩,?_⟩
     all_goals exact jT)
 |succ i=>
  have hul:=Ow (i+1);by_cases hlt:i+1<n
  ·have hus:=Zo (i+1)
   have hus2:anF (i+1-0) (anG 0 (upI (i+1)))++[((i+1:Nat):Int)]=upI (i+2):=by
    rw[aoJ,List.drop_zero,List.take_of_length_le qqO];exact hus
   repeat'((conv=>whnf);first|(intro hq;(try simp only[vw]at hq);try exact ak hq)|apply aI|exact aj|apply nM|apply fM)
   all_goals((try apply vM);(try simp only[vq]at*);try omega)
   all_goals first
    |omega
    |(refine⟨i+2,[(36,5)],⟨qqO,qqO⟩,?_⟩
      repeat'((conv=>whnf);first|intro _|apply aI|exact aj|apply nM|apply fM)
      all_goals((try apply vM);(try simp only[vq]at*);try omega)
      all_goals first|exact hus|exact hus2)
  ·have:n=i+1:=qqO
   subst this
   repeat'((conv=>whnf);first|(intro hq;(try simp only[vw]at hq);try exact ak hq)|apply aI|exact aj|apply nM|apply fM)
   all_goals((try apply vM);(try simp only[vq]at*);try omega)
   all_goals(try omega)
   conv=>whnf
   have hinv:=fun j hj=>V5 hx0 j hj;have hkk:=fun j hj=>akg hx0 (i:=j) hj;refine aV (X:=Nat) (fun j=>j≤i+1) (fun j=>[(66,.int .i64 j),(13,.any),(14,.any),(15,.any),(16,.any),(17,.any),(69,.any),(81,.any),(12,.any),(10,.rsl 5 0 (i+1-j)),(11,.isl (.ints .i64 (urT (i+1) x j).o) (.own 9))]) (fun j=>[(5,.cells (.ints .i64 (urT (i+1) x j).r) false),(9,.tok 1 j),(34,.cells (.pv (niC (nr (urT (i+1) x j).l))) false)]) (fun j=>i+1-j) 0 ⟨aL,mixed,av,hc1,aU⟩ qqR qqO ?_ ?_
   ·rw[k5]
    all_goals exact jT
   intro j hj;obtain⟨i1,i2,i3⟩:=hinv j hj;by_cases hlt2:j<i+1
   ·have hk1:=hkk j hlt2
    have hu:urT (i+1) x (j+1)=⟨(urT (i+1) x j).l % fac (i+1-1-j),(urT (i+1) x j).r.eraseIdx ((urT (i+1) x j).l / fac (i+1-1-j)),(urT (i+1) x j).o++[(urT (i+1) x j).r.getD ((urT (i+1) x j).l / fac (i+1-1-j)) 0]⟩:=rfl;clear hinv hkk;generalize urT (i+1) x j=U at*
    have hi1:(((i+1:Nat):Int)-1-j).toNat=i+1-1-j:=qqO;have v2:=Cm (n:=i+1-1-j) qqO;have hlL:(nr U.l).L≤100000000000:=by
     unfold nr;rw[NI.L_nrm,an4];exact aky (fq (am1 i1)) (aky (abx qqO) qqD)
    have hfp:=Ot (i+1-1-j);have hfv:(nr (fac (i+1-1-j))).val=(fac (i+1-1-j):Nat):=by unfold nr;rw[bg]
    have hlv:(nr U.l).val=(U.l:Nat):=by unfold nr;rw[bg]
    have hdc:((U.l:Nat):Int) / (fac (i+1-1-j):Nat)=((U.l / fac (i+1-1-j):Nat):Int):=(Int.natCast_ediv _ _).symm;have hmv:nrm ((nr U.l).val % (nr (fac (i+1-1-j))).val)=nr (U.l % fac (i+1-1-j)):=by
     rw[hlv,hfv,←amR];try rfl
    have hnl:¬((nr U.l).s<0):=by
     rw[NI.neg_iff (bO _),hlv];omega
    generalize hD:U.l / fac (i+1-1-j)=d at*
    generalize hE:U.l % fac (i+1-1-j)=e at*
    have hdv:divN (nr U.l) (nr (fac (i+1-1-j)))=⟨(d:Int),[]⟩:=by
     unfold divN;have e:nrm ((nr U.l).val / (nr (fac (i+1-1-j))).val)=⟨(d:Int),[]⟩:=by
      rw[hlv,hfv,hdc];exact iK qqO
     split
     ·exact e
     ·rw[if_neg (fun h=>hnl h.1)];exact e
    generalize hF:fac (i+1-1-j)=F at*
    repeat'((conv=>whnf);first|(intro hq;(try simp only[vw]at hq);try exact ak hq)|apply aI|exact aj|apply nM|apply fM)
    all_goals((try apply vM);(try simp only[vq]at*);try omega)
    all_goals(try simp only[hi1,hF,dI,hdv,hmv,amI,hfv])
    all_goals first
     |omega
     |rfl
     |exact⟨bO _,v2.1,qqO,hlL,v2.2⟩
     |(rw[alQ,akq,akm];omega)
     |(refine⟨j+1,[],⟨qqO,qqO⟩,?_⟩
       rw[hu]
       repeat'((conv=>whnf);first|intro _|apply aI|exact aj|apply nM|apply fM)
       all_goals((try apply vM);(try simp only[vq]at*);try omega)
       all_goals first|rfl|omega|(rw[←hfv,hmv]))
   ·have:j=i+1:=qqO
    subst this;all_goals exact iq
end Go.Eng.YtmkagljofpddpaaGreatDoor
namespace Go.Eng.YtmkagljofpddpaaGreatDoor
open Go.Proofs Go.RowKit
set_option linter.unusedSimpArgs false
set_option linter.unusedVariables false
set_option maxHeartbeats 0
set_option maxRecDepth 1000000
def nmB (i:Nat) (c:Nat):Bool:=decide ((97≤c∧c≤122)∨(65≤c∧c≤90)∨(i≠0∧(c=95∨(48≤c∧c≤57))))
theorem Hg {i c:Nat}:nmB i c=true↔((97≤c∧c≤122)∨(65≤c∧c≤90)∨(i≠0∧(c=95∨(48≤c∧c≤57)))):=decide_eq_true_iff
def zY (s:ByteArray):Bool:=decide ((∀i,i<s.size→nmB i (s.get! i).toNat=true)∧0<s.size∧s.size≤24)
theorem V6 (s:ByteArray):s.toList=[]↔s.size=0:=by rw[ByteArray.toList_eq,←alY,Array.length_toList];exact Iff.rfl
theorem Zq (s:ByteArray) (w:World):Calls Tryz.prog 37 #[.string s] w fun e w'=>e=.returned (.bool (zY s))∧∃pos,w'=w.iter s pos:=by
 go_enter Tryz.func37,Tryz.ntmps37
 go_wp2
 go_loopw [2] (fun n w'=>∃(pos:Nat),w'=w.iter s pos∧pos≤s.size∧∀i,i<pos→nmB i (s.get! i).toNat=true) (fun _ w'=>s.size-w'.iterPos w.heap.size)
 case atStart=>exact⟨0,rfl,qqO,fun i h=>qqO⟩
 case round=>
  obtain⟨pos,rfl,hps,hok⟩:=hrel;by_cases hp:pos<s.size
  ·have hnx:∀ty,(Instr.next (.pointer (some ⟨w.heap.size,0,none⟩)) true ty).run Tryz.prog (w.iter s pos)=_:=fun ty=>run_next_any w s pos ty hp
   obtain⟨D,hD⟩:∃D,Utf8.decode s pos=D:=⟨_,rfl⟩;have hle:=decode_le s pos;have hhi:=decode_high s pos hp;have hlo:=decode_ascii s pos hp;rw[hD]at hle hhi hlo;simp only[hD]at hnx;obtain⟨r,m⟩:=D;simp only at hle hhi hlo hnx;obtain⟨b,hb⟩:∃b,(s[pos]'hp).toNat=b:=⟨_,rfl⟩;have hg:s.get! pos=s[pos]'hp:=by simp[ByteArray.get!,getElem!_pos,hp];rfl
   have hF:nmB pos (s.get! pos).toNat=true↔nmB pos r=true:=by
    rw[hg,hb];by_cases h:b<128
    ·have:=hlo qqO
     rw[hb]at this;rw[(Prod.mk.inj this).1]
    ·have:=hhi qqO
     rw[Hg,Hg];omega
   have hm:nmB pos r=true→m=1:=fun h=>by
    rw[Hg]at h;by_cases h2:b<128
    ·exact(Prod.mk.inj (hlo qqO)).2
    ·have:=hhi qqO;omega
   have good:nmB pos r=true→(∃q,w.iter s (pos+m)=w.iter s q∧q≤s.size∧∀(i:Nat),i<q→nmB i (s.get! i).toNat=true)∧s.size-(w.iter s (pos+m)).iterPos w.heap.size<s.size-(w.iter s pos).iterPos w.heap.size:=fun h=>by
    have e:=hm h;subst e;refine⟨⟨pos+1,rfl,qqO,fun i hi=>?_⟩,?_⟩
    ·by_cases e:i=pos
     ·subst e;exact hF.2 h
     ·exact hok i qqO
    ·rw[World.iterPos_iter,World.iterPos_iter];omega
   have bad:¬nmB pos r=true→zY s=false:=fun h=>decide_eq_false fun g=>h (hF.1 (g.1 pos hp));rw[Hg]at good bad;clear hF hm hhi hlo
   go_wp2
   all_goals(try simp only[ale,decide_eq_false_iff_not,aoB,decide_eq_true_eq,bne_iff_ne,beq_iff_eq,Bool.not_eq_eq_eq_not,Bool.not_true,ali,ne_eq,bne_eq_false_iff_eq,beq_eq_false_iff_ne]at*)
   all_goals first
    |(refine good ?_;omega)
    |(go_ret;rw[bad qqO];exact⟨rfl,_,rfl⟩)
    |(have hz:pos=0:=qqO
      subst hz;simp only[akS]at good;refine good ?_;omega)
  ·have hnx:∀ty,(Instr.next (.pointer (some ⟨w.heap.size,0,none⟩)) true ty).run Tryz.prog (w.iter s pos)=_:=fun ty=>run_next_end w s pos ty hp
   have he:pos=s.size:=qqO;subst he;have e1:(∃q,w.iter s s.size=w.iter s q):=⟨_,rfl⟩
   go_wp2
   ·rename_i h
    have e0:=V6 s
    go_ret
    have:zY s=false:=decide_eq_false fun g=>by have:=e0.1 h;omega
    rw[this];exact⟨rfl,e1⟩
   ·rename_i h
    have e0:=V6 s
    go_ret
    have h1:s.toList.isEmpty=false:=by rw[aoP];simpa using h
    have h2:=fun g=>h (e0.2 g);have:zY s=(!s.toList.isEmpty&&decide ((s.size:Int)≤24)):=by
     rw[h1];unfold zY;rw[ali,Bool.true_and,decide_eq_decide];exact⟨fun g=>aoW.2 g.2.2,fun g=>⟨hok,Nat.pos_of_ne_zero h2,aoW.1 g⟩⟩
    rw[this];exact⟨rfl,e1⟩
theorem Zr (s:ByteArray):aD Tryz.prog 37 [.str s] (.bp (zY s)):=by
 refine fD (enters' Tryz.func37 qqR qqR) fun S w vs himm hA=>?_;rw[Nh hA];refine⟨_,.bp _ _,(Zq s w).mono ?_⟩
 rintro e w' ⟨rfl,pos,rfl⟩
 refine⟨rfl,rfl,rfl,rfl,?_,fun k hk=>?_⟩
 ·show _≤(w.heap.push _).size
  rw[Array.size_push];omega
 ·show(w.heap.push _)[k]? =_
  rw[Array.getElem?_push,if_neg qqO]
def Zt:PSp:=fun xs K=>match xs with
 | [.str s]=>VC (True)∧K (.bp (zY s))
 |_=>False
theorem ahK:POK Tryz.prog 37 Zt:=by
 intro xs K h;unfold Zt at h;split at h
 ·exact⟨_,h.2,Zr _⟩
 ·exact h.elim
end Go.Eng.YtmkagljofpddpaaGreatDoor
namespace Go.Eng.YtmkagljofpddpaaGreatDoor
open Go.Proofs Go.Eng.Dig Go.Eng.Dec Go.Eng.Pm Go.Eng.ElG
set_option linter.unusedSimpArgs false
set_option linter.unusedVariables false
set_option maxHeartbeats 0
set_option maxRecDepth 100000
theorem RS {n:Nat} {f:Nat→PV} {cs:List PV} (hl:cs.length=n) (h:∀i,i<n→f i=aH cs i):gK (.gen n f) (.pv cs):=⟨hl,rfl,fun j hj=>by simp only[CL.ncell]at hj;simp only[CL.get];exact(h j hj).symm⟩
abbrev stF (l:List ByteArray):PV:=.isl (.strs l) .full
theorem sJ (L:List (List ByteArray)) {n:Nat} (hn:L.length=n) {f:Nat→List ByteArray} (hf:∀i,i<n→L.getD i []=f i) {S:Imm} {w:World} {ι:Ix} {t:Tok} {v:Value} (hr:Rep S w ι (.isl (.pv (L.map stF)) t) v):Rep S w ι (tmV n f) v:=by
 have hl:(L.map stF).length=n:=by rw[aoE,hn]
 have hg:∀(l:List (List ByteArray)) (i:Nat),i<l.length→aH (l.map stF) i=stF (l.getD i []):=by
  intro l;induction l with
  |nil=>intro i h;cases h
  |cons x l ih=>
   intro i h;cases i with
   |zero=>rfl
   |succ i=>exact ih i (by simpa using h)
 show Rep S w ι (.isl (.gen n fun i=>stV (f i)) .none) v;cases hr with
 |islnil _ _ _ g=>exact .islnil _ _ _ (by rw[←hl];exact g)
 |isl _ _ _ b off cap h1 h2 h3 h4 h5=>
  rw[show(CL.pv (L.map stF)).cnt=(CL.gen n fun i=>stV (f i)).cnt from hl];refine .isl ι (.gen n fun i=>stV (f i)) .none b off cap ?_ (fun j hj=>h2 j ?_) (fun j hj=>?_) (fun g=>by cases g) (fun k g=>by cases g)
  ·show n≤cap;rw[←hl];exact h1
  ·show j<(L.map stF).length;rw[hl];exact hj
  have hj':j<n:=hj;have h:=h3 j (by show j<(L.map stF).length;rw[hl];exact hj)
  have e:(CL.pv (L.map stF)).get j=stF (f j):=by
   show aH (L.map stF) j=_;rw[hg L j qqO,hf j hj']
  rw[e]at h;exact jB (gK.rfl' _) h
def qOf (l:List (List Rat)):Nat→Nat→Rat:=fun i j=>(l.getD i []).getD j 0
def vOf (l:List Rat):Nat→Rat:=fun i=>l.getD i 0
def iOf (l:List (List Int)):Nat→List Int:=fun i=>l.getD i []
abbrev exM:List (List Rat):=[[1,2,3],[2,4,7]]
abbrev exD:List (List Rat):=[[1,2],[3,4]]
abbrev exR:List (List Rat):=[[1,1],[2,2]]
theorem V7:jC 2 3 1 (qOf exM):=⟨qqD,qqD,qqV,qqV,qqV,qqV⟩
theorem ahL:jC 2 2 1 (qOf exD):=⟨qqD,qqD,qqV,qqV,qqV,qqV⟩
theorem ahM:jC 2 2 1 (qOf exR):=⟨qqD,qqD,qqV,qqV,qqV,qqV⟩
theorem ahN:mg 2 1 (vOf [4,9]):=⟨qqV,qqV,qqV⟩
theorem ahO:mg 2 1 (vOf [1,3]):=⟨qqV,qqV,qqV⟩
theorem ahP:mg 2 1 (vOf [-2,1]):=⟨qqV,qqV,qqV⟩
abbrev RU:List (List ByteArray):=[[⟨#[49]⟩,⟨#[50]⟩,⟨#[51]⟩],[⟨#[50]⟩,⟨#[52]⟩,⟨#[55]⟩]]
abbrev Zu:List (List ByteArray):=[[⟨#[49]⟩,⟨#[50]⟩],[⟨#[51]⟩,⟨#[52]⟩]]
abbrev Zv:List (List ByteArray):=[[⟨#[49]⟩,⟨#[49]⟩],[⟨#[50]⟩,⟨#[50]⟩]]
abbrev Zw:List (List ByteArray):=[[⟨#[49]⟩,⟨#[45,49,47,50]⟩,⟨#[48]⟩]]
abbrev RV:PV:=.isl (.pv (RU.map stF)) .none
abbrev ahQ:PV:=.isl (.pv (Zu.map stF)) .none
abbrev ahR:PV:=.isl (.pv (Zv.map stF)) .none
theorem abz:∀i,i<2→RU.getD i []=qmL 3 (qOf exM) i:=qqV
theorem aiM:∀i,i<2→Zu.getD i []=qmL 2 (qOf exD) i:=qqV
theorem aiN:∀i,i<2→Zv.getD i []=qmL 2 (qOf exR) i:=qqV
theorem a1:aD Tryz.prog 39 [.int .i64 6,.int .i64 (-4)] (.tup [.str ⟨#[45,51,47,50]⟩,.int .i64 0]):=by
 have h:=YB 6 (-4) (by unfold wR;decide) (by unfold wR;decide)
 rw[show ofS 6 (-4)=⟨#[45,51,47,50]⟩from by decide+kernel,show ofE 6 (-4)=0 from by decide+kernel]at h
 exact h
theorem a2:aD Tryz.prog 41 [.int .i64 12,.int .i64 (-18)] (.tup [.int .i64 6,.int .i64 0]):=by
 have h:=FK 12 (-18);rw[show DJ 12 (-18)=(6,0)from by decide+kernel]at h
 exact h
theorem a3:aD Tryz.prog 45 [.int .i64 3,.int .i64 10] (.tup [.int .i64 7,.int .i64 0]):=by
 have h:=U4 3 10;rw[show Q8 3 10=(7,0)from by decide+kernel]at h
 exact h
abbrev exP:List Int:=[1,2,0,4,3]
theorem a4:aD Tryz.prog 84 [.isl (.ints .i64 exP) .none] (.tup [.isl (.rows .i64 [[0,1,2],[3,4]]) .none,.int .i64 0]):=by
 have h:=xB exP qqD;rw[show bZ 5 exP=0 from by decide+kernel,if_pos rfl,show cys exP=[[0,1,2],[3,4]]from by decide+kernel]at h
 exact h
theorem a5:aD Tryz.prog 85 [.isl (.ints .i64 exP) .none] (.tup [.int .i64 (-1),.int .i64 0]):=by
 have h:=VT exP qqD;rw[show bZ 5 exP=0 from by decide+kernel,if_pos rfl,show sgT (cys exP)= -1 from by decide+kernel]at h
 exact h
theorem a6:aD Tryz.prog 83 [.isl (.ints .i64 exP) .none,.int .i64 2] (.tup [.isl (.ints .i64 [2,0,1,3,4]) .none,.int .i64 0]):=by
 have h:=RN exP 2 qqD qqD;rw[show bZ 5 exP=0 from by decide+kernel,if_pos rfl,show pwL exP 2=[2,0,1,3,4]from by decide+kernel]at h
 exact h
theorem a7:aD Tryz.prog 18 [.isl (.ints .i64 [2,0,1]) .none] (.tup [.str ⟨#[52]⟩,.int .i64 0]):=by
 have h:=RQ [2,0,1] qqD qqV;rw[show rsS (rkN [2,0,1]:Nat)=⟨#[52]⟩from by decide+kernel,show rsE (rkN [2,0,1]:Nat)=0 from by decide+kernel]at h
 exact h
theorem a8:aD Tryz.prog 19 [.int .i64 4,.str ⟨#[50,51]⟩] (.tup [.isl (.ints .i64 [3,2,1,0]) .none,.int .i64 0]):=by
 have h:=Zp 4 qqD 23 qqV qqV qqV 23 qqV qqV qqV;rw[show txQ 23=⟨#[50,51]⟩from by decide+kernel,show ahJ 4 23=[3,2,1,0]from by decide+kernel]at h
 exact h
theorem a9:aD Tryz.prog 70 [RV] (.tup [.isl (.pv [stV [⟨#[49]⟩,⟨#[45,49,47,50]⟩,⟨#[48]⟩]]) .none,.int .i64 0]):=by
 have h:=Y8 V7 qqD (by unfold ahv;decide+kernel)
 unfold mtR at h;rw[show mtE (keQ 2 3 (qOf exM)).piv.length 3 (keQ 2 3 (qOf exM)).M=0 from by decide+kernel,show mtN (keQ 2 3 (qOf exM)).piv.length 3 (keQ 2 3 (qOf exM)).M=1 from by decide+kernel]at h
 refine jc (cK (ys:=[tmV 2 (qmL 3 (qOf exM))]) (fun S wd vs hA=>⟨hA.1,fun i hi=>?_⟩) h) (uI (RS (n:=1) rfl fun i hi=>?_) _ _)
 ·have:=hA.2 i hi
  match i,hi with
  |0,_=>exact sJ RU rfl abz this
 ·obtain rfl:i=0:=qqO
  exact congrArg stV qqV
theorem a10:aD Tryz.prog 93 [RV,stV [⟨#[52]⟩,⟨#[57]⟩]] (.tup [stV [⟨#[49]⟩,⟨#[48]⟩,⟨#[49]⟩],.int .i64 0]):=by
 have h:=Zb V7 ahN qqD qqV;unfold Ku at h;rw[show Za 3 (svQ (slQ 2 3 (qOf exM) (vOf [4,9])) 3 (slQ 2 3 (qOf exM) (vOf [4,9])).piv.length)=[⟨#[49]⟩,⟨#[48]⟩,⟨#[49]⟩]from by decide+kernel,show Ry 3 (svQ (slQ 2 3 (qOf exM) (vOf [4,9])) 3 (slQ 2 3 (qOf exM) (vOf [4,9])).piv.length)=0 from by decide+kernel]at h
 refine cK (ys:=[tmV 2 (qmL 3 (qOf exM)),stV (qsL 2 (vOf [4,9]))]) (fun S wd vs hA=>⟨hA.1,fun i hi=>?_⟩) h;have:=hA.2 i hi
 match i,hi with
 |0,_=>exact sJ RU rfl abz this
 |1,_=>rw[show qsL 2 (vOf [4,9])=[⟨#[52]⟩,⟨#[57]⟩]from by decide+kernel];exact this
theorem a11:aD Tryz.prog 33 [ahQ] (.tup [.str ⟨#[45,50]⟩,.int .i64 0]):=by
 have h:=Y9 ahL qqV;rw[show rsS (deQ 2 (qOf exD))=⟨#[45,50]⟩from by decide+kernel,show rsE (deQ 2 (qOf exD))=0 from by decide+kernel]at h
 refine cK (ys:=[tmV 2 (qmL 2 (qOf exD))]) (fun S wd vs hA=>⟨hA.1,fun i hi=>?_⟩) h;have:=hA.2 i hi
 match i,hi with
 |0,_=>exact sJ Zu rfl aiM this
theorem a13:aD Tryz.prog 95 [ahR,stV [⟨#[49]⟩,⟨#[51]⟩],stV [⟨#[45,50]⟩,⟨#[49]⟩]] (.int .i64 0):=by
 have h:=Ze ahM ahO ahP qqD qqD;rw[show crQ 2 2 (qOf exR) (vOf [1,3]) (vOf [-2,1])=true from by decide+kernel,if_pos rfl]at h
 refine cK (ys:=[tmV 2 (qmL 2 (qOf exR)),stV (qsL 2 (vOf [1,3])),stV (qsL 2 (vOf [-2,1]))]) (fun S wd vs hA=>⟨hA.1,fun i hi=>?_⟩) h;have:=hA.2 i hi
 match i,hi with
 |0,_=>exact sJ Zv rfl aiN this
 |1,_=>rw[show qsL 2 (vOf [1,3])=[⟨#[49]⟩,⟨#[51]⟩]from by decide+kernel];exact this
 |2,_=>rw[show qsL 2 (vOf [-2,1])=[⟨#[45,50]⟩,⟨#[49]⟩]from by decide+kernel];exact this
abbrev exI:List (List Int):=[[1,2],[3,4]]
theorem ahS:Y5 2 2 (iOf exI) 2:=⟨qqD,qqD,⟨qqD,qqD⟩,qqV,⟨qqD,qqD⟩,qqD,qqD⟩
abbrev ahT:PV:=.isl (.rows .i64 exI) .none
theorem a12:aD Tryz.prog 57 [ahT,.int .i64 2] (.tup [.isl (.rows .i64 [[0,1]]) .none,.int .i64 0]):=by
 have h:=Y6 2 2 (iOf exI) 2 ahS (k:=0) qqV;rw[show(gP (Fp 2) 0 1 2 2 (rsM 2 (iOf exI))).piv.length=1 from by decide+kernel]at h
 refine jc (cK (ys:=[tmI 2 (iOf exI),.int .i64 2]) (fun S wd vs hA=>⟨hA.1,fun i hi=>?_⟩) (Gl h qqD)) (uI ?_ _ _)
 ·have:=hA.2 i hi
  match i,hi with
  |0,_=>exact jB (uN exI) this
  |1,_=>exact this
 ·refine⟨rfl,rfl,fun j hj=>?_⟩
  obtain rfl:j=0:=by simp only[CL.ncell]at hj;omega
  show PV.isl (.ints .i64 [0,1]) .none=PV.isl (.ints .i64 (cu 2 ((gP (Fp 2) 0 1 2 2 (rsM 2 (iOf exI))).M 0))) .none;rw[show cu 2 ((gP (Fp 2) 0 1 2 2 (rsM 2 (iOf exI))).M 0)=[0,1]from by decide+kernel]
theorem b1:aD Tryz.prog 77 [.isl (.pv [stV [⟨#[49]⟩,⟨#[45,49,47,50]⟩,⟨#[48]⟩]]) .none,.isl (.pv (Zw.map stF)) .none] (.bp true):=by
 have h:=VI 1 1 (fun _=>[⟨#[49]⟩,⟨#[45,49,47,50]⟩,⟨#[48]⟩]) (fun _=>[⟨#[49]⟩,⟨#[45,49,47,50]⟩,⟨#[48]⟩]) qqD qqD qqD true (by simp[ahC])
 refine cK (ys:=[tmV 1 fun _=>[⟨#[49]⟩,⟨#[45,49,47,50]⟩,⟨#[48]⟩],tmV 1 fun _=>[⟨#[49]⟩,⟨#[45,49,47,50]⟩,⟨#[48]⟩]]) (fun S wd vs hA=>⟨hA.1,fun i hi=>?_⟩) h;have:=hA.2 i hi
 match i,hi with
 |0,_=>exact jB (BR (n:=1) rfl fun i hi=>by(obtain rfl:i=0:=qqO);rfl) this
 |1,_=>exact sJ Zw rfl qqD this
def RY:PSp:=fun xs K=>match xs with
 | [.isl (.rows .i64 a) .none,.isl (.rows .i64 b) .none]=>VC ((a.length≤1000000∧b.length≤1000000)∧(∀r,r∈a→r.length≤1000000000)∧(∀r,r∈b→r.length≤1000000000))∧K (.bp (decide (a=b)))
 |_=>False
theorem aff:POK Tryz.prog 61 RY:=by
 intro xs K hk;unfold RY at hk;split at hk
 ·exact⟨_,hk.2,VJ _ _ hk.1.get.1 hk.1.get.2.1 hk.1.get.2.2⟩
 ·exact hk.elim
noncomputable def aki:CPT:=iy 39 [.int .i64 6,.int .i64 (-4)] (.tup [.str ⟨#[45,51,47,50]⟩,.int .i64 0])
 (iy 41 [.int .i64 12,.int .i64 (-18)] (.tup [.int .i64 6,.int .i64 0])
 (iy 45 [.int .i64 3,.int .i64 10] (.tup [.int .i64 7,.int .i64 0])
 (iy 84 [.isl (.ints .i64 exP) .none] (.tup [.isl (.rows .i64 [[0,1,2],[3,4]]) .none,.int .i64 0])
 (iy 85 [.isl (.ints .i64 exP) .none] (.tup [.int .i64 (-1),.int .i64 0])
 (iy 83 [.isl (.ints .i64 exP) .none,.int .i64 2] (.tup [.isl (.ints .i64 [2,0,1,3,4]) .none,.int .i64 0])
 (iy 18 [.isl (.ints .i64 [2,0,1]) .none] (.tup [.str ⟨#[52]⟩,.int .i64 0])
 (iy 19 [.int .i64 4,.str ⟨#[50,51]⟩] (.tup [.isl (.ints .i64 [3,2,1,0]) .none,.int .i64 0])
 (iy 70 [RV] (.tup [.isl (.pv [stV [⟨#[49]⟩,⟨#[45,49,47,50]⟩,⟨#[48]⟩]]) .none,.int .i64 0])
 (iy 93 [RV,stV [⟨#[52]⟩,⟨#[57]⟩]] (.tup [stV [⟨#[49]⟩,⟨#[48]⟩,⟨#[49]⟩],.int .i64 0])
 (iy 33 [ahQ] (.tup [.str ⟨#[45,50]⟩,.int .i64 0])
 (iy 57 [ahT,.int .i64 2] (.tup [.isl (.rows .i64 [[0,1]]) .none,.int .i64 0])
 (iy 95 [ahR,stV [⟨#[49]⟩,⟨#[51]⟩],stV [⟨#[45,50]⟩,⟨#[49]⟩]] (.int .i64 0)
 (iy 77 [.isl (.pv [stV [⟨#[49]⟩,⟨#[45,49,47,50]⟩,⟨#[48]⟩]]) .none,.isl (.pv (Zw.map stF)) .none] (.bp true)
 (aB 61 (aP RY) (aB 51 (aP G9) (aB 106 (aP He) (aB 37 (aP Zt) noC)))))))))))))))))
theorem afg:bD Tryz.prog aki:=bM a1 (bM a2 (bM a3 (bM a4 (bM a5 (bM a6 (bM a7 (bM a8 (bM a9 (bM a10 (bM a11 (bM a12 (bM a13 (bM b1 (au (aC aff) (au (aC Ol) (au (aC Om) (au (aC ahK) aG)))))))))))))))))
theorem RZ:aD Tryz.prog 17 [] (.bp true):=by
 refine ay (md:=1) (rf:=[]) mixed av afg Tryz.func17 qqR qqR qqR ?_
 repeat'((conv=>whnf);first|(intro hq;(try simp only[vw]at hq);try exact ak hq)|apply aI|exact aj|apply nM|apply fM)
 all_goals((try apply vM);(try simp only[vq]at*);try omega)
 all_goals(try rfl)
 all_goals(try decide+kernel)
 all_goals(try(exfalso;exact absurd hq qqV))
 have hb:∀b,b=true→Sup (dX [PV.bp b]) (PV.bp true):=fun b e=>by subst e;exact Sup.of rfl
 all_goals first|exact hb _ qqV
end Go.Eng.YtmkagljofpddpaaGreatDoor
namespace Go.Eng.YtmkagljofpddpaaGreatDoor
open Go.Proofs Go.Eng.Dig Go.Eng.Pm
set_option linter.unusedSimpArgs false
set_option linter.unusedVariables false
set_option maxHeartbeats 0
set_option maxRecDepth 100000
end Go.Eng.YtmkagljofpddpaaGreatDoor
namespace Go.Eng.YtmkagljofpddpaaGreatDoor
open Go.Proofs Go.Eng.Dig Go.Eng.Dec
set_option linter.unusedSimpArgs false
set_option linter.unusedVariables false
set_option maxHeartbeats 0
set_option maxRecDepth 100000
structure QT (t:ByteArray) (x d:Nat):Prop where
 sl:slP t.data.toList=(bX x).size
 sz:t.size=(bX x).size+(if d=1 then 0 else(bX d).size+1)
 hd:t.extract 0 (bX x).size=bX x
 tl:d≠1→t.extract ((bX x).size+1) t.size=bX d
def qk (q:Rat):Bool:=decide ((bX q.num.natAbs).size≤9)&&decide ((bX q.den).size≤9)
end Go.Eng.YtmkagljofpddpaaGreatDoor
namespace Go.Eng.YtmkagljofpddpaaGreatDoor
open Go.Proofs Go.Eng.Dig Go.Eng.Dec Go.Eng.Pm
set_option linter.unusedSimpArgs false
set_option linter.unusedVariables false
set_option maxHeartbeats 0
set_option maxRecDepth 100000
theorem KE {b c:Bool} (h:b=c):Sup (.bp b) (.bool c):=⟨fun hr=>by subst h;cases hr;exact .bool _ _⟩
end Go.Eng.YtmkagljofpddpaaGreatDoor
namespace Go.Eng.YtmkagljofpddpaaGreatDoor
open Go.Proofs Go.Eng.Dig Go.Eng.Pm
set_option linter.unusedSimpArgs false
set_option linter.unusedVariables false
set_option maxHeartbeats 0
set_option maxRecDepth 100000
noncomputable def akj:CPT:=aB 20 (aP Kw) noC
theorem yN:bD Tryz.prog akj:=au (aC Zf) aG
theorem V8 (p:List Int) (n:Int) (hl:p.length≤1000000):aD Tryz.prog 49 [.isl (.ints .i64 p) .none,.int .i64 n] (.bp (decide ((p.length:Int)≤n∧bZ 5 p=0))):=by
 by_cases h:(p.length:Int)≤n
 ·have e:decide ((p.length:Int)≤n∧bZ 5 p=0)=decide (bZ 5 p=0):=by simp[h]
  rw[e];refine ay (md:=1) (rf:=[]) mixed av yN Tryz.func49 qqR qqR qqR ?_;all_goals exact qU
 ·have e:decide ((p.length:Int)≤n∧bZ 5 p=0)=false:=by simp[h]
  rw[e];refine ay (md:=1) (rf:=[]) mixed av yN Tryz.func49 qqR qqR qqR ?_;all_goals exact qU
def Ef (p:List Int) (i:Nat) (s:Int):Nat→Int
 |0=>s
 |k+1=>if p.getD i 0<p.getD k 0 then 0-Ef p i s k else Ef p i s k
def R6 (p:List Int):Nat→Int
 |0=>1
 |i+1=>Ef p i (R6 p i) i
def Zx (p:List Int):Int:=R6 p p.length
def idL (n:Nat):List Int:=(akE n).map fun i:Nat=>(i:Int)
theorem Ox (n:Nat):(idL n).length=n:=by simp[idL]
theorem Zy (n:Nat):idL n++[(n:Int)]=idL (n+1):=by simp[idL,anX]
theorem R7 (n:Nat) (hn:n≤1000000):aD Tryz.prog 91 [.int .i64 n] (.isl (.ints .i64 (idL n)) .none):=by
 refine ay (md:=1) (rf:=[]) mixed av aG Tryz.func91 qqR qqR qqR ?_
 repeat'((conv=>whnf);first|(intro hq;(try simp only[vw]at hq);try exact ak hq)|apply aI|exact aj|apply nM|apply fM)
 all_goals((try apply vM);(try simp only[vq]at*);try omega)
 conv=>whnf
 refine aV (X:=Nat) (fun i=>i≤n) (fun i=>[(4,.int .i64 i),(3,.isl (.ints .i64 (idL i)) (.own 3))]) (fun i=>[(3,.tok 1 i)]) (fun i=>n-i) 0 ⟨aL,mixed,av,aG,aU⟩ qqR qqO ?_ ?_
 ·all_goals exact aW
 intro i hi;have e0:=Ox i;have e1:=Zy i;have e2:=Ox (i+1);by_cases hlt:i<n
 ·repeat'((conv=>whnf);first|(intro hq;(try simp only[vw]at hq);try exact ak hq)|apply aI|exact aj|apply nM|apply fM)
  all_goals((try apply vM);(try simp only[vq]at*);try omega)
  all_goals(try simp only[e1])
  all_goals first
   |omega
   |(refine⟨i+1,[],⟨qqO,qqO⟩,?_⟩
     repeat'((conv=>whnf);first|intro _|apply aI|exact aj|apply nM|apply fM)
     all_goals((try apply vM);(try simp only[vq]at*);try omega)
     all_goals first|rfl|exact e1)
 ·have:i=n:=qqO
  subst this;all_goals exact iq
end Go.Eng.YtmkagljofpddpaaGreatDoor
namespace Go.Eng.YtmkagljofpddpaaGreatDoor
open Go.Eng.Pm
set_option linter.unusedSimpArgs false
set_option linter.unusedVariables false
def ivR (f:Nat→Int) (a:Int):Nat→Int
 |0=>1
 |k+1=>if a<f k then 0-ivR f a k else ivR f a k
def ivS (f:Nat→Int):Nat→Int
 |0=>1
 |i+1=>ivS f i*ivR f (f i) i
theorem V9 (f:Nat→Int) (a:Int):∀k,ivR f a k=1∨ivR f a k= -1:=by
 intro k;induction k with
 |zero=>exact .inl rfl
 |succ k ih=>rw[ivR];split<;>rcases ih with h|h<;>rw[h]<;>simp
theorem ahU (f:Nat→Int):∀k,ivS f k=1∨ivS f k= -1:=by
 intro k;induction k with
 |zero=>exact .inl rfl
 |succ k ih=>rw[ivS];rcases ih with h|h<;>rcases V9 f (f k) k with g|g<;>rw[h,g]<;>simp
theorem Wd (f:Nat→Int) (k:Nat):ivS f k*ivS f k=1:=by rcases ahU f k with h|h<;>rw[h]<;>rfl
theorem afh (p:List Int) (i:Nat) (s:Int):∀k,Ef p i s k=s*ivR (fun k=>p.getD k 0) (p.getD i 0) k:=by
 intro k;induction k with
 |zero=>simp[Ef,ivR]
 |succ k ih=>
  rw[Ef,ivR,ih];split
  ·grind
  ·rfl
theorem yO (p:List Int):∀i,R6 p i=ivS (fun k=>p.getD k 0) i:=by
 intro i;induction i with
 |zero=>rfl
 |succ i ih=>rw[R6,ivS,afh,ih]
theorem xD {f g:Nat→Int} (a:Int):∀k,(∀i,i<k→f i=g i)→ivR f a k=ivR g a k:=by
 intro k;induction k with
 |zero=>intro _;rfl
 |succ k ih=>
  intro h;rw[ivR,ivR,ih (fun i hi=>h i qqO),h k qqO]
theorem rz {f g:Nat→Int}:∀k,(∀i,i<k→f i=g i)→ivS f k=ivS g k:=by
 intro k;induction k with
 |zero=>intro _;rfl
 |succ k ih=>
  intro h;rw[ivS,ivS,ih (fun i hi=>h i qqO),h k qqO,xD _ k (fun i hi=>h i qqO)]
theorem Eh {f:Nat→Int} {a:Int}:∀k,(∀i,i<k→f i<a)→ivR f a k=1:=by
 intro k;induction k with
 |zero=>intro _;rfl
 |succ k ih=>
  intro h;have:=h k qqO;rw[ivR,ih (fun i hi=>h i qqO),if_neg qqO]
theorem afi {f g:Nat→Int} {n j:Nat} (hj:j<n) (hg:∀k,k<n→g k=if k=j then f n else f k) (hd:∀k,k<n→f k≠f n) (hm:∀k,k≤n→k≠j→f k<f j):ivS f (n+1)= -ivS g n:=by
 have low:∀i,i≤j→ivS f i=ivS g i:=fun i hi=>rz i fun k hk=>by rw[hg k qqO,if_neg qqO]
 have key:∀i,j<i→i≤n→ivR f (f n) i= -(ivS f i*ivS g i):=by
  intro i;induction i with
  |zero=>intro h;omega
  |succ i ih=>
   intro h1 h2;by_cases e:i=j
   ·subst e
    have t1:ivR f (f i) i=1:=Eh i fun k hk=>hm k qqO qqO;have t2:g i=f n:=by rw[hg i qqO,if_pos rfl]
    have t3:ivR g (g i) i=ivR f (f n) i:=by rw[t2];exact xD _ i fun k hk=>by rw[hg k qqO,if_neg qqO]
    have t4:=hm n (aku n) qqO;have t5:=Wd f i;rw[ivR,if_pos t4,ivS,ivS,t1,t3,←low i (aku i)]
    grind
   ·have h3:=ih qqO qqO
    have a1:g i=f i:=by rw[hg i qqO,if_neg e]
    have a2:=hd i qqO;have a3:=hm i qqO e;have a5:∀k,j<k→k≤i→ivR f (f i) k*ivR g (f i) k=if f n>f i then 1 else-1:=by
     intro k;induction k with
     |zero=>intro h;omega
     |succ k ihk=>
      intro g1 g2;by_cases ek:k=j
      ·subst ek
       have c1:g k=f n:=by rw[hg k qqO,if_pos rfl]
       have c2:ivR g (f i) k=ivR f (f i) k:=xD _ k fun m hm'=>by rw[hg m qqO,if_neg qqO]
       have c3:ivR f (f i) k*ivR f (f i) k=1:=by rcases V9 f (f i) k with h|h<;>rw[h]<;>rfl
       rw[ivR,ivR,if_pos a3,c1,c2];split
       ·grind
       ·grind
      ·have c1:g k=f k:=by rw[hg k qqO,if_neg ek]
       have c2:=ihk qqO qqO;rw[ivR,ivR,c1,←c2];split
       ·grind
       ·rfl
    have a6:=a5 i qqO (aku i);rw[ivR,h3,ivS,ivS,a1];split
    ·rw[if_neg qqO]at a6;grind
    ·rw[if_pos qqO]at a6;grind
 have h1:=key n hj (aku n);have h2:=Wd f n;rw[ivS,h1]
 grind
theorem Ei {p:List Int} (h:OK p) {x:Nat} (hx:x<p.length):per p x=((akE p.length).filter (inB p x)).length:=by
 have e:(akE (per p x)).map (fun k=>it p k x)=(akE (per p x)).map (fun k=>it p k x):=rfl;have n1:((akE (per p x)).map fun k=>it p k x).Nodup:=by
  refine(List.nodup_iff_pairwise_ne.2 ?_);rw[List.pairwise_map];refine List.Pairwise.imp_of_mem (R:=fun a b=>a<b) (fun{a b'} ha hb hlt e=>?_) List.pairwise_lt_range;have:=FN h hx (amn.1 ha) (amn.1 hb) e;omega
 have n2:((akE p.length).filter (inB p x)).Nodup:=List.nodup_range.filter _;have hp:List.Perm ((akE (per p x)).map fun k=>it p k x) ((akE p.length).filter (inB p x)):=by
  refine(List.perm_ext_iff_of_nodup n1 n2).2 fun y=>?_;rw[aoL,aoS,amn];constructor
  ·rintro⟨k,hk,rfl⟩
   exact⟨jQ h hx k,(gH h hx).2 ⟨k,rfl⟩⟩
  ·rintro⟨h1,h2⟩
   obtain⟨k,hk,e⟩:=BU h hx ((gH h hx).1 h2);exact⟨k,amn.2 hk,e⟩
 have:=hp.length_eq;rw[aoE,List.length_range]at this;exact this
def fB (p:List Int) (n:Nat):List Int:=(akE n).map fun k=>if p.getD k 0=n then p.getD n 0 else p.getD k 0
theorem iO (p:List Int) (n:Nat):(fB p n).length=n:=by simp[fB]
theorem ny (p:List Int) {n k:Nat} (h:k<n):(fB p n).getD k 0=if p.getD k 0=n then p.getD n 0 else p.getD k 0:=by
 simp[fB,akG,h]
theorem qB {p:List Int} (h:OK p) {n:Nat} (hn:p.length=n+1):OK (fB p n):=by
 have hr:=fun i (hi:i<n+1)=>h.rng i qqO;have hi:=fun i j (a:i<n+1) (b:j<n+1) e=>h.inj i j qqO qqO e;constructor
 ·intro i hi'
  rw[iO]at hi'⊢;rw[ny p hi'];have h1:=hr i qqO;have h2:=hr n qqO;rw[hn]at h1 h2;split
  ·rename_i e
   have:p.getD n 0≠n:=fun g=>by have:=hi i n qqO qqO (e.trans g.symm);omega
   omega
  ·omega
 ·intro i j a b e
  rw[iO]at a b;rw[ny p a,ny p b]at e;split at e
  ·rename_i e1
   split at e
   ·rename_i e2;exact hi i j qqO qqO (e1.trans e2.symm)
   ·have:=hi n j qqO qqO e;omega
  ·split at e
   ·have:=hi i n qqO qqO e;omega
   ·exact hi i j qqO qqO e
theorem zZ {p:List Int} {n x:Nat} (h:OK p) (hn:p.length=n+1) (hx:x<n):ap (fB p n) x=if ap p x=n then ap p n else ap p x:=by
 have h1:=o8 h (x:=x) qqO;unfold ap at h1⊢;rw[ny p hx];by_cases e:p.getD x 0=n
 ·rw[if_pos e,if_pos qqO]
 ·rw[if_neg e,if_neg qqO]
theorem xE {p:List Int} {n x y:Nat} (h:OK p) (hn:p.length=n+1) (hx:x<n) (hy:y<n):Go.Eng.Pm.inC (fB p n) x y↔Go.Eng.Pm.inC p x y:=by
 have hq:=qB h hn;have hlt:=fun k=>jQ hq (x:=x) (by rw[iO];exact hx) k
 rw[iO]at hlt;constructor
 ·rintro⟨k,rfl⟩
  clear hy;induction k with
  |zero=>exact .refl p x
  |succ k ih=>
   obtain⟨m,hm⟩:=ih;show Go.Eng.Pm.inC p x (ap (fB p n) (it (fB p n) k x));rw[zZ h hn (hlt k)];split
   ·rename_i e
    exact⟨m+1+1,by show ap p (ap p (it p m x))=_;rw[hm,e]⟩
   ·exact⟨m+1,by show ap p (it p m x)=_;rw[hm]⟩
 ·rintro⟨k,rfl⟩
  have key:∀k,it p k x<n→Go.Eng.Pm.inC (fB p n) x (it p k x):=by
   intro k;induction k using anP with
   |_ k ih=>
    intro hk;cases k with
    |zero=>exact .refl _ x
    |succ k=>
     by_cases hz:it p k x<n
     ·obtain⟨m,hm⟩:=ih k qqO hz
      refine⟨m+1,?_⟩;show ap (fB p n) (it (fB p n) m x)=ap p (it p k x);rw[hm,zZ h hn hz,if_neg (by have:ap p (it p k x)<n:=hk;omega)]
     ·have hzn:it p k x=n:=by have:=jQ h (x:=x) qqO k;omega
      cases k with
      |zero=>have:x=n:=hzn;omega
      |succ k=>
       have hw:it p k x<n:=by
        refine Decidable.byContradiction fun hw=>?_;have hwn:it p k x=n:=by have:=jQ h (x:=x) qqO k;omega
        have e1:ap p n=n:=by
         have e0:ap p (it p k x)=n:=hzn;rw[hwn]at e0;exact e0
        have e2:it p (k+1+1) x=n:=by show ap p (it p (k+1) x)=n;rw[hzn];exact e1
        omega
       obtain⟨m,hm⟩:=ih k qqO hw;refine⟨m+1,?_⟩;show ap (fB p n) (it (fB p n) m x)=ap p (it p (k+1) x);rw[hm,zZ h hn hw,if_pos (show ap p (it p k x)=n from hzn),hzn]
  exact key k hy
theorem Wh {p:List Int} {n x y:Nat} (h:OK p) (hn:p.length=n+1) (hx:x<n) (hy:y<n):inB (fB p n) x y=inB p x y:=by
 rw[aon,gH (qB h hn) (by rw[iO];exact hx),gH h qqO]
 exact xE h hn hx hy
theorem z8 {p:List Int} {n x:Nat} (h:OK p) (hn:p.length=n+1) (hx:x<n):hd (fB p n) x=hd p x:=by
 rw[aon,nX (qB h hn) (by rw[iO];omega),nX h qqO]
 exact forall_congr' fun j=>⟨fun g hj c=>g hj ((xE h hn qqO hx).2 c),fun g hj c=>g hj ((xE h hn qqO hx).1 c)⟩
theorem xG {p:List Int} {n x:Nat} (h:OK p) (hn:p.length=n+1) (hx:x<n):per p x=per (fB p n) x+(if inB p x n=true then 1 else 0):=by
 rw[Ei h qqO,Ei (qB h hn) (by rw[iO];exact hx),iO,hn,anX,List.filter_append,alQ]
 congr 1
 ·exact congrArg amu (aoX fun y hy=>(Wh h hn hx (amn.1 hy)).symm)
 ·simp only[aoY,List.filter_nil]
  split<;>rfl
def csF (p:List Int) (x:Nat):Int:=if hd p x=true then(if per p x % 2=0 then-1 else 1)else 1
def csS (p:List Int):Nat→Int
 |0=>1
 |i+1=>csS p i*csF p i
theorem Oy (l:List (List Int)) (c:List Int):sgT (l++[c])=if c.length % 2=0 then 0-sgT l else sgT l:=by
 unfold sgT;rw[List.foldl_append];rfl
theorem ahV (p:List Int):∀i,sgT (gG p i)=csS p i:=by
 intro i;induction i with
 |zero=>rfl
 |succ i ih=>
  rw[nY,csS,csF];cases hh:hd p i
  ·rw[if_neg qqS,if_neg qqS,aoZ,ih]
   grind
  ·rw[if_pos rfl,if_pos rfl,Oy,kF,ih]
   split<;>grind
theorem FV {p q:List Int}:∀i,(∀x,x<i→csF p x=csF q x)→csS p i=csS q i:=by
 intro i;induction i with
 |zero=>intro _;rfl
 |succ i ih=>intro h;rw[csS,csS,ih (fun x hx=>h x qqO),h i qqO]
theorem Zz {p q:List Int} {y:Nat} (hy:csF p y= -csF q y):∀i,y<i→(∀x,x<i→x≠y→csF p x=csF q x)→csS p i= -csS q i:=by
 intro i;induction i with
 |zero=>intro h;omega
 |succ i ih=>
  intro h1 h2;rw[csS,csS];by_cases e:i=y
  ·subst e
   rw[hy,FV i fun x hx=>h2 x qqO qqO]
   grind
  ·rw[ih qqO fun x hx=>h2 x qqO,h2 i qqO e]
   grind
theorem Wi:∀(n:Nat) (p:List Int),p.length=n→OK p→csS p n=ivS (fun k=>p.getD k 0) n:=by
 intro n;induction n with
 |zero=>intro p _ _;rfl
 |succ n ih=>
  intro p hn h;have hq:=qB h hn;have hi:=ih (fB p n) (iO p n) hq;have hr:=fun i (hi:i<n+1)=>h.rng i qqO;rw[hn]at hr;by_cases hpn:p.getD n 0=n
  ·have hno:∀k,k<n→p.getD k 0≠n:=fun k hk e=>by have:=h.inj k n qqO qqO (e.trans hpn.symm);omega
   have hfix:∀k,it p k n=n:=by
    intro k;induction k with
    |zero=>rfl
    |succ k ihk=>show ap p (it p k n)=n;rw[ihk];unfold ap;omega
   have hnb:∀x,x<n→inB p x n=false:=fun x hx=>by
    rw[aoP];intro hb;obtain⟨k,hk⟩:=((gH h qqO).1 hb).symm h qqO;rw[hfix]at hk;omega
   have hhd:hd p n=true:=(nX h qqO).2 fun j hj c=>by
    have:=(gH h (x:=j) qqO).2 c;rw[hnb j hj]at this;cases this
   have hpr:per p n=1:=by
    obtain⟨g1,g2,g3,g4⟩:=eB h (x:=n) qqO;refine Decidable.byContradiction fun hne=>g4 1 (aku 1) qqO (hfix 1)
   have hcf:csF p n=1:=by unfold csF;rw[if_pos hhd,hpr];rfl
   rw[csS,hcf,ivS,Eh n fun k hk=>by rw[hpn];have:=hr k qqO;have:=hno k hk;omega]
   rw[ao0,ao0,FV (q:=fB p n) n fun x hx=>by
    unfold csF;rw[z8 h hn hx,xG h hn hx,hnb x hx];rfl,hi]
   exact rz n fun k hk=>by
    show(fB p n).getD k 0=p.getD k 0;rw[ny p hk,if_neg (hno k hk)]
  ·obtain⟨j,hj,hjn⟩:=NS h (y:=n) qqO
   have hjc:=o8 h hj;rw[hjn]at hjc;have hjlt:j<n:=by
    refine Decidable.byContradiction fun g=>hpn ?_;have:j=n:=qqO;rw[←this];omega
   have hu:∀k,k<n→p.getD k 0=n→k=j:=fun k hk e=>h.inj k j qqO hj qqO;have hiv:ivS (fun k=>p.getD k 0) (n+1)= -ivS (fun k=>(fB p n).getD k 0) n:=by
    refine afi hjlt (fun k hk=>?_) (fun k hk e=>?_) (fun k hk hne=>?_)
    ·show(fB p n).getD k 0=if k=j then p.getD n 0 else p.getD k 0
     rw[ny p hk];by_cases e:k=j
     ·rw[if_pos e,if_pos (by rw[e];omega)]
     ·rw[if_neg e,if_neg (fun g=>e (hu k hk g))]
    ·have:=h.inj k n qqO qqO e;omega
    ·have h1:=hr k qqO
     have h2:p.getD k 0≠n:=fun g=>hne (h.inj k j qqO hj qqO);show p.getD k 0<p.getD j 0;omega
   have hmn:ap p n<n:=by
    have h1:=G5 h (x:=n) qqO;have h2:=o8 h (x:=n) qqO;omega
   have hhn:hd p n=false:=by
    rw[aoP];intro g;exact(nX h qqO).1 g _ hmn (Go.Eng.Pm.inC.symm h qqO ⟨1,rfl⟩)
   obtain⟨y,hy1,hy2,hy3⟩:=least h n qqO;have hyn:y<n:=by
    refine Decidable.byContradiction fun g=>?_;have:y=n:=qqO;rw[this,hhn]at hy2;cases hy2
   have hcf:csF p n=1:=by unfold csF;rw[hhn];rfl
   have hyc:csF p y= -csF (fB p n) y:=by
    unfold csF;rw[z8 h hn hyn,xG h hn hyn,(gH h qqO).2 hy3,hy2];simp only[if_true];by_cases e:per (fB p n) y % 2=0
    ·rw[if_neg qqO,if_pos e];rfl
    ·rw[if_pos qqO,if_neg e]
   have hoth:∀x,x<n→x≠y→csF p x=csF (fB p n) x:=fun x hx hne=>by
    unfold csF;rw[z8 h hn hx,xG h hn hx];cases hh:hd p x
    ·rfl
    ·have:inB p x n=false:=by
      rw[aoP];intro hb;have c:=(gH h qqO).1 hb;have c2:Go.Eng.Pm.inC p x y:=c.trans (hy3.symm h qqO);have c3:Go.Eng.Pm.inC p y x:=c2.symm h qqO;rcases Nat.lt_or_gt_of_ne hne with g|g
      ·exact(nX h qqO).1 hy2 x g c2
      ·exact(nX h qqO).1 hh y g c3
     rw[this];rfl
   rw[csS,hcf,hiv,←hi,ao0];exact Zz hyc n hyn hoth
theorem Ej {p:List Int} (h:OK p):sgT (cys p)=Zx p:=by
 unfold cys Zx;rw[ahV,Wi p.length p rfl h,yO]
end Go.Eng.YtmkagljofpddpaaGreatDoor
namespace Go.Eng.YtmkagljofpddpaaGreatDoor
open Go.Proofs Go.Eng.Dig Go.Eng.Pm
set_option linter.unusedSimpArgs false
set_option linter.unusedVariables false
set_option maxHeartbeats 0
set_option maxRecDepth 100000
end Go.Eng.YtmkagljofpddpaaGreatDoor
namespace Go.Eng.YtmkagljofpddpaaGreatDoor
open Go.Proofs Go.Eng.Pm
set_option linter.unusedSimpArgs false
set_option linter.unusedVariables false
set_option maxHeartbeats 0
set_option maxRecDepth 100000
end Go.Eng.YtmkagljofpddpaaGreatDoor
namespace Go.Eng.YtmkagljofpddpaaGreatDoor
open Go.Proofs Go.Eng.Dig Go.Eng.Dec Go.Eng.Pm
set_option linter.unusedSimpArgs false
set_option linter.unusedVariables false
set_option maxHeartbeats 0
set_option maxRecDepth 100000
theorem KF:aD Tryz.prog 17 [] (.bool true):=jc RZ (KE rfl)
end Go.Eng.YtmkagljofpddpaaGreatDoor
namespace Go.Eng.YtmkagljofpddpaaGreatDoor
open Go.Eng.Pm
set_option linter.unusedSimpArgs false
set_option linter.unusedVariables false
def nbS (f:Nat→Int) (i:Nat):Nat→Int:=fun k=>if k=i then f (i+1)else if k=i+1 then f i else f k
def ctR (f:Nat→Int) (a:Int):Nat→Nat
 |0=>0
 |k+1=>ctR f a k+(if a<f k then 1 else 0)
def ctS (f:Nat→Int):Nat→Nat
 |0=>0
 |i+1=>ctS f i+ctR f (f i) i
theorem rA {f g:Nat→Int} (a:Int):∀k,(∀i,i<k→f i=g i)→ctR f a k=ctR g a k:=by
 intro k;induction k with
 |zero=>intro _;rfl
 |succ k ih=>
  intro h;rw[ctR,ctR,ih (fun i hi=>h i qqO),h k qqO]
theorem Wj {f g:Nat→Int}:∀k,(∀i,i<k→f i=g i)→ctS f k=ctS g k:=by
 intro k;induction k with
 |zero=>intro _;rfl
 |succ k ih=>
  intro h;rw[ctS,ctS,ih (fun i hi=>h i qqO),h k qqO,rA _ k (fun i hi=>h i qqO)]
theorem Co (f:Nat→Int) {i k:Nat} (h:k<i):nbS f i k=f k:=by unfold nbS;rw[if_neg qqO,if_neg qqO]
theorem Wm (f:Nat→Int) {i k:Nat} (h:i+1<k):nbS f i k=f k:=by unfold nbS;rw[if_neg qqO,if_neg qqO]
theorem Hl (f:Nat→Int) (i:Nat):nbS f i i=f (i+1):=by unfold nbS;rw[if_pos rfl]
theorem R8 (f:Nat→Int) (i:Nat):nbS f i (i+1)=f i:=by unfold nbS;rw[if_neg qqO,if_pos rfl]
theorem ahW (f:Nat→Int) (i:Nat) (a:Int):∀k,i+2≤k→ctR (nbS f i) a k=ctR f a k:=by
 intro k;induction k with
 |zero=>intro h;omega
 |succ k ih=>
  intro h;by_cases e:k=i+1
  ·subst e
   rw[ctR,ctR,ctR,ctR,Hl,R8,rA (g:=f) a i fun m hm=>Co f hm];omega
  ·rw[ctR,ctR,ih qqO,Wm f qqO]
theorem KG {f:Nat→Int} {i:Nat} (h:f (i+1)<f i):∀n,i+2≤n→ctS f n=ctS (nbS f i) n+1:=by
 intro n;induction n with
 |zero=>intro h;omega
 |succ n ih=>
  intro hn;by_cases e:n=i+1
  ·subst e
   rw[ctS,ctS,ctS,ctS,Hl,R8,Wj (g:=f) i fun m hm=>Co f hm,rA (g:=f) _ i fun m hm=>Co f hm,ctR,ctR,Hl,rA (g:=f) _ i fun m hm=>Co f hm,if_pos h,if_neg qqO];omega
  ·rw[ctS,ctS,ih qqO,Wm f qqO,ahW f i _ n qqO]
   omega
theorem ahX (f:Nat→Int) (a:Int):∀k,ivR f a k=if ctR f a k % 2=0 then 1 else-1:=by
 intro k;induction k with
 |zero=>rfl
 |succ k ih=>
  rw[ivR,ctR,ih];by_cases h:a<f k
  ·rw[if_pos h,if_pos h]
   by_cases g:ctR f a k % 2=0
   ·rw[if_pos g,if_neg qqO];rfl
   ·rw[if_neg g,if_pos qqO];rfl
  ·rw[if_neg h,if_neg h,akn]
theorem Wn (f:Nat→Int):∀k,ivS f k=if ctS f k % 2=0 then 1 else-1:=by
 intro k;induction k with
 |zero=>rfl
 |succ k ih=>
  rw[ivS,ctS,ih,ahX];by_cases h:ctS f k % 2=0
  ·rw[if_pos h]
   by_cases g:ctR f (f k) k % 2=0
   ·rw[if_pos g,if_pos qqO];rfl
   ·rw[if_neg g,if_neg qqO];rfl
  ·rw[if_neg h]
   by_cases g:ctR f (f k) k % 2=0
   ·rw[if_pos g,if_neg qqO];rfl
   ·rw[if_neg g,if_pos qqO];rfl
theorem ahY (f:Nat→Int) (i:Nat):nbS (nbS f i) i=f:=by
 funext k
 unfold nbS;by_cases h:k=i
 ·subst h;rw[if_pos rfl,if_neg qqO,if_pos rfl]
 ·rw[if_neg h]
  by_cases g:k=i+1
  ·subst g;rw[if_pos rfl,if_pos rfl]
  ·rw[if_neg g,if_neg h,if_neg g]
theorem Wo {f:Nat→Int} {i n:Nat} (hne:f (i+1)≠f i) (hn:i+2≤n):ivS (nbS f i) n= -ivS f n:=by
 rw[Wn,Wn];by_cases h:f (i+1)<f i
 ·have:=KG h n hn
  by_cases g:ctS f n % 2=0
  ·rw[if_pos g,if_neg qqO]
  ·rw[if_neg g,if_pos qqO];rfl
 ·have h2:nbS f i (i+1)<nbS f i i:=by rw[Hl,R8];omega
  have:=KG h2 n hn;rw[ahY]at this;by_cases g:ctS f n % 2=0
  ·rw[if_pos g,if_neg qqO]
  ·rw[if_neg g,if_pos qqO];rfl
structure PF (n:Nat) (f:Nat→Int):Prop where
 rng:∀i,i<n→0≤f i∧f i<n
 inj:∀i j,i<n→j<n→f i=f j→i=j
theorem PF.nb {n:Nat} {f:Nat→Int} (h:PF n f) {i:Nat} (hi:i+2≤n):PF n (nbS f i):=by
 have key:∀k,k<n→∃m,m<n∧nbS f i k=f m∧(m=if k=i then i+1 else if k=i+1 then i else k):=fun k hk=>by
  refine⟨if k=i then i+1 else if k=i+1 then i else k,?_,?_,rfl⟩
  ·(repeat' split)<;>omega
  ·unfold nbS;(repeat' split)<;>rfl
 constructor
 ·intro k hk
  obtain⟨m,hm,e,_⟩:=key k hk;rw[e];exact h.rng m hm
 ·intro a b ha hb e
  obtain⟨m,hm,e1,e2⟩:=key a ha;obtain⟨m',hm',e1',e2'⟩:=key b hb;rw[e1,e1']at e;have:=h.inj m m' hm hm' e;subst e2 e2'
  (repeat' split at this)<;>omega
theorem Wp {n:Nat} {f:Nat→Int} (h:PF n f) (hs:∀i,i+2≤n→¬f (i+1)<f i):∀i,i<n→f i=i:=by
 have up:∀i,i+2≤n→f i<f (i+1):=fun i hi=>by
  have h1:=hs i hi;have h2:f i≠f (i+1):=fun e=>by have:=h.inj i (i+1) qqO qqO e;omega
  omega
 have lo:∀i,i<n→(i:Int)≤f i:=by
  intro i;induction i with
  |zero=>intro hi;exact(h.rng 0 hi).1
  |succ i ih=>intro hi;have h1:=ih qqO;have h2:=up i qqO;omega
 have hi':∀d i,i+d+1=n→f i≤(i:Int):=by
  intro d;induction d with
  |zero=>intro i e;have:=(h.rng i qqO).2;omega
  |succ d ih=>intro i e;have h1:=ih (i+1) qqO;have h2:=up i qqO;omega
 intro i hi;have h1:=lo i hi;have h2:=hi' (n-1-i) i qqO;omega
theorem sign_mul {n:Nat} {p:Nat→Int} (hp:PF n p):∀c (q:Nat→Int),PF n q→ctS q n=c→ivS (fun k=>p (q k).toNat) n=ivS p n*ivS q n:=by
 intro c;induction c using anP with
 |_ c ih=>
  intro q hq hc;by_cases hd:∃i,i+2≤n∧q (i+1)<q i
  ·obtain⟨i,hi,hlt⟩:=hd
   have h1:=KG hlt n hi;have h2:=ih (ctS (nbS q i) n) qqO (nbS q i) (hq.nb hi) rfl;have h3:ivS (nbS q i) n= -ivS q n:=Wo qqO hi;have h4:(fun k=>p (nbS q i k).toNat)=nbS (fun k=>p (q k).toNat) i:=by
    funext k
    unfold nbS
    (repeat' split)<;>rfl
   have h5:ivS (nbS (fun k=>p (q k).toNat) i) n= -ivS (fun k=>p (q k).toNat) n:=by
    refine Wo (fun e=>?_) hi;have r1:=hq.rng i qqO;have r2:=hq.rng (i+1) qqO;have:=hp.inj _ _ qqO qqO e;omega
   rw[h4,h5,h3]at h2
   grind
  ·have hs:=Wp hq fun i hi h=>hd ⟨i,hi,h⟩
   have e1:ivS (fun k=>p (q k).toNat) n=ivS p n:=rz n fun k hk=>by
    show p (q k).toNat=p k;rw[hs k hk];rfl
   have e2:ivS q n=1:=by
    have:∀k,k≤n→ivS q k=1:=by
     intro k;induction k with
     |zero=>intro _;rfl
     |succ k ihk=>intro hk;rw[ivS,ihk qqO,Eh k fun m hm=>by rw[hs m qqO,hs k qqO];omega];rfl
    exact this n (aku n)
   rw[e1,e2,ao0]
theorem PF.of {p:List Int} (h:OK p):PF p.length fun k=>p.getD k 0:=⟨h.rng,h.inj⟩
theorem afj {p q r:List Int} (hp:OK p) (hq:OK q) (hr:OK r) (h1:q.length=p.length) (h2:r.length=p.length) (hc:∀k,k<p.length→r.getD k 0=p.getD (q.getD k 0).toNat 0):sgT (cys r)=sgT (cys p)*sgT (cys q):=by
 rw[Ej hr,Ej hp,Ej hq];unfold Zx;rw[yO,yO,yO,h1,h2];have hq':=PF.of hq;rw[h1]at hq';rw[←sign_mul (PF.of hp) _ _ hq' rfl];exact rz _ fun k hk=>hc k hk
theorem iG (p:List Int) (k:Int):(pwL p k).length=p.length:=by simp[pwL]
theorem qC {p:List Int} (k:Int) {x:Nat} (h:x<p.length):(pwL p k).getD x 0=((pw p k x:Nat):Int):=by simp[pwL,akG,h]
theorem abA {p:List Int} (h:OK p) (k:Int) {x:Nat} (hx:x<p.length):pw p k x<p.length:=jQ h hx _
theorem Wq {p:List Int} (h:OK p) (k:Int):OK (pwL p k):=by
 constructor
 ·intro i hi
  rw[iG]at hi⊢;rw[qC k hi];have:=abA h k hi;omega
 ·intro i j hi hj e
  rw[iG]at hi hj;rw[qC k hi,qC k hj]at e;have e:it p (k % (per p i:Nat)).toNat i=it p (k % (per p j:Nat)).toNat j:=by unfold pw at e;omega
  have hpi:=su h hi (k % (per p i:Nat)).toNat;have hpj:=su h hj (k % (per p j:Nat)).toNat;rw[e,hpj]at hpi;rw[hpi]at e;exact Pm.qx h hi hj _ e
theorem aiO {p:List Int} (h:OK p) (j k:Int) {x:Nat} (hx:x<p.length):pw p j (pw p k x)=pw p (j+k) x:=by
 have hP:=(eB h hx).1;unfold pw;rw[su h hx,←jW,←JY h hx ((j % (per p x:Nat)).toNat+(k % (per p x:Nat)).toNat)];congr 1;generalize per p x=P at*
 have h1:=aoi j (show((P:Nat):Int)≠0 by omega)
 have h2:=aoi k (show((P:Nat):Int)≠0 by omega)
 have h3:=aoi (j+k) (show((P:Nat):Int)≠0 by omega)
 have e:((((j % (P:Nat)).toNat+(k % (P:Nat)).toNat) % P:Nat):Int)=(j+k) % (P:Nat):=by
  rw[amR,anc,ao1 h1,ao1 h2,←Int.add_emod]
 omega
theorem KH {a b:List Int} (h:a.length=b.length) (he:∀x,x<a.length→a.getD x 0=b.getD x 0):a=b:=by
 refine List.ext_getElem h fun j h1 h2=>?_;have:=he j h1;rw[akG,akG,akL h1,akL h2]at this;exact this
theorem o9 {p q:List Int} {x:Nat} (h:x<q.length):(cmpL p q).getD x 0=p.getD (q.getD x 0).toNat 0:=by simp[cmpL,akG,h]
theorem ahZ {p:List Int} (h:OK p) (j k:Int):cmpL (pwL p j) (pwL p k)=pwL p (j+k):=by
 refine KH (by rw[jD,iG,iG]) fun x hx=>?_
 rw[jD,iG]at hx;rw[o9 (by rw[iG];exact hx),qC k hx,qC _ hx,amI,qC j (abA h k hx),aiO h j k hx]
theorem Ws {p q:List Int} (hp:OK p) (hq:OK q) (hl:q.length=p.length):OK (cmpL p q):=by
 have hr:=fun i (hi:i<q.length)=>hq.rng i hi;constructor
 ·intro i hi
  rw[jD]at hi⊢;rw[o9 hi];have h1:=hr i hi;have h2:=hp.rng (q.getD i 0).toNat qqO;omega
 ·intro i j hi hj e
  rw[jD]at hi hj;rw[o9 hi,o9 hj]at e;have h1:=hr i hi;have h2:=hr j hj;have:=hp.inj _ _ qqO qqO e;exact hq.inj i j hi hj qqO
theorem afk {p q:List Int} (hp:OK p) (hq:OK q) (hl:q.length=p.length):sgT (cys (cmpL p q))=sgT (cys p)*sgT (cys q):=
 afj hp hq (Ws hp hq hl) hl (by rw[jD,hl]) fun k hk=>o9 qqO
theorem ZA {p:List Int} (h:OK p) {k:Nat} (hk:∀x,x<p.length→per p x∣k) {x:Nat} (hx:x<p.length):pw p k x=x:=by
 have hd:=hk x hx;unfold pw;have:((k:Int) % (per p x:Nat))=0:=by
  obtain⟨m,rfl⟩:=hd;rw[anb];exact Int.mul_emod_right _ _
 rw[this];rfl
theorem afl {p:List Int} (h:OK p):∀i,i≤p.length→∀x,x<i→(uP p i).getD (ap p x) 0=x:=by
 intro i;induction i with
 |zero=>intro _ x hx;omega
 |succ i ih=>
  intro hi x hx;show((uP p i).set (ap p i) (i:Int)).getD (ap p x) 0=x;rw[akG,List.getElem?_set];have hl:=uQ p i;have hap:=G5 h (x:=i) qqO;by_cases e:x=i
  ·subst e
   rw[if_pos rfl,if_pos qqO];rfl
  ·rw[if_neg (fun g=>e (JX h qqO qqO g.symm)),←akG]
   exact ih qqO x qqO
theorem ah0 {p:List Int} (h:OK p):uP p p.length=pwL p (-1):=by
 refine KH (by rw[uQ,iG]) fun y hy=>?_
 rw[uQ]at hy;obtain⟨x,hx,rfl⟩:=NS h hy;rw[afl h _ (aku _) x hx,qC _ hy];have hP:=eB h hx;have e1:per p (ap p x)=per p x:=su h hx 1;have e2:((-1:Int) % (per p x:Nat)).toNat=per p x-1:=by
  obtain⟨m,hm⟩:∃m:Nat,per p x=m+1:=⟨per p x-1,qqO⟩;rw[hm];by_cases h0:m=0
  ·subst h0;rfl
  ·have:(-1:Int) % ((m+1:Nat):Int)=m:=by
    rw[←Int.add_emod_right (-1) ((m+1:Nat):Int),Int.emod_eq_of_lt qqO qqO];omega
   omega
 unfold pw;rw[e1,e2];have e3:it p (per p x-1) (ap p x)=it p (per p x-1) (it p 1 x):=rfl;rw[e3,←jW,Nat.sub_add_cancel hP.1,hP.2.2.1]
theorem filter_or {α:Type} (l:List α) (a b:α→Bool) (h:∀x,x∈l→¬(a x=true∧b x=true)):(l.filter fun x=>a x||b x).length=(l.filter a).length+(l.filter b).length:=by
 induction l with
 |nil=>rfl
 |cons x l ih=>
  have h1:=ih fun y hy=>h y (by simp[hy])
  have h2:=h x qqS;simp only[aoY];cases ha:a x<;>cases hb:b x
  ·simpa [ha,hb]using h1
  ·simp[ha,hb,h1];omega
  ·simp[ha,hb,h1];omega
  ·exact absurd ⟨ha,hb⟩ h2
def jE (L:List (List Int)):Nat:=(L.map amu).sum
theorem Aa (L M:List (List Int)):jE (L++M)=jE L+jE M:=by simp[jE]
theorem afm {p:List Int} (h:OK p):∀i,i≤p.length→jE (gG p i)=((akE p.length).filter fun y=>(akE i).any fun j=>inB p j y).length:=by
 intro i;induction i with
 |zero=>
  intro _;have:((akE p.length).filter fun y=>(akE 0).any fun j=>inB p j y)=[]:=List.filter_eq_nil_iff.2 fun y _=>qqS;rw[this];rfl
 |succ i ih=>
  intro hi;have e:∀y,((akE (i+1)).any fun j=>inB p j y)=(((akE i).any fun j=>inB p j y)||inB p i y):=fun y=>by
   rw[anX,List.any_append];simp
  rw[nY,Aa,ih qqO];have e2:((akE p.length).filter fun y=>(akE (i+1)).any fun j=>inB p j y)=(akE p.length).filter fun y=>((akE i).any fun j=>inB p j y)||inB p i y:=aoX fun y _=>e y;rw[e2];cases hh:hd p i
  ·rw[if_neg qqS]
   show _+0=_;rw[akn];refine congrArg amu (aoX fun y hy=>?_);rw[aon,Bool.or_eq_true];refine⟨fun g=>.inl g,fun g=>g.elim id fun g=>?_⟩;unfold hd at hh;rw[aoB]at hh;obtain⟨j,hj,c⟩:=(lN h qqO).1 hh;exact(lN h qqO).2 ⟨j,hj,c.trans ((gH h qqO).1 g)⟩
  ·have hno:∀y,y∈akE p.length→¬(((akE i).any fun j=>inB p j y)=true∧inB p i y=true):=fun y hy ⟨g1,g2⟩=>by
    obtain⟨j,hj,c⟩:=(lN h qqO).1 g1;have c2:=(gH h qqO).1 g2;exact(nX h qqO).1 hh j hj (c.trans (c2.symm h qqO))
   rw[if_pos rfl,filter_or _ _ _ hno]
   ·congr 1
    show jE [cyc p i]=_;rw[←Ei h qqO];simp[jE,kF]
theorem ah1 {p:List Int} (h:OK p):jE (cys p)≤p.length:=by
 unfold cys;rw[afm h _ (aku _)];have:=List.length_filter_le (fun y=>(akE p.length).any fun j=>inB p j y) (akE p.length);simpa using this
def fO (L:List (List Int)):Nat→Nat
 |0=>1
 |i+1=>fO L i / anL (fO L i) (L.getD i []).length*(L.getD i []).length
theorem FW (L:List (List Int)) {i:Nat} (h:i<L.length):L.take (i+1)=L.take i++[L.getD i []]:=by
 rw[aoQ,akL h,akG,akL h];rfl
theorem xH {L:List (List Int)} (hp:∀c,c∈L→0<c.length):∀i,i≤L.length→1≤fO L i∧fO L i≤2 ^ jE (L.take i)∧∀j,j<i→(L.getD j []).length∣fO L i:=by
 intro i;induction i with
 |zero=>exact fun _=>⟨aku 1,by simp[fO,jE],fun j hj=>qqO⟩
 |succ i ih=>
  intro hi;obtain⟨h1,h2,h3⟩:=ih qqO;have hl:0<(L.getD i []).length:=hp _ (by rw[akG,akL qqO];exact aoD _)
  rw[FW L qqO,Aa];have hs:jE [L.getD i []]=(L.getD i []).length:=by simp[jE]
  rw[hs,fO];generalize hm0:(L.getD i []).length=m at*
  generalize fO L i=o at*
  have hg:anL o m∣o:=Nat.gcd_dvd_left o m;have hg2:anL o m∣m:=Nat.gcd_dvd_right o m;have hgp:0<anL o m:=ao2 m h1;refine⟨?_,?_,fun j hj=>?_⟩
  ·exact amZ (Nat.div_pos (Nat.le_of_dvd h1 hg) hgp) hl
  ·rw[Nat.pow_add]
   exact alE (aky (anr _ _) h2) (am1 Nat.lt_two_pow_self)
  ·by_cases e:j=i
   ·subst e
    rw[hm0];exact Nat.dvd_mul_left _ _
   ·refine Nat.dvd_trans (h3 j qqO) ?_
    obtain⟨a,ha⟩:=hg;obtain⟨b,hb⟩:=hg2;generalize anL o m=g at*
    subst ha;refine⟨b,?_⟩;rw[Nat.mul_div_cancel_left _ hgp,hb]
    grind
theorem Wt (L:List (List Int)) (i:Nat):jE (L.take i)≤jE L:=by
 have:jE L=jE (L.take i)+jE (L.drop i):=by rw[←Aa,List.take_append_drop]
 omega
theorem afn {L:List (List Int)} (hp:∀c,c∈L→0<c.length) (hs:jE L≤12) {i:Nat} (hi:i≤L.length):1≤fO L i∧fO L i≤4096:=by
 obtain⟨h1,h2,_⟩:=xH hp i hi;have h3:2 ^ jE (L.take i)≤2 ^ 12:=amN qqO (aky (Wt L i) hs);exact⟨h1,aky h2 h3⟩
theorem afo {p:List Int} (h:OK p) {x:Nat} (hx:x<p.length):per p x∣fO (cys p) (cys p).length:=by
 obtain⟨i,h1,h2,h3⟩:=least h x hx;have hm:cyc p i∈cys p:=by
  unfold cys gG;exact aoL.2 ⟨i,aoS.2 ⟨amn.2 qqO,h2⟩,rfl⟩
 obtain⟨k,e⟩:=h3;have hper:per p x=per p i:=by rw[←e];exact su h qqO k
 obtain⟨j,hj,e2⟩:=List.getElem_of_mem hm;have hp:∀c,c∈cys p→0<c.length:=fun c hc=>by
  obtain⟨y,hy,_,rfl⟩:=yM hc;rw[kF];exact(eB h hy).1
 have:=(xH hp _ (aku _)).2.2 j hj;rw[akG,akL hj]at this;simp only[alo]at this;rw[e2,kF]at this;rw[hper];exact this
theorem Wu {p:List Int} (h:OK p):pwL p (fO (cys p) (cys p).length:Nat)=(akE p.length).map fun(x:Nat)=>(x:Int):=by
 unfold pwL;refine List.map_congr_left fun x hx=>?_;rw[ZA h (fun y hy=>afo h hy) (amn.1 hx)]
end Go.Eng.YtmkagljofpddpaaGreatDoor
namespace Go.Eng.YtmkagljofpddpaaGreatDoor
open Go.Proofs Go.Eng.Dig Go.Eng.Dec Go.Eng.Pm
set_option linter.unusedSimpArgs false
set_option linter.unusedVariables false
set_option maxHeartbeats 0
set_option maxRecDepth 100000
theorem ah2 (l:List (List Int)):sgT l*sgT l=1:=by rcases xC l with h|h<;>rw[h]<;>rfl
theorem R9 (p:List Int) (n:Int) (hl':p.length≤9223372036854775807∧((p.length:Int)≤n→p.length≤1000000)):aD Tryz.prog 49 [.isl (.ints .i64 p) .none,.int .i64 n] (.bp (decide ((p.length:Int)≤n∧bZ 5 p=0))):=by
 have hl1:=hl'.1;by_cases h:(p.length:Int)≤n
 ·have hl:=hl'.2 h
  have e:decide ((p.length:Int)≤n∧bZ 5 p=0)=decide (bZ 5 p=0):=by simp[h]
  rw[e];refine ay (md:=1) (rf:=[]) mixed av yN Tryz.func49 qqR qqR qqR ?_;all_goals exact qU
 ·have e:decide ((p.length:Int)≤n∧bZ 5 p=0)=false:=by simp[h]
  rw[e];refine ay (md:=1) (rf:=[]) mixed av yN Tryz.func49 qqR qqR qqR ?_;all_goals exact qU
def Wv:PSp:=fun xs K=>match xs with
 | [.isl (.ints .i64 x) .none,.int .i64 n]=>VC (x.length≤1000000∧((x.length:Int)≤n∧bZ 5 x=0))∧K (.bool true)
 |_=>False
theorem ZB:POK Tryz.prog 49 Wv:=by
 intro xs K h;unfold Wv at h;split at h
 ·exact⟨_,h.2,jc (V8 _ _ h.1.get.1) (KE (decide_eq_true h.1.get.2))⟩
 ·exact h.elim
def Ww:PSp:=fun xs K=>match xs with
 | [.isl (.ints .i64 x) .none,.int .i64 n]=>VC (n=12∧x.length≤9223372036854775807)∧K (.bp (decide ((x.length:Int)≤n∧bZ 5 x=0)))
 |_=>False
theorem ZC:POK Tryz.prog 49 Ww:=by
 intro xs K h;unfold Ww at h;split at h
 ·exact⟨_,h.2,R9 _ _ ⟨h.1.get.2,fun g=>by have:=h.1.get.1;omega⟩⟩
 ·exact h.elim
def Wx:PSp:=fun xs K=>match xs with
 | [.isl (.ints .i64 x) .none,.isl (.ints .i64 y) .none]=>VC (x.length≤1000000000∧x=y)∧K (.bool true)
 |_=>False
theorem ZE:POK Tryz.prog 51 Wx:=by
 intro xs K h;unfold Wx at h;split at h
 ·exact⟨_,h.2,jc (FU _ _ ⟨h.1.get.1,h.1.get.2▸h.1.get.1⟩) (KE (decide_eq_true h.1.get.2))⟩
 ·exact h.elim
def abB:PSp:=fun xs K=>match xs with
 | [.isl (.ints .i64 x) .none,.int .i64 k]=>VC (((-9223372036854775808≤k∧k≤9223372036854775807)∧x.length≤256)∧OK x)∧K (.tup [.isl (.ints .i64 (pwL x k)) .none,.int .i64 0])
 |_=>False
theorem afp:POK Tryz.prog 83 abB:=by
 intro xs K h;unfold abB at h;split at h
 ·exact⟨_,h.2,y7 _ _ h.1.get.1.1 (by have:=h.1.get.1.2;omega) (sj h.1.get.2 h.1.get.1.2 5)⟩
 ·exact h.elim
theorem afq {x y:List Int} (hx:OK x) (hy:OK y) (h:x.length=y.length) (hl:x.length≤256):uO x y=0:=by
 unfold uO;rw[sj hx hl,sj hy qqO,if_pos h];rfl
theorem Sb (x y:List Int) (h:(OK x∧OK y)∧x.length=y.length∧x.length≤256):aD Tryz.prog 81 [.isl (.ints .i64 x) .none,.isl (.ints .i64 y) .none] (.tup [.isl (.ints .i64 (cmpL x y)) .none,.int .i64 0]):=by
 have g:=Kz x y ⟨qqO,qqO⟩;rw[afq h.1.1 h.1.2 h.2.1 h.2.2,if_pos rfl]at g;exact g
def Wy:PSp:=fun xs K=>match xs with
 | [.isl (.ints .i64 x) .none,.isl (.ints .i64 y) .none]=>VC ((OK x∧OK y)∧x.length=y.length∧x.length≤256)∧K (.tup [.isl (.ints .i64 (cmpL x y)) .none,.int .i64 0])
 |_=>False
theorem ZF:POK Tryz.prog 81 Wy:=by
 intro xs K h;unfold Wy at h;split at h
 ·exact⟨_,h.2,Sb _ _ h.1.get⟩
 ·exact h.elim
theorem Sc (x:List Int) (h:OK x∧x.length≤256):aD Tryz.prog 85 [.isl (.ints .i64 x) .none] (.tup [.int .i64 (sgT (cys x)),.int .i64 0]):=Ck x qqO (sj h.1 h.2 5)
def Wz:PSp:=fun xs K=>match xs with
 | [.isl (.ints .i64 x) .none]=>VC (OK x∧x.length≤256)∧K (.tup [.int .i64 (sgT (cys x)),.int .i64 0])
 |_=>False
theorem ZG:POK Tryz.prog 85 Wz:=by
 intro xs K h;unfold Wz at h;split at h
 ·exact⟨_,h.2,Sc _ h.1.get⟩
 ·exact h.elim
theorem WA (x y:Int) (h:(0≤x∧x≤999999999)∧0≤y∧y≤999999999):aD Tryz.prog 41 [.int .i64 x,.int .i64 y] (.tup [.int .i64 (anL x.toNat y.toNat:Nat),.int .i64 0]):=by
 have g:=FK x y;unfold DJ at g;rw[if_pos ⟨(oW x).2 qqO,(oW y).2 qqO⟩]at g;rw[show x.toNat=x.natAbs by omega,show y.toNat=y.natAbs by omega]
 exact g
def abC:PSp:=fun xs K=>match xs with
 | [.int .i64 x,.int .i64 y]=>VC ((0≤x∧x≤999999999)∧0≤y∧y≤999999999)∧K (.tup [.int .i64 (anL x.toNat y.toNat:Nat),.int .i64 0])
 |_=>False
theorem afr:POK Tryz.prog 41 abC:=by
 intro xs K h;unfold abC at h;split at h
 ·exact⟨_,h.2,WA _ _ h.1.get⟩
 ·exact h.elim
theorem LU (n:Int) (h:0≤n∧n≤1000000):aD Tryz.prog 91 [.int .i64 n] (.isl (.ints .i64 (idL n.toNat)) .none):=by
 have g:=R7 n.toNat qqO;rw[ao1 h.1]at g;exact g
def Oz:PSp:=fun xs K=>match xs with
 | [.int .i64 n]=>VC (0≤n∧n≤1000000)∧K (.isl (.ints .i64 (idL n.toNat)) .none)
 |_=>False
theorem WB:POK Tryz.prog 91 Oz:=by
 intro xs K h;unfold Oz at h;split at h
 ·exact⟨_,h.2,LU _ h.1.get⟩
 ·exact h.elim
theorem Sd (p q:List Int) (j k:Int) (hp:p.length≤9223372036854775807) (hq:q.length≤9223372036854775807) (hj: -128≤j∧j≤127) (hk: -128≤k∧k≤127):aD Tryz.prog 13 [.isl (.ints .i64 p) .none,.isl (.ints .i64 q) .none,.agg [.int .i8 j,.int .i8 k]] (.bp true):=by
 by_cases hH:((p.length:Int)≤12∧bZ 5 p=0)∧p.length=q.length∧((q.length:Int)≤12∧bZ 5 q=0)
 ·obtain⟨⟨h1,h2⟩,h3,h4,h5⟩:=hH
  have hP:=oD qqD h2;have hQ:=oD qqD h5;have p82:=LP p qqO;rw[if_pos h2,h2,ah0 hP]at p82;have p84:=xB p qqO;rw[if_pos h2,h2]at p84;have hcm:=ahZ hP j k;have hR:=Ws hP hQ h3.symm;have hRe:=sj hR (by rw[jD];omega) 5
  have hsg:=afk hP hQ h3.symm;have hat:=fun i (hi:i<q.length)=>o9 (p:=p) hi;have hqr:=fun i (hi:i<q.length)=>hQ.rng i hi;have hPj:=Wq hP j;have hPk:=Wq hP k;have lj:=iG p j;have lk:=iG p k;have ljk:=iG p (j+k);have lm:=iG p (-1);have lc:=jD p q;have lcc:=jD (pwL p j) (pwL p k);have hpos:∀c,c∈cys p→0<c.length:=fun c hc=>by
   obtain⟨y,hy,_,rfl⟩:=yM hc;rw[kF];exact(eB hP hy).1
  have hc12:∀c,c∈cys p→c.length≤12:=fun c hc=>by
   obtain⟨y,hy,_,rfl⟩:=yM hc;rw[kF];have:=(eB hP hy).2.1;omega
  have hsum:=ah1 hP;have hord:=fun i hi=>xH hpos i hi;have hid:=Wu hP;have hss:=ah2 (cys p);have hlc:=J2 p p.length;have hpm: -1≤sgT (cys p)*sgT (cys q)∧sgT (cys p)*sgT (cys q)≤1:=by
   rcases xC (cys p)with a|a<;>rcases xC (cys q)with b|b<;>rw[a,b]<;>decide
  have hob:=fun i hi=>afn hpos (aky hsum qqO) (i:=i) hi;have hlast:=fun i hi=>FW (cys p) (i:=i) hi;have hsgs:=fun i hi=>by
   have h:=Oy ((cys p).take i) ((cys p).getD i []);rw[←hlast i hi]at h;exact h
  have hmem:∀i,i<(cys p).length→(cys p).getD i []∈cys p:=fun i hi=>by
   rw[akG,akL hi];exact aoD _
  have hca:sgT ((cys p).take (cys p).length)=sgT (cys p):=by rw[amJ]
  have hidp:pwL p (fO (cys p) (cys p).length:Nat)=idL p.length:=hid;have hc:=bM KF (au (aC ZB) (au (aC afp) (au (aC ZF) (bM p82 (au (aC ZE) (au (aC ZG) (bM p84 (au (aC afr) (au (aC WB) aG)))))))));have hcl:(cys p).length≤12:=aky hlc qqO;clear hid hsum hlc;refine ay (md:=0) (rf:=[]) mixed av hc Tryz.func13 qqR qqR qqR ?_
  repeat'((conv=>whnf);first|(intro hq;(try simp only[vw]at hq);try exact ak hq)|apply aI|exact aj|apply nM|apply fM)
  all_goals((try apply vM);(try simp only[vq]at*);try omega)
  all_goals first
   |rfl
   |omega
   |exact⟨qqO,qqO,h2⟩
   |exact⟨qqO,qqO,h5⟩
   |exact⟨⟨⟨qqO,qqO⟩,qqO⟩,hP⟩
   |exact⟨⟨hPj,hPk⟩,qqO,qqO⟩
   |exact⟨⟨hP,hQ⟩,qqO,qqO⟩
   |exact⟨qqO,hcm⟩
   |exact⟨qqO,rfl⟩
   |exact⟨qqO,qqO,hRe⟩
   |skip
  conv=>whnf
  refine aV (X:=Nat) (fun i=>i≤q.length) (fun i=>[(148,.int .i64 i),(23,.any)]) (fun _=>[]) (fun i=>q.length-i) 0 ⟨aL,mixed,av,hc,aU⟩ qqR qqO ?_ ?_
  ·all_goals exact aW
  intro i hi;by_cases hlt:i<q.length
  ·have g1:=hat i hlt
   have g2:=hqr i hlt
   repeat'((conv=>whnf);first|(intro hq;(try simp only[vw]at hq);try exact ak hq)|apply aI|exact aj|apply nM|apply fM)
   all_goals((try apply vM);(try simp only[vq]at*);try omega)
   all_goals first
    |omega
    |(refine⟨i+1,[],⟨qqO,qqO⟩,?_⟩
      all_goals exact aW)
  ·have:i=q.length:=qqO
   subst this
   repeat'((conv=>whnf);first|(intro hq;(try simp only[vw]at hq);try exact ak hq)|apply aI|exact aj|apply nM|apply fM)
   all_goals((try apply vM);(try simp only[vq]at*);try omega)
   all_goals first
    |omega
    |exact⟨hP,qqO⟩
    |exact⟨hQ,qqO⟩
    |exact⟨hR,qqO⟩
    |skip
   conv=>whnf
   refine aV (X:=Nat) (fun i=>i≤(cys p).length) (fun i=>[(207,.int .i64 i),(32,.int .i64 (sgT ((cys p).take i))),(33,.int .i64 (fO (cys p) i:Nat)),(35,.any),(36,.any),(37,.any),(225,.any)]) (fun _=>[]) (fun i=>(cys p).length-i) 0 ⟨aL,mixed,av,hc,aU⟩ qqR qqO ?_ ?_
   ·all_goals exact jT
   intro t ht;have o1:=hob t ht;by_cases htl:t<(cys p).length
   ·have c1:=hpos _ (hmem t htl)
    have c2:=hc12 _ (hmem t htl);have c3:=hsgs t htl;have o2:=hob (t+1) qqO;have o3:fO (cys p) (t+1)=fO (cys p) t / anL (fO (cys p) t) ((cys p).getD t []).length*((cys p).getD t []).length:=rfl;have c4: -1≤sgT ((cys p).take t)∧sgT ((cys p).take t)≤1:=by rcases xC ((cys p).take t)with a|a<;>rw[a]<;>decide
    have c5:0<(fO (cys p) t).gcd ((cys p).getD t []).length:=ao2 _ o1.1;have c6:(fO (cys p) t:Int) / ((fO (cys p) t).gcd ((cys p).getD t []).length:Nat)=((fO (cys p) t / (fO (cys p) t).gcd ((cys p).getD t []).length:Nat):Int):=rfl;have c7:(fO (cys p) t:Int) / ((fO (cys p) t).gcd ((cys p).getD t []).length:Nat)*(((cys p).getD t []).length:Int)=(fO (cys p) (t+1):Nat):=rfl;have c8:fO (cys p) t / (fO (cys p) t).gcd ((cys p).getD t []).length≤fO (cys p) t:=anr _ _
    repeat'((conv=>whnf);first|(intro hq;(try simp only[vw]at hq);try exact ak hq)|apply aI|exact aj|apply nM|apply fM)
    all_goals((try apply vM);(try simp only[vq]at*);try omega)
    all_goals first
     |omega
     |(rw[c7];omega)
     |(rw[c6];exact Int.le_trans qqD (Int.natCast_nonneg _))
     |(rw[c6];omega)
     |(exfalso;omega)
     |(refine⟨t+1,[],⟨qqO,qqO⟩,?_⟩
       repeat'((conv=>whnf);first|intro _|apply aI|exact aj|apply nM|apply fM)
       all_goals((try apply vM);(try simp only[vq]at*);try omega)
       all_goals first
        |exact Sup.of rfl
        |exact Sup.of (congrArg (PV.int .i64) c7)
        |exact Sup.of (congrArg (PV.int .i64) (by rw[c3,if_pos qqO]))
        |exact Sup.of (congrArg (PV.int .i64) (by rw[c3,if_neg qqO])))
   ·have:t=(cys p).length:=qqO
    subst this;rw[hca]
    repeat'((conv=>whnf);first|(intro hq;(try simp only[vw]at hq);try exact ak hq)|apply aI|exact aj|apply nM|apply fM)
    all_goals((try apply vM);(try simp only[vq]at*);try omega)
    all_goals first
     |omega
     |rfl
     |exact kE rfl
     |exact⟨⟨⟨qqO,qqO⟩,qqO⟩,hP⟩
     |exact⟨by rw[iG];omega,hidp⟩
     |exact⟨qqO,qqO⟩
 ·have hc:=bM KF (au (aC ZC) aG)
  refine ay (md:=0) (rf:=[]) mixed av hc Tryz.func13 qqR qqR qqR ?_
  repeat'((conv=>whnf);first|(intro hq;(try simp only[vw]at hq);try exact ak hq)|apply aI|exact aj|apply nM|apply fM)
  all_goals((try apply vM);(try simp only[vq]at*);try omega)
  all_goals first
   |rfl
   |omega
   |exact kE rfl
   |exact Sup.of rfl
   |(exfalso;rename_i a b;exact hH ⟨of_decide_eq_true (by simpa using a),qqO,of_decide_eq_true (by simpa using b)⟩)
end Go.Eng.YtmkagljofpddpaaGreatDoor
namespace Go.Eng
open Go.RowKit Go.ChangeShapes Go.WideShapes
set_option linter.unusedSimpArgs false
set_option linter.unusedVariables false
def qD (W:World):Imm:=fun b j=>(rd W b j).isSome
inductive Lf where
 |int (k:IntKind)
 |str
 |ints (k:IntKind)
 |rows (k:IntKind)
 |bool
 |bools
instance:Inhabited Lf:=⟨.str⟩
def ZH:Lf→PV→Prop
 |.int k,p=>∃n,p=.int k n∧(Lit.int k n).wf=true
 |.str,p=>∃s,p=.str s∧s.size≤maxLen
 |.ints k,p=>∃xs,p=.isl (.ints k xs) .none∧(∀n∈xs,(Lit.int k n).wf=true)∧xs.length≤maxLen
 |.rows k,p=>∃xss:List (List Int),p=.isl (.rows k xss) .none∧(∀x∈xss,(∀n∈x,(Lit.int k n).wf=true)∧x.length≤maxLen)∧xss.length≤maxLen
 |.bool,p=>∃b:Bool,p=.bp b∧True
 |.bools,p=>∃xs:List Bool,p=.isl (.bools xs) .none∧xs.length≤maxLen
def sK (v:Value):Prop:=∀a n c,v=.slice (some a) n c→a.spot=none
theorem xI {P:Program} {w:World} {r:Reach} {base:Nat} {t:TypeId} {v:Value} (h:Cell.okWide P w r base t v):sK v:=by
 rintro a n c rfl
 unfold Cell.okWide at h;split at h<;>try(rename_i e1 e2;cases e2)
 unfold Cell.ok at h;split at h<;>try(rename_i e1 e2;cases e2)
 ·exact h.2.2.2.1
 ·exact h.elim
theorem LV {P:Program} {w:World} {r:Reach} {base:Nat} {t:TypeId} {cs:Array Value} (h:Row.okWide P w r base t cs):∀i,sK (cs.toList.getD i undef):=by
 obtain⟨ts,_,_,h⟩:=h;intro i;rw[akG];cases hv:cs.toList[i]? with
 |none=>rintro a n c he;cases he
 |some v=>
  obtain⟨u,_,hu⟩:=h i v (by simpa using hv)
  simpa using xI hu
section
variable {H:Type} (enc:TypeId × Value→H) (P:Program) (W:World)
def nH (t:TypeId) (ls:List Lf):Prop:=∀(fuel:Nat) (cs:List Value) (x:DataW H × List MemPlace),DataW.trod enc P W 0 (fun _=>true) true fuel t cs=some x→(∀i,sK (cs.getD i undef))→
 cs.length=ls.length∧∀i,i<ls.length→∃p,ZH (ls.getD i default) p∧Rep (qD W) W noI p (cs.getD i undef)
end
section
variable {H:Type} {enc:TypeId × Value→H} {P:Program} {W:World}
theorem FX {t:TypeId} {k:IntKind} (ht:P.underlying t=some (.int k)):nH enc P W t [.int k]:=by
 intro fuel cs x h hs;obtain⟨n,rfl,_,hw⟩:=DataW.trod_int ht h;refine⟨rfl,fun i hi=>?_⟩;have:i=0:=by simp at hi;omega
 subst this;exact⟨.int k n,⟨n,rfl,hw⟩,.int _ _ _⟩
theorem Si {t e:TypeId} {k:IntKind} (ht:P.underlying t=some (.slice e)) (he:P.underlying e=some (.int k)) (hc:P.cellsOf e=1):nH enc P W t [.ints k]:=by
 intro fuel cs x h hs;rcases open_ints ht he hc h with⟨rfl,_⟩|⟨a,len,cap,zs,rfl,_,hl,hm,hz,_,hcell,hwf⟩
 ·refine⟨rfl,fun i hi=>?_⟩
  have:i=0:=by simp at hi;omega
  subst this;exact⟨.isl (.ints k []) .none,⟨[],rfl,qqS,qqS⟩,.islnil _ _ _ rfl⟩
 ·refine⟨rfl,fun i hi=>?_⟩
  have:i=0:=by simp at hi;omega
  subst this;have hsp:a.spot=none:=hs 0 a len cap rfl;obtain⟨b,off,spot⟩:=a;simp only at hsp;subst hsp;simp only[ite_true]at hz;have hcell':∀i,i<cap→rd W b (off+i)=some (.int k (zs.getD i 0)):=fun i hi=>by
   have:=hcell i qqO;rw[eT,iP]at this;exact this
  refine⟨.isl (.ints k (zs.take len)) .none,⟨_,rfl,fun n hn=>hwf n (List.mem_of_mem_take hn),by simp;omega⟩,?_⟩
  have hlen:(CL.ints k (zs.take len)).cnt=len:=by simp[CL.cnt];omega
  have hrep:=Rep.isl (S:=qD W) (w:=W) noI (.ints k (zs.take len)) .none b off cap (by rw[hlen];exact hl)
   (fun j hj=>by
     have hj':j<len:=by simp only[CL.ncell,alm]at hj;omega
     show(rd W b (off+j)).isSome;rw[hcell' j qqO];rfl)
   (fun j hj=>by
     have hj':j<len:=by simp only[CL.ncell,alm]at hj;omega
     have e1:rdv W b (off+j)=.int k (zs.getD j 0):=by unfold rdv;rw[hcell' j qqO];rfl
     have e2:(zs.take len).getD j 0=zs.getD j 0:=by simp only[akG,ao3 hj']
     rw[e1];show Rep (qD W) W noI (.int k ((zs.take len).getD j 0)) _;rw[e2];exact .int _ _ _)
   (fun e=>by cases e) (fun k e=>by cases e)
  rw[hlen]at hrep;simpa using hrep
theorem Sj {l:List Lf} {ls:List (List Lf)} {i:Nat} (h:i<l.length):(l++ls.flatten).getD i default=l.getD i default:=by
 simp only[akG,amr h]
theorem FY {cs:List Value} {o n j:Nat} (h:j<n):((cs.drop o).take n).getD j undef=cs.getD (o+j) undef:=by
 simp only[akG,ao3 h,alP]
theorem WC {cs:List Value} (hs:∀i,sK (cs.getD i undef)) (o n:Nat):∀i,sK (((cs.drop o).take n).getD i undef):=by
 intro i;by_cases h:i<n
 ·rw[FY h];exact hs _
 ·have:((cs.drop o).take n).getD i undef=undef:=by
   rw[akG,List.getElem?_eq_none (by simp;omega)];rfl
  rw[this];rintro a n c he;cases he
theorem ZI:∀(n:Nat) (l:List Lf) (i:Nat),i<n*l.length→((akP n l).flatten).getD i default=l.getD (i % l.length) default:=by
 intro n;induction n with
 |zero=>intro l i h;simp at h
 |succ n ih=>
  intro l i h;rw[List.replicate_succ,List.flatten_cons];by_cases hi:i<l.length
  ·rw[Sj hi,Nat.mod_eq_of_lt hi]
  ·have e1:i-l.length<n*l.length:=by rw[akt]at h;omega
   rw[akG,List.getElem?_append_right qqO,←akG,ih l _ e1,Nat.mod_eq_sub_mod (a:=i) qqO]
theorem LW {t e:TypeId} {n:Nat} {l:List Lf} (ht:P.underlying t=some (.array n e)) (hO:nH enc P W e l) (hce:P.cellsOf e=l.length) (hc:P.cellsOf t=n*l.length):nH enc P W t (akP n l).flatten:=by
 intro fuel cs x h hs;obtain⟨xs,m,_,_,hl,hlen,hf⟩:=DataW.trod_array ht h;have hfl:(akP n l).flatten.length=n*l.length:=by simp[List.length_flatten]
 refine⟨by rw[hl,hc,hfl],fun i hi=>?_⟩
 rw[hfl]at hi;have hpos:0<l.length:=by
  rcases Nat.eq_zero_or_pos l.length with h|h
  ·rw[h]at hi;omega
  ·exact h
 have hk:i / l.length<n:=aoV (by rw[akT];exact hi)
 have hj:i % l.length<l.length:=alc _ hpos;have h1:=hf (i / l.length) hk;rw[akL qqO]at h1;obtain⟨_,h2⟩:=hO _ _ _ h1 (WC hs _ _);obtain⟨p,hp,hr⟩:=h2 _ hj;rw[FY qqO,hce,akT,Nat.div_add_mod]at hr;exact⟨p,by rw[ZI n l i hi];exact hp,hr⟩
theorem afs {Q:Nat→PV→Prop}:∀(n:Nat) (Q:Nat→PV→Prop),(∀i,i<n→∃p,Q i p)→∃ps:List PV,ps.length=n∧∀i,i<n→Q i (aH ps i):=by
 intro n;induction n with
 |zero=>intro Q _;exact⟨[],rfl,fun i hi=>qqO⟩
 |succ n ih=>
  intro Q h;obtain⟨p,hp⟩:=h 0 qqO;obtain⟨ps,h1,h2⟩:=ih (fun i=>Q (i+1)) (fun i hi=>h (i+1) qqO);refine⟨p::ps,by simp[h1],fun i hi=>?_⟩
  cases i with
  |zero=>exact hp
  |succ i=>exact h2 i qqO
theorem ZJ {t:TypeId} {ls:List Lf} {v:Value} {d:DataW H} {qs:List MemPlace} {r:Reach} {base:Nat} (ht:(∃fs,P.underlying t=some (.struct fs))∨∃n e,P.underlying t=some (.array n e)) (hO:nH enc P W t ls) (hval:Value.okWide P W r base t v) (hd:DataW.Trod enc P W 0 (fun _=>true) true t v d qs):
 ∃ps:List PV,ps.length=ls.length∧(∀i,i<ls.length→ZH (ls.getD i default) (aH ps i))∧Rep (qD W) W noI (.agg ps) v:=by
 have hv:∃cs,v=.agg cs∧Row.okWide P W r base t cs:=by
  unfold Value.okWide at hval;rcases ht with⟨fs,ht⟩|⟨n,e,ht⟩<;>rw[ht]at hval<;>exact⟨hval.choose,hval.choose_spec.1,hval.choose_spec.2.2⟩
 obtain⟨cs,rfl,hrow⟩:=hv;obtain⟨fuel,hf⟩:=hd;have hcells:(Value.agg cs).cells.toList=cs.toList:=rfl;rw[hcells]at hf;obtain⟨h1,h2⟩:=hO _ _ _ hf (LV hrow);obtain⟨ps,p1,p2⟩:=afs (Q:=fun _ _=>True) ls.length _ h2;refine⟨ps,p1,fun i hi=>(p2 i hi).1,.agg _ _ _ (by rw[p1,←h1];simp) fun i hi=>?_⟩
 have:=(p2 i qqO).2;simpa [akD,akG]using this
theorem FZ {t:TypeId} {l:Lf} {v:Value} {d:DataW H} {qs:List MemPlace} {r:Reach} {base:Nat} (ht:(∃k,P.underlying t=some (.int k))∨P.underlying t=some .string∨∃e,P.underlying t=some (.slice e)) (hO:nH enc P W t [l]) (hval:Value.okWide P W r base t v) (hd:DataW.Trod enc P W 0 (fun _=>true) true t v d qs):
 ∃p:PV,ZH l p∧Rep (qD W) W noI p v:=by
 have hv:v.cells.toList=[v]∧sK v:=by
  rcases ht with⟨k,ht⟩|ht|⟨e,ht⟩
  ·obtain⟨n,rfl⟩:=okWide_int ht hval;exact⟨rfl,fun a n c h=>by cases h⟩
  ·obtain⟨n,rfl⟩:=okWide_string ht hval;exact⟨rfl,fun a n c h=>by cases h⟩
  ·have hc:Cell.okWide P W r base t v:=by unfold Value.okWide at hval;rw[ht]at hval;exact hval
   obtain⟨a,n,c,rfl⟩:=okWide_slice ht hval;exact⟨rfl,xI hc⟩
 obtain⟨fuel,hf⟩:=hd;rw[hv.1]at hf;obtain⟨h1,h2⟩:=hO _ _ _ hf (fun i=>by
  cases i with
  |zero=>exact hv.2
  |succ i=>rintro a n c he;simp at he;cases he)
 obtain⟨p,hp,hr⟩:=h2 0 qqS;exact⟨p,hp,hr⟩
end
theorem ZK {P:Program} {g:FuncId} {args:List PV} {vs:Array Value} {W:World} (h:aD P g args (.bp true)) (hr:bG (qD W) W noI args vs) (hg:gB (qD W) W):
 Calls P g vs W fun e w'=>e=.returned (.bool true)∧Below W.heap.size W w':=by
 have:=(h.2 (qD W) W vs hg (fun _ _ h=>h) hr);refine callsIn_wide.1 (CallsIn.mono (F:=Fw none) this ?_)
 rintro e w' ⟨val,S',rfl,o⟩
 have hv:=o.rep;exact⟨by cases hv;rfl,⟨o.below.os,o.below.tape,o.below.output,o.below.size,o.same⟩⟩
section
variable {H:Type} {enc:TypeId × Value→H} {P:Program}
theorem Gp (hl:laidOutB P=true) {W W':World} {sp:Nat→Bool} (hB:Below W.heap.size W W'):∀{ts:List TypeId} {vs:List Value} {ds:List (DataW H)} {ps:List MemPlace},ts.all (fun t=>P.readableRec t&&decide (t<P.types.size))=true→
 DataW.TrodAll enc P W 0 (fun _=>true) true ts vs ds ps→(∀x∈ps,x.block<W.heap.size)→(∀x∈ps,sp x.block=true)→DataW.TrodAll enc P W' 0 sp true ts vs ds ps:=by
 intro ts;induction ts with
 |nil=>
  intro vs ds ps _ h _ _;cases vs<;>cases ds<;>first|exact h|exact h.elim
 |cons t ts ih=>
  intro vs ds ps ha h hlt hs;cases vs with
  |nil=>exact h.elim
  |cons v vs=>
   cases ds with
   |nil=>exact h.elim
   |cons d ds=>
    obtain⟨p,q,h1,h2,rfl⟩:=h;simp only[List.all_cons,akQ,decide_eq_true_eq]at ha;refine⟨p,q,WideElems.Trod_stays hl ha.1.1 ha.1.2 h1 (fun x hx=>hB.same (hlt x (by simp[hx]))) (fun x hx=>hs x (by simp[hx])),ih ha.2 h2 (fun x hx=>hlt x (by simp[hx])) (fun x hx=>hs x (by simp[hx])),rfl⟩
theorem ZL {f:Func} {s:ChangeSpec} {W W':World} {args:Array Value} {ds gs:List (DataW H)} {before:List MemPlace} {tb:TypeId} (hl:laidOutB P=true) (hres:f.resultTypes= #[tb]) (htb:P.underlying tb=some .bool)
 (hread:f.params.toList.all (fun t=>P.readableRec t&&decide (t<P.types.size))=true) (hv:s.vars=[]) (hfn:s.fn H ds={results:=[.lit (.bool true)],args:=ds})
 (hW:DataW.Whole enc P f.params.toList s.vars false W args.toList ds gs before) (hB:Below W.heap.size W W'):s.post enc P f false true false false W args (.bool true) W':=by
 have hW':=hW;obtain⟨p,q,hA,hV,rfl,hfz,hnd⟩:=hW;rw[hv]at hV;obtain⟨rfl,rfl⟩:=trodVars_none hV;have hlt:∀x∈p,x.block<W.heap.size:=fun x hx=>by simpa using hW'.lt x (by simp[hx])
 refine⟨ds,[],p++[],[],p,[],hW',?_,?_,?_,hB.frame _,fun h=>by cases h⟩
 ·rw[aoZ,hfn,hres]
  exact trodAll_mk1 (shut_bool htb true)
 ·rw[aoZ,hfn]
  exact Gp hl hB hread hA hlt (fun x hx=>by simpa using hlt x hx)
 ·rw[aoZ,hfn,hv]
  exact rfl
end
end Go.Eng
namespace Go.Eng.YtmkagljofpddpaaGreatDoor
open Go.Proofs Go.Proofs.YtmkagljofpddpaaGreatDoor Go.RowKit Go.ChangeShapes Go.WideShapes
set_option linter.unusedVariables false
theorem own:ownKnob Tryz.prog.godebug=none:=by kernel_rfl
theorem laidOut:laidOutB Tryz.prog=true:=by kernel_rfl
abbrev uR:List (String × DataW Unit):=[("math/bits.deBruijn32tab",Rows.laid_math_bits_deBruijn32tab),("math/bits.deBruijn64tab",Rows.laid_math_bits_deBruijn64tab),("internal/strconv.uint64pow10",Rows.laid_internal_strconv_uint64pow10),("unicode/utf8.acceptRanges",Rows.laid_unicode_utf8_acceptRanges),("strconv.ErrRange",Rows.laid_strconv_ErrRange),("strconv.ErrSyntax",Rows.laid_strconv_ErrSyntax),("unicode/utf8.first",Rows.laid_unicode_utf8_first)]
theorem ZM (os:Os) (args:Array Value):laidMetH Tryz.prog uR ((World.laidAll Tryz.prog os uR).forCall (fun _ _=>0) ⟨#[],args,[]⟩).memory:=by
 rw[Go.MakeChecks.laidMetH_plain _ _ _ (by kernel_rfl)]
 exact laidMet_laidAll _ (by kernel_rfl) (by kernel_rfl)
theorem KI {W:World} {name:String} {k:IntKind} {zs:List Int} {g:Nat} (hg:Tryz.prog.globalNamed name=some g) (h:Lib.TabIs Tryz.prog W name k zs):
 bsz W g=some (CL.ints k zs).ncell∧∀j,j<(CL.ints k zs).ncell→qD W g j∧Rep (qD W) W noI ((CL.ints k zs).get j) (rdv W g j):=by
 unfold Lib.TabIs World.var? at h;rw[hg,Option.bind_some]at h;split at h
 ·rename_i cs e f hb
  have h:=Option.some.inj h;subst h;refine⟨by simp[bsz,hb,CL.ncell],fun j hj=>?_⟩
  simp only[CL.ncell]at hj;have hr:rd W g j=some (.int k (zs.getD j 0)):=by simp[rd,hb,hj]
  refine⟨by show(rd W g j).isSome=true;rw[hr];rfl,?_⟩
  have:rdv W g j=.int k (zs.getD j 0):=by unfold rdv;rw[hr];rfl
  rw[this];exact .int _ _ _
 ·cases h
theorem aft {W:World} (h:laidMetH Tryz.prog uR W):gB (qD W) W:=by
 rw[Go.MakeChecks.laidMetH_plain _ _ _ (by kernel_rfl)]at h
 have t2:Lib.TabIs Tryz.prog W "math/bits.deBruijn32tab" .u8 Hq:=Lib.tabIs_of_head (k:=.u8) (zs:=Hq) (g:=8) (t:=316) (e:=5) (n:=32) (by kernel_rfl) (by kernel_rfl) (by kernel_rfl) (by kernel_rfl) (by kernel_rfl) (by kernel_rfl) h
 have t3:Lib.TabIs Tryz.prog W "math/bits.deBruijn64tab" .u8 Hr:=Lib.tabIs_of_head (k:=.u8) (zs:=Hr) (g:=9) (t:=317) (e:=5) (n:=64) (by kernel_rfl) (by kernel_rfl) (by kernel_rfl) (by kernel_rfl) (by kernel_rfl) (by kernel_rfl) h.tail
 have t0:Lib.TabIs Tryz.prog W "internal/strconv.uint64pow10" .u64 nI:=Lib.tabIs_of_head (k:=.u64) (zs:=nI) (g:=7) (t:=311) (e:=210) (n:=20) (by kernel_rfl) (by kernel_rfl) (by kernel_rfl) (by kernel_rfl) (by kernel_rfl) (by kernel_rfl) h.tail.tail
 intro g c hc;unfold xJ at hc;split at hc
 ·cases hc;exact KI (by kernel_rfl) t2
 ·cases hc;exact KI (by kernel_rfl) t0
 ·cases hc;exact KI (by kernel_rfl) t3
 ·cases hc
theorem abD {n:Int} (h:(Go.Lit.int Go.IntKind.i8 n).wf=true): -128≤n∧n≤127:=by
 have h1:Go.IntKind.i8.min= -128:=qqD;have h2:Go.IntKind.i8.max=127:=qqD;simp[Go.Lit.wf,h1,h2]at h;exact h
section
variable {H:Type} {enc:TypeId × Value→H} {W:World}
theorem o3:nH enc Tryz.prog W 3 [.int .i64]:=FX Tryz.underlying3
theorem o22:nH enc Tryz.prog W 22 [.ints .i64]:=Si Tryz.underlying22 Tryz.underlying3 (by kernel_rfl)
theorem akk:nH enc Tryz.prog W 106 [.int .i8]:=FX Tryz.underlying106
theorem akl:nH enc Tryz.prog W 107 [.int .i8,.int .i8]:=LW (n:=2) Tryz.underlying107 akk (by kernel_rfl) (by kernel_rfl)
end
end Go.Eng.YtmkagljofpddpaaGreatDoor
