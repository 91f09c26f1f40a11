/- The base of the claims of this seat: an engine that walks through functions with symbolic values, its soundness, and contracts of the functions that every law calls. Conditions stand in the contracts. -/
import Derived.Shelf.Small.Wraps
import Derived.Shelf.Strconv.Atoi
import Derived.Shelf.Strings.Search3
import Derived.Shelf.Strings.Count
import Derived.Shelf.Strings.Prefix
import Derived.Shelf.Strings.Split
import Derived.Shelf.Strings.OnBuilder
import Derived.Shelf.LaysM
import Derived.Shelf.Strconv.Itoa3
import Derived.Shelf.Sort.Plain
import Derived.Lib.AppendIntMem
import Derived.Lib.ItoaLen
import Derived.Lib.TrailingZeros
import Derived.Lib.BitFns
import Derived.Test.YtcechbdgokjmgaaGreatDoorProg
import Derived.Test.YtcechbdgokjmgaaGreatDoorBc
open Array renaming getElem?_eq_none→aec,ext→afr,getD_eq_getD_getElem?→aej,length_toList→aeO
open BitVec renaming ofInt→aey,testBit_toNat→agc,getLsbD_and→agd
open Bool renaming eq_iff_iff→af7,false_and→agn,false_or→agE,true_or→agF
open Classical renaming not_not→ae2
open Int renaming toNat_natCast→afg,one_mul→agb,toNat→agt,natCast_add→agu,lt_of_lt_of_le→agv
open List renaming getElem?_eq_some_iff→afS,getD_eq_getElem?_getD→aeo,mem_cons_of_mem→aek,mem_cons_self→afZ,map_cons→aen,length_cons→ad4,length_append→afu,length_map→af0,take_add_one→af3,map_append→af4,getElem?_eq_getElem→aev,length_nil→adY,take_length→af5,getElem_of_mem→aeu,mem_append→aep,mem_filter→agh,pairwise_cons→afE,mem_cons→afD,foldl_append→agq,getElem_mem→agr,range→ael,find?_eq_none→agz,mem_range→afY,range_eq_range'→afL,range'_append_1→agA,find?_some→agB,any_eq_true→agC,any_eq_false→agD,getElem?_map→ae7,length_take→ae0,mem_of_mem_take→agG,take→agH,drop→agI,drop_zero→agJ,mem_singleton→agL,length_filter_le→agM,append_nil→agN,length_eq_zero_iff→aft
open Nat renaming le_refl→aea,zero_le→aeY,mul_one→aeL,zero_add→aeC,eq_zero_or_pos→aee,succ_mul→ad8,mul_add→af2,le_trans→afW,testBit_two_pow→af6,lt_pow_two_of_testBit→af8,eq_of_testBit_eq→af9,pow_le_pow_right→aga,testBit_lt_two_pow→agf,testBit_two_pow_mul_add→agi,pow_succ→agj,two_pow_pos→agk,testBit_div_two_pow→agl,testBit_two_pow_mul→agm,testBit_two_pow_sub_one→agp,div_div_eq_div_mul→ags,mul_comm→aeD,mul_assoc→agw,mul_mod_right→agx,mul_div_cancel_left→agy,sub_zero→agK
namespace Go.Eng.YtcechbdgokjmgaaGreatDoor
open Go.Proofs
set_option maxRecDepth 100000
theorem Y8:EqA Tryz.prog 328 [.str] 121:=.struct Tryz.underlying328 Tryz.stoodInHeld328 (.cons (kf:=[.str]) (rest:=[]) (by decide) rfl ((EqT.leaf (k:=.str) Tryz.underlying9:EqT Tryz.prog 9 [.str] 1).mono (by decide)) .nil)
theorem Y9:EqA Tryz.prog 329 [.str] 121:=.struct Tryz.underlying329 Tryz.stoodInHeld329 (.cons (kf:=[.str]) (rest:=[]) (by decide) rfl ((EqT.leaf (k:=.str) Tryz.underlying9:EqT Tryz.prog 9 [.str] 1).mono (by decide)) .nil)
theorem Za:EqA Tryz.prog 107 [.str,.int .i64] 121:=.struct Tryz.underlying107 Tryz.stoodInHeld107 (.cons (kf:=[.str]) (rest:=[.int .i64]) (by decide) rfl ((EqT.leaf (k:=.str) Tryz.underlying9:EqT Tryz.prog 9 [.str] 1).mono (by decide)) (.cons (kf:=[.int .i64]) (rest:=[]) (by decide) rfl ((EqT.leaf (k:=.int .i64) Tryz.underlying3:EqT Tryz.prog 3 [.int .i64] 1).mono (by decide)) .nil))
theorem Zb:EqA Tryz.prog 108 [.str,.int .i64] 121:=.struct Tryz.underlying108 Tryz.stoodInHeld108 (.cons (kf:=[.str]) (rest:=[.int .i64]) (by decide) rfl ((EqT.leaf (k:=.str) Tryz.underlying9:EqT Tryz.prog 9 [.str] 1).mono (by decide)) (.cons (kf:=[.int .i64]) (rest:=[]) (by decide) rfl ((EqT.leaf (k:=.int .i64) Tryz.underlying3:EqT Tryz.prog 3 [.int .i64] 1).mono (by decide)) .nil))
theorem Zc:EqA Tryz.prog 233 [.str,.str] 121:=EqA.array (ke:=[.str]) Tryz.underlying233 ((EqT.leaf (k:=.str) Tryz.underlying9:EqT Tryz.prog 9 [.str] 1).mono (by decide)) (Ez Tryz.typeInfo9) ⟨_,Tryz.underlying9⟩
theorem Zd:EqA Tryz.prog 300 [.int .u8,.int .u8] 121:=.struct Tryz.underlying300 Tryz.stoodInHeld300 (.cons (kf:=[.int .u8]) (rest:=[.int .u8]) (by decide) rfl ((EqT.leaf (k:=.int .u8) Tryz.underlying5:EqT Tryz.prog 5 [.int .u8] 1).mono (by decide)) (.cons (kf:=[.int .u8]) (rest:=[]) (by decide) rfl ((EqT.leaf (k:=.int .u8) Tryz.underlying5:EqT Tryz.prog 5 [.int .u8] 1).mono (by decide)) .nil))
theorem Ze:EqA Tryz.prog 301 [.int .u8,.int .u8] 121:=.struct Tryz.underlying301 Tryz.stoodInHeld301 (.cons (kf:=[.int .u8]) (rest:=[.int .u8]) (by decide) rfl ((EqT.leaf (k:=.int .u8) Tryz.underlying5:EqT Tryz.prog 5 [.int .u8] 1).mono (by decide)) (.cons (kf:=[.int .u8]) (rest:=[]) (by decide) rfl ((EqT.leaf (k:=.int .u8) Tryz.underlying5:EqT Tryz.prog 5 [.int .u8] 1).mono (by decide)) .nil))
theorem acy:EqA Tryz.prog 7 [.int .i64,.int .i64,.bool,.int .u8] 121:=.struct Tryz.underlying7 Tryz.stoodInHeld7 (.cons (kf:=[.int .i64]) (rest:=[.int .i64,.bool,.int .u8]) (by decide) rfl ((EqT.leaf (k:=.int .i64) Tryz.underlying2:EqT Tryz.prog 2 [.int .i64] 1).mono (by decide)) (.cons (kf:=[.int .i64]) (rest:=[.bool,.int .u8]) (by decide) rfl ((EqT.leaf (k:=.int .i64) Tryz.underlying3:EqT Tryz.prog 3 [.int .i64] 1).mono (by decide)) (.cons (kf:=[.bool]) (rest:=[.int .u8]) (by decide) rfl ((EqT.leaf (k:=.bool) Tryz.underlying4:EqT Tryz.prog 4 [.bool] 1).mono (by decide)) (.cons (kf:=[.int .u8]) (rest:=[]) (by decide) rfl ((EqT.leaf (k:=.int .u8) Tryz.underlying6:EqT Tryz.prog 6 [.int .u8] 1).mono (by decide)) .nil))))
theorem abI:EqA Tryz.prog 39 [.str,.int .i64,.int .i64,.int .i64] 121:=.struct Tryz.underlying39 Tryz.stoodInHeld39 (.cons (kf:=[.str]) (rest:=[.int .i64,.int .i64,.int .i64]) (by decide) rfl ((EqT.leaf (k:=.str) Tryz.underlying9:EqT Tryz.prog 9 [.str] 1).mono (by decide)) (.cons (kf:=[.int .i64]) (rest:=[.int .i64,.int .i64]) (by decide) rfl ((EqT.leaf (k:=.int .i64) Tryz.underlying3:EqT Tryz.prog 3 [.int .i64] 1).mono (by decide)) (.cons (kf:=[.int .i64]) (rest:=[.int .i64]) (by decide) rfl ((EqT.leaf (k:=.int .i64) Tryz.underlying3:EqT Tryz.prog 3 [.int .i64] 1).mono (by decide)) (.cons (kf:=[.int .i64]) (rest:=[]) (by decide) rfl ((EqT.leaf (k:=.int .i64) Tryz.underlying3:EqT Tryz.prog 3 [.int .i64] 1).mono (by decide)) .nil))))
theorem abJ:EqA Tryz.prog 40 [.str,.int .i64,.int .i64,.int .i64] 121:=.struct Tryz.underlying40 Tryz.stoodInHeld40 (.cons (kf:=[.str]) (rest:=[.int .i64,.int .i64,.int .i64]) (by decide) rfl ((EqT.leaf (k:=.str) Tryz.underlying9:EqT Tryz.prog 9 [.str] 1).mono (by decide)) (.cons (kf:=[.int .i64]) (rest:=[.int .i64,.int .i64]) (by decide) rfl ((EqT.leaf (k:=.int .i64) Tryz.underlying3:EqT Tryz.prog 3 [.int .i64] 1).mono (by decide)) (.cons (kf:=[.int .i64]) (rest:=[.int .i64]) (by decide) rfl ((EqT.leaf (k:=.int .i64) Tryz.underlying3:EqT Tryz.prog 3 [.int .i64] 1).mono (by decide)) (.cons (kf:=[.int .i64]) (rest:=[]) (by decide) rfl ((EqT.leaf (k:=.int .i64) Tryz.underlying3:EqT Tryz.prog 3 [.int .i64] 1).mono (by decide)) .nil))))
theorem Zf:EqA Tryz.prog 289 [.int .u64,.int .u64,.int .u64,.int .u64,.int .u64,.int .u64,.int .u64,.int .u64,.int .u64,.int .u64,.int .u64,.int .u64,.int .u64,.int .u64,.int .u64,.int .u64,.int .u64,.int .u64,.int .u64,.int .u64] 121:=EqA.array (ke:=[.int .u64]) Tryz.underlying289 ((EqT.leaf (k:=.int .u64) Tryz.underlying275:EqT Tryz.prog 275 [.int .u64] 1).mono (by decide)) (Ez Tryz.typeInfo275) ⟨_,Tryz.underlying275⟩
noncomputable def te0:TE:=aO Tryz.t0 Tryz.t0
theorem abK:aH Tryz.prog 0 te0:=aJ Tryz.underlying0 Tryz.typeInfo0 rfl rfl rfl
noncomputable def te2:TE:=aO Tryz.t2 Tryz.t2
theorem abL:aH Tryz.prog 2 te2:=aJ Tryz.underlying2 Tryz.typeInfo2 rfl rfl rfl
noncomputable def te3:TE:=aO Tryz.t3 Tryz.t3
theorem abM:aH Tryz.prog 3 te3:=aJ Tryz.underlying3 Tryz.typeInfo3 rfl rfl rfl
noncomputable def te4:TE:=aO Tryz.t4 Tryz.t4
theorem abN:aH Tryz.prog 4 te4:=aJ Tryz.underlying4 Tryz.typeInfo4 rfl rfl rfl
noncomputable def te5:TE:=aO Tryz.t5 Tryz.t5
theorem abO:aH Tryz.prog 5 te5:=aJ Tryz.underlying5 Tryz.typeInfo5 rfl rfl rfl
noncomputable def te6:TE:=aO Tryz.t6 Tryz.t5
theorem abP:aH Tryz.prog 6 te6:=aJ Tryz.underlying6 Tryz.typeInfo6 rfl rfl rfl
noncomputable def te7:TE:=jA Tryz.t7 Tryz.t7 [.int .i64,.int .i64,.bool,.int .u8]
theorem abQ:aH Tryz.prog 7 te7:=iB ⟨Tryz.eqGuardType7,_,by decide,acy⟩ Tryz.underlying7 Tryz.typeInfo7 rfl rfl rfl
noncomputable def te9:TE:=aO Tryz.t9 Tryz.t9
theorem abR:aH Tryz.prog 9 te9:=aJ Tryz.underlying9 Tryz.typeInfo9 rfl rfl rfl
noncomputable def Zg:TE:=aO Tryz.t16 Tryz.t16
theorem Zh:aH Tryz.prog 16 Zg:=aJ Tryz.underlying16 Tryz.typeInfo16 rfl rfl rfl
noncomputable def Zi:TE:=aO Tryz.t20 Tryz.t20
theorem Zj:aH Tryz.prog 20 Zi:=aJ Tryz.underlying20 Tryz.typeInfo20 rfl rfl rfl
noncomputable def Zk:TE:=aO Tryz.t21 Tryz.t21
theorem Zl:aH Tryz.prog 21 Zk:=aJ Tryz.underlying21 Tryz.typeInfo21 rfl rfl rfl
noncomputable def Zm:TE:=aO Tryz.t22 Tryz.t22
theorem Zn:aH Tryz.prog 22 Zm:=aJ Tryz.underlying22 Tryz.typeInfo22 rfl rfl rfl
noncomputable def Zo:TE:=aO Tryz.t23 Tryz.t23
theorem Zp:aH Tryz.prog 23 Zo:=aJ Tryz.underlying23 Tryz.typeInfo23 rfl rfl rfl
noncomputable def Zq:TE:=aO Tryz.t24 Tryz.t23
theorem Zr:aH Tryz.prog 24 Zq:=aJ Tryz.underlying24 Tryz.typeInfo24 rfl rfl rfl
noncomputable def Zt:TE:=aO Tryz.t25 Tryz.t25
theorem Zu:aH Tryz.prog 25 Zt:=aJ Tryz.underlying25 Tryz.typeInfo25 rfl rfl rfl
noncomputable def Zv:TE:=aO Tryz.t26 Tryz.t26
theorem Zw:aH Tryz.prog 26 Zv:=aJ Tryz.underlying26 Tryz.typeInfo26 rfl rfl rfl
noncomputable def Zx:TE:=aO Tryz.t27 Tryz.t26
theorem Zy:aH Tryz.prog 27 Zx:=aJ Tryz.underlying27 Tryz.typeInfo27 rfl rfl rfl
noncomputable def Zz:TE:=aO Tryz.t30 Tryz.t30
theorem ZA:aH Tryz.prog 30 Zz:=aJ Tryz.underlying30 Tryz.typeInfo30 rfl rfl rfl
noncomputable def ZB:TE:=aO Tryz.t31 Tryz.t26
theorem ZC:aH Tryz.prog 31 ZB:=aJ Tryz.underlying31 Tryz.typeInfo31 rfl rfl rfl
noncomputable def ZE:TE:=aO Tryz.t32 Tryz.t32
theorem ZF:aH Tryz.prog 32 ZE:=aJ Tryz.underlying32 Tryz.typeInfo32 rfl rfl rfl
noncomputable def ZG:TE:=aO Tryz.t33 Tryz.t33
theorem ZH:aH Tryz.prog 33 ZG:=aJ Tryz.underlying33 Tryz.typeInfo33 rfl rfl rfl
noncomputable def ZI:TE:=aO Tryz.t34 Tryz.t34
theorem ZJ:aH Tryz.prog 34 ZI:=aJ Tryz.underlying34 Tryz.typeInfo34 rfl rfl rfl
noncomputable def ZK:TE:=aO Tryz.t35 Tryz.t34
theorem ZL:aH Tryz.prog 35 ZK:=aJ Tryz.underlying35 Tryz.typeInfo35 rfl rfl rfl
noncomputable def ZM:TE:=aO Tryz.t36 Tryz.t3
theorem ZN:aH Tryz.prog 36 ZM:=aJ Tryz.underlying36 Tryz.typeInfo36 rfl rfl rfl
noncomputable def ZO:TE:=aO Tryz.t37 Tryz.t37
theorem ZP:aH Tryz.prog 37 ZO:=aJ Tryz.underlying37 Tryz.typeInfo37 rfl rfl rfl
noncomputable def ZQ:TE:=jA Tryz.t39 Tryz.t39 [.str,.int .i64,.int .i64,.int .i64]
theorem ZR:aH Tryz.prog 39 ZQ:=iB ⟨Tryz.eqGuardType39,_,by decide,abI⟩ Tryz.underlying39 Tryz.typeInfo39 rfl rfl rfl
noncomputable def E8:TE:=jA Tryz.t40 Tryz.t39 [.str,.int .i64,.int .i64,.int .i64]
theorem ZT:aH Tryz.prog 40 E8:=iB ⟨Tryz.eqGuardType40,_,by decide,abJ⟩ Tryz.underlying40 Tryz.typeInfo40 rfl rfl rfl
noncomputable def ZU:TE:=aO Tryz.t41 Tryz.t41
theorem ZV:aH Tryz.prog 41 ZU:=aJ Tryz.underlying41 Tryz.typeInfo41 rfl rfl rfl
noncomputable def ZW:TE:=aO Tryz.t45 Tryz.t34
theorem ZX:aH Tryz.prog 45 ZW:=aJ Tryz.underlying45 Tryz.typeInfo45 rfl rfl rfl
noncomputable def ZY:TE:=aO Tryz.t50 Tryz.t50
theorem Z0:aH Tryz.prog 50 ZY:=aJ Tryz.underlying50 Tryz.typeInfo50 rfl rfl rfl
noncomputable def Z4:TE:=aO Tryz.t53 Tryz.t53
theorem Z5:aH Tryz.prog 53 Z4:=aJ Tryz.underlying53 Tryz.typeInfo53 rfl rfl rfl
noncomputable def Z6:TE:=aO Tryz.t54 Tryz.t54
theorem Z7:aH Tryz.prog 54 Z6:=aJ Tryz.underlying54 Tryz.typeInfo54 rfl rfl rfl
noncomputable def Z8:TE:=aO Tryz.t56 Tryz.t56
theorem Z9:aH Tryz.prog 56 Z8:=aJ Tryz.underlying56 Tryz.typeInfo56 rfl rfl rfl
noncomputable def aac:TE:=aO Tryz.t58 Tryz.t58
theorem aad:aH Tryz.prog 58 aac:=aJ Tryz.underlying58 Tryz.typeInfo58 rfl rfl rfl
noncomputable def aae:TE:=aO Tryz.t60 Tryz.t60
theorem aaf:aH Tryz.prog 60 aae:=aJ Tryz.underlying60 Tryz.typeInfo60 rfl rfl rfl
noncomputable def aag:TE:=aO Tryz.t63 Tryz.t63
theorem aah:aH Tryz.prog 63 aag:=aJ Tryz.underlying63 Tryz.typeInfo63 rfl rfl rfl
noncomputable def aai:TE:=aO Tryz.t64 Tryz.t64
theorem aaj:aH Tryz.prog 64 aai:=aJ Tryz.underlying64 Tryz.typeInfo64 rfl rfl rfl
noncomputable def aak:TE:=aO Tryz.t65 Tryz.t65
theorem aal:aH Tryz.prog 65 aak:=aJ Tryz.underlying65 Tryz.typeInfo65 rfl rfl rfl
noncomputable def aam:TE:=aO Tryz.t68 Tryz.t68
theorem aan:aH Tryz.prog 68 aam:=aJ Tryz.underlying68 Tryz.typeInfo68 rfl rfl rfl
noncomputable def aao:TE:=aO Tryz.t72 Tryz.t72
theorem aap:aH Tryz.prog 72 aao:=aJ Tryz.underlying72 Tryz.typeInfo72 rfl rfl rfl
noncomputable def aaq:TE:=aO Tryz.t75 Tryz.t75
theorem aar:aH Tryz.prog 75 aaq:=aJ Tryz.underlying75 Tryz.typeInfo75 rfl rfl rfl
noncomputable def aas:TE:=aO Tryz.t77 Tryz.t77
theorem aat:aH Tryz.prog 77 aas:=aJ Tryz.underlying77 Tryz.typeInfo77 rfl rfl rfl
noncomputable def aau:TE:=aO Tryz.t88 Tryz.t88
theorem aav:aH Tryz.prog 88 aau:=aJ Tryz.underlying88 Tryz.typeInfo88 rfl rfl rfl
noncomputable def aaw:TE:=aO Tryz.t90 Tryz.t90
theorem aax:aH Tryz.prog 90 aaw:=aJ Tryz.underlying90 Tryz.typeInfo90 rfl rfl rfl
noncomputable def aay:TE:=aO Tryz.t94 Tryz.t94
theorem aaz:aH Tryz.prog 94 aay:=aJ Tryz.underlying94 Tryz.typeInfo94 rfl rfl rfl
noncomputable def aaA:TE:=aO Tryz.t99 Tryz.t99
theorem aaB:aH Tryz.prog 99 aaA:=aJ Tryz.underlying99 Tryz.typeInfo99 rfl rfl rfl
noncomputable def TW:TE:=jA Tryz.t107 Tryz.t107 [.str,.int .i64]
theorem VP:aH Tryz.prog 107 TW:=iB ⟨Tryz.eqGuardType107,_,by decide,Za⟩ Tryz.underlying107 Tryz.typeInfo107 rfl rfl rfl
noncomputable def TY:TE:=jA Tryz.t108 Tryz.t107 [.str,.int .i64]
theorem VQ:aH Tryz.prog 108 TY:=iB ⟨Tryz.eqGuardType108,_,by decide,Zb⟩ Tryz.underlying108 Tryz.typeInfo108 rfl rfl rfl
noncomputable def Ua:TE:=aO Tryz.t110 Tryz.t110
theorem VR:aH Tryz.prog 110 Ua:=aJ Tryz.underlying110 Tryz.typeInfo110 rfl rfl rfl
noncomputable def Ub:TE:=aO Tryz.t137 Tryz.t137
theorem VT:aH Tryz.prog 137 Ub:=aJ Tryz.underlying137 Tryz.typeInfo137 rfl rfl rfl
noncomputable def Uc:TE:=aO Tryz.t148 Tryz.t148
theorem VU:aH Tryz.prog 148 Uc:=aJ Tryz.underlying148 Tryz.typeInfo148 rfl rfl rfl
noncomputable def Ud:TE:=aO Tryz.t150 Tryz.t150
theorem VW:aH Tryz.prog 150 Ud:=aJ Tryz.underlying150 Tryz.typeInfo150 rfl rfl rfl
noncomputable def Ue:TE:=aO Tryz.t152 Tryz.t152
theorem VX:aH Tryz.prog 152 Ue:=aJ Tryz.underlying152 Tryz.typeInfo152 rfl rfl rfl
noncomputable def Uf:TE:=aO Tryz.t154 Tryz.t154
theorem VY:aH Tryz.prog 154 Uf:=aJ Tryz.underlying154 Tryz.typeInfo154 rfl rfl rfl
noncomputable def zn:TE:=aO Tryz.t155 Tryz.t154
theorem VZ:aH Tryz.prog 155 zn:=aJ Tryz.underlying155 Tryz.typeInfo155 rfl rfl rfl
noncomputable def Ug:TE:=aO Tryz.t156 Tryz.t156
theorem V3:aH Tryz.prog 156 Ug:=aJ Tryz.underlying156 Tryz.typeInfo156 rfl rfl rfl
noncomputable def Uh:TE:=aO Tryz.t157 Tryz.t156
theorem V4:aH Tryz.prog 157 Uh:=aJ Tryz.underlying157 Tryz.typeInfo157 rfl rfl rfl
noncomputable def Ui:TE:=aO Tryz.t160 Tryz.t160
theorem V5:aH Tryz.prog 160 Ui:=aJ Tryz.underlying160 Tryz.typeInfo160 rfl rfl rfl
noncomputable def Uj:TE:=aO Tryz.t161 Tryz.t161
theorem V6:aH Tryz.prog 161 Uj:=aJ Tryz.underlying161 Tryz.typeInfo161 rfl rfl rfl
noncomputable def Uk:TE:=aO Tryz.t162 Tryz.t162
theorem V7:aH Tryz.prog 162 Uk:=aJ Tryz.underlying162 Tryz.typeInfo162 rfl rfl rfl
noncomputable def Ll:TE:=aO Tryz.t163 Tryz.t162
theorem V8:aH Tryz.prog 163 Ll:=aJ Tryz.underlying163 Tryz.typeInfo163 rfl rfl rfl
noncomputable def Ul:TE:=aO Tryz.t164 Tryz.t164
theorem V9:aH Tryz.prog 164 Ul:=aJ Tryz.underlying164 Tryz.typeInfo164 rfl rfl rfl
noncomputable def Um:TE:=aO Tryz.t165 Tryz.t164
theorem Wd:aH Tryz.prog 165 Um:=aJ Tryz.underlying165 Tryz.typeInfo165 rfl rfl rfl
noncomputable def Un:TE:=aO Tryz.t166 Tryz.t166
theorem Wh:aH Tryz.prog 166 Un:=aJ Tryz.underlying166 Tryz.typeInfo166 rfl rfl rfl
noncomputable def Uo:TE:=aO Tryz.t169 Tryz.t169
theorem Wi:aH Tryz.prog 169 Uo:=aJ Tryz.underlying169 Tryz.typeInfo169 rfl rfl rfl
noncomputable def Uq:TE:=aO Tryz.t171 Tryz.t171
theorem Wj:aH Tryz.prog 171 Uq:=aJ Tryz.underlying171 Tryz.typeInfo171 rfl rfl rfl
noncomputable def Ur:TE:=aO Tryz.t172 Tryz.t172
theorem Wm:aH Tryz.prog 172 Ur:=aJ Tryz.underlying172 Tryz.typeInfo172 rfl rfl rfl
noncomputable def Us:TE:=aO Tryz.t176 Tryz.t176
theorem Wn:aH Tryz.prog 176 Us:=aJ Tryz.underlying176 Tryz.typeInfo176 rfl rfl rfl
noncomputable def Ut:TE:=aO Tryz.t177 Tryz.t176
theorem Wo:aH Tryz.prog 177 Ut:=aJ Tryz.underlying177 Tryz.typeInfo177 rfl rfl rfl
noncomputable def Uu:TE:=aO Tryz.t181 Tryz.t181
theorem Wp:aH Tryz.prog 181 Uu:=aJ Tryz.underlying181 Tryz.typeInfo181 rfl rfl rfl
noncomputable def Uv:TE:=aO Tryz.t191 Tryz.t191
theorem Wq:aH Tryz.prog 191 Uv:=aJ Tryz.underlying191 Tryz.typeInfo191 rfl rfl rfl
noncomputable def Uw:TE:=aO Tryz.t193 Tryz.t193
theorem Ws:aH Tryz.prog 193 Uw:=aJ Tryz.underlying193 Tryz.typeInfo193 rfl rfl rfl
noncomputable def Ux:TE:=aO Tryz.t194 Tryz.t194
theorem Wt:aH Tryz.prog 194 Ux:=aJ Tryz.underlying194 Tryz.typeInfo194 rfl rfl rfl
noncomputable def Dp:TE:=aO Tryz.t195 Tryz.t194
theorem Wu:aH Tryz.prog 195 Dp:=aJ Tryz.underlying195 Tryz.typeInfo195 rfl rfl rfl
noncomputable def Uy:TE:=aO Tryz.t196 Tryz.t196
theorem Wv:aH Tryz.prog 196 Uy:=aJ Tryz.underlying196 Tryz.typeInfo196 rfl rfl rfl
noncomputable def Uz:TE:=aO Tryz.t198 Tryz.t198
theorem Ww:aH Tryz.prog 198 Uz:=aJ Tryz.underlying198 Tryz.typeInfo198 rfl rfl rfl
noncomputable def UA:TE:=aO Tryz.t201 Tryz.t201
theorem Wx:aH Tryz.prog 201 UA:=aJ Tryz.underlying201 Tryz.typeInfo201 rfl rfl rfl
noncomputable def UC:TE:=aO Tryz.t202 Tryz.t201
theorem Wy:aH Tryz.prog 202 UC:=aJ Tryz.underlying202 Tryz.typeInfo202 rfl rfl rfl
noncomputable def UD:TE:=aO Tryz.t213 Tryz.t213
theorem Wz:aH Tryz.prog 213 UD:=aJ Tryz.underlying213 Tryz.typeInfo213 rfl rfl rfl
noncomputable def UE:TE:=aO Tryz.t214 Tryz.t214
theorem WA:aH Tryz.prog 214 UE:=aJ Tryz.underlying214 Tryz.typeInfo214 rfl rfl rfl
noncomputable def UF:TE:=aO Tryz.t215 Tryz.t214
theorem WB:aH Tryz.prog 215 UF:=aJ Tryz.underlying215 Tryz.typeInfo215 rfl rfl rfl
noncomputable def UG:TE:=aO Tryz.t218 Tryz.t218
theorem WC:aH Tryz.prog 218 UG:=aJ Tryz.underlying218 Tryz.typeInfo218 rfl rfl rfl
noncomputable def UH:TE:=aO Tryz.t219 Tryz.t218
theorem WE:aH Tryz.prog 219 UH:=aJ Tryz.underlying219 Tryz.typeInfo219 rfl rfl rfl
noncomputable def UJ:TE:=aO Tryz.t221 Tryz.t221
theorem WG:aH Tryz.prog 221 UJ:=aJ Tryz.underlying221 Tryz.typeInfo221 rfl rfl rfl
noncomputable def UK:TE:=aO Tryz.t223 Tryz.t223
theorem WH:aH Tryz.prog 223 UK:=aJ Tryz.underlying223 Tryz.typeInfo223 rfl rfl rfl
noncomputable def UL:TE:=aO Tryz.t227 Tryz.t227
theorem WI:aH Tryz.prog 227 UL:=aJ Tryz.underlying227 Tryz.typeInfo227 rfl rfl rfl
noncomputable def UM:TE:=aO Tryz.t229 Tryz.t229
theorem WJ:aH Tryz.prog 229 UM:=aJ Tryz.underlying229 Tryz.typeInfo229 rfl rfl rfl
noncomputable def UN:TE:=aO Tryz.t231 Tryz.t231
theorem WK:aH Tryz.prog 231 UN:=aJ Tryz.underlying231 Tryz.typeInfo231 rfl rfl rfl
noncomputable def UO:TE:=jA Tryz.t233 Tryz.t233 [.str,.str]
theorem WL:aH Tryz.prog 233 UO:=iB ⟨Tryz.eqGuardType233,_,by decide,Zc⟩ Tryz.underlying233 Tryz.typeInfo233 rfl rfl rfl
noncomputable def UQ:TE:=aO Tryz.t234 Tryz.t234
theorem WM:aH Tryz.prog 234 UQ:=aJ Tryz.underlying234 Tryz.typeInfo234 rfl rfl rfl
noncomputable def UR:TE:=aO Tryz.t252 Tryz.t252
theorem WO:aH Tryz.prog 252 UR:=aJ Tryz.underlying252 Tryz.typeInfo252 rfl rfl rfl
noncomputable def UU:TE:=aO Tryz.t256 Tryz.t256
theorem WQ:aH Tryz.prog 256 UU:=aJ Tryz.underlying256 Tryz.typeInfo256 rfl rfl rfl
noncomputable def UW:TE:=aO Tryz.t259 Tryz.t259
theorem WR:aH Tryz.prog 259 UW:=aJ Tryz.underlying259 Tryz.typeInfo259 rfl rfl rfl
noncomputable def UY:TE:=aO Tryz.t261 Tryz.t261
theorem WS:aH Tryz.prog 261 UY:=aJ Tryz.underlying261 Tryz.typeInfo261 rfl rfl rfl
noncomputable def UZ:TE:=aO Tryz.t262 Tryz.t261
theorem WT:aH Tryz.prog 262 UZ:=aJ Tryz.underlying262 Tryz.typeInfo262 rfl rfl rfl
noncomputable def U0:TE:=aO Tryz.t269 Tryz.t269
theorem WU:aH Tryz.prog 269 U0:=aJ Tryz.underlying269 Tryz.typeInfo269 rfl rfl rfl
noncomputable def U2:TE:=aO Tryz.t272 Tryz.t272
theorem WV:aH Tryz.prog 272 U2:=aJ Tryz.underlying272 Tryz.typeInfo272 rfl rfl rfl
noncomputable def U3:TE:=aO Tryz.t274 Tryz.t274
theorem WW:aH Tryz.prog 274 U3:=aJ Tryz.underlying274 Tryz.typeInfo274 rfl rfl rfl
noncomputable def U4:TE:=aO Tryz.t275 Tryz.t275
theorem WX:aH Tryz.prog 275 U4:=aJ Tryz.underlying275 Tryz.typeInfo275 rfl rfl rfl
noncomputable def U5:TE:=aO Tryz.t278 Tryz.t278
theorem WY:aH Tryz.prog 278 U5:=aJ Tryz.underlying278 Tryz.typeInfo278 rfl rfl rfl
noncomputable def U6:TE:=aO Tryz.t284 Tryz.t284
theorem WZ:aH Tryz.prog 284 U6:=aJ Tryz.underlying284 Tryz.typeInfo284 rfl rfl rfl
noncomputable def U7:TE:=aO Tryz.t285 Tryz.t285
theorem W9:aH Tryz.prog 285 U7:=aJ Tryz.underlying285 Tryz.typeInfo285 rfl rfl rfl
noncomputable def U8:TE:=jA Tryz.t289 Tryz.t289 [.int .u64,.int .u64,.int .u64,.int .u64,.int .u64,.int .u64,.int .u64,.int .u64,.int .u64,.int .u64,.int .u64,.int .u64,.int .u64,.int .u64,.int .u64,.int .u64,.int .u64,.int .u64,.int .u64,.int .u64]
theorem Xa:aH Tryz.prog 289 U8:=iB ⟨Tryz.eqGuardType289,_,by decide,Zf⟩ Tryz.underlying289 Tryz.typeInfo289 rfl rfl rfl
noncomputable def U9:TE:=aO Tryz.t290 Tryz.t290
theorem Xb:aH Tryz.prog 290 U9:=aJ Tryz.underlying290 Tryz.typeInfo290 rfl rfl rfl
noncomputable def Va:TE:=aO Tryz.t292 Tryz.t3
theorem Xc:aH Tryz.prog 292 Va:=aJ Tryz.underlying292 Tryz.typeInfo292 rfl rfl rfl
noncomputable def Vb:TE:=aO Tryz.t293 Tryz.t293
theorem Xd:aH Tryz.prog 293 Vb:=aJ Tryz.underlying293 Tryz.typeInfo293 rfl rfl rfl
noncomputable def Vd:TE:=aO Tryz.t299 Tryz.t299
theorem Xe:aH Tryz.prog 299 Vd:=aJ Tryz.underlying299 Tryz.typeInfo299 rfl rfl rfl
noncomputable def Ve:TE:=jA Tryz.t300 Tryz.t300 [.int .u8,.int .u8]
theorem Xf:aH Tryz.prog 300 Ve:=iB ⟨Tryz.eqGuardType300,_,by decide,Zd⟩ Tryz.underlying300 Tryz.typeInfo300 rfl rfl rfl
noncomputable def Vf:TE:=jA Tryz.t301 Tryz.t300 [.int .u8,.int .u8]
theorem Xg:aH Tryz.prog 301 Vf:=iB ⟨Tryz.eqGuardType301,_,by decide,Ze⟩ Tryz.underlying301 Tryz.typeInfo301 rfl rfl rfl
noncomputable def Vg:TE:=aO Tryz.t302 Tryz.t302
theorem Xh:aH Tryz.prog 302 Vg:=aJ Tryz.underlying302 Tryz.typeInfo302 rfl rfl rfl
noncomputable def Vh:TE:=aO Tryz.t303 Tryz.t303
theorem Xi:aH Tryz.prog 303 Vh:=aJ Tryz.underlying303 Tryz.typeInfo303 rfl rfl rfl
noncomputable def Vi:TE:=aO Tryz.t305 Tryz.t3
theorem Xj:aH Tryz.prog 305 Vi:=aJ Tryz.underlying305 Tryz.typeInfo305 rfl rfl rfl
noncomputable def Vj:TE:=aO Tryz.t306 Tryz.t306
theorem Xk:aH Tryz.prog 306 Vj:=aJ Tryz.underlying306 Tryz.typeInfo306 rfl rfl rfl
noncomputable def Vk:TE:=aO Tryz.t308 Tryz.t308
theorem Xl:aH Tryz.prog 308 Vk:=aJ Tryz.underlying308 Tryz.typeInfo308 rfl rfl rfl
noncomputable def Vl:TE:=aO Tryz.t311 Tryz.t275
theorem Xm:aH Tryz.prog 311 Vl:=aJ Tryz.underlying311 Tryz.typeInfo311 rfl rfl rfl
noncomputable def Vm:TE:=aO Tryz.t315 Tryz.t315
theorem Xn:aH Tryz.prog 315 Vm:=aJ Tryz.underlying315 Tryz.typeInfo315 rfl rfl rfl
noncomputable def Vn:TE:=aO Tryz.t317 Tryz.t317
theorem Xo:aH Tryz.prog 317 Vn:=aJ Tryz.underlying317 Tryz.typeInfo317 rfl rfl rfl
noncomputable def Vo:TE:=aO Tryz.t320 Tryz.t320
theorem Xp:aH Tryz.prog 320 Vo:=aJ Tryz.underlying320 Tryz.typeInfo320 rfl rfl rfl
noncomputable def Vp:TE:=aO Tryz.t321 Tryz.t320
theorem Xq:aH Tryz.prog 321 Vp:=aJ Tryz.underlying321 Tryz.typeInfo321 rfl rfl rfl
noncomputable def Vq:TE:=aO Tryz.t323 Tryz.t323
theorem Xr:aH Tryz.prog 323 Vq:=aJ Tryz.underlying323 Tryz.typeInfo323 rfl rfl rfl
noncomputable def Vr:TE:=aO Tryz.t324 Tryz.t324
theorem Xt:aH Tryz.prog 324 Vr:=aJ Tryz.underlying324 Tryz.typeInfo324 rfl rfl rfl
noncomputable def Vs:TE:=aO Tryz.t327 Tryz.t327
theorem Xu:aH Tryz.prog 327 Vs:=aJ Tryz.underlying327 Tryz.typeInfo327 rfl rfl rfl
noncomputable def Vt:TE:=jA Tryz.t328 Tryz.t328 [.str]
theorem Xv:aH Tryz.prog 328 Vt:=iB ⟨Tryz.eqGuardType328,_,by decide,Y8⟩ Tryz.underlying328 Tryz.typeInfo328 rfl rfl rfl
noncomputable def Vu:TE:=jA Tryz.t329 Tryz.t328 [.str]
theorem Xw:aH Tryz.prog 329 Vu:=iB ⟨Tryz.eqGuardType329,_,by decide,Y9⟩ Tryz.underlying329 Tryz.typeInfo329 rfl rfl rfl
noncomputable def tab:TT:=(.node 165 (.node 54 (.node 26 (.node 9 (.node 4 (.node 2 (.leaf 0 te0) (.node 3 (.leaf 2 te2) (.leaf 3 te3))) (.node 6 (.node 5 (.leaf 4 te4) (.leaf 5 te5)) (.node 7 (.leaf 6 te6) (.leaf 7 te7)))) (.node 22 (.node 20 (.node 16 (.leaf 9 te9) (.leaf 16 Zg)) (.node 21 (.leaf 20 Zi) (.leaf 21 Zk))) (.node 24 (.node 23 (.leaf 22 Zm) (.leaf 23 Zo)) (.node 25 (.leaf 24 Zq) (.leaf 25 Zt))))) (.node 36 (.node 32 (.node 30 (.node 27 (.leaf 26 Zv) (.leaf 27 Zx)) (.node 31 (.leaf 30 Zz) (.leaf 31 ZB))) (.node 34 (.node 33 (.leaf 32 ZE) (.leaf 33 ZG)) (.node 35 (.leaf 34 ZI) (.leaf 35 ZK)))) (.node 41 (.node 39 (.node 37 (.leaf 36 ZM) (.leaf 37 ZO)) (.node 40 (.leaf 39 ZQ) (.leaf 40 E8))) (.node 50 (.node 45 (.leaf 41 ZU) (.leaf 45 ZW)) (.node 53 (.leaf 50 ZY) (.leaf 53 Z4)))))) (.node 107 (.node 68 (.node 60 (.node 56 (.leaf 54 Z6) (.node 58 (.leaf 56 Z8) (.leaf 58 aac))) (.node 64 (.node 63 (.leaf 60 aae) (.leaf 63 aag)) (.node 65 (.leaf 64 aai) (.leaf 65 aak)))) (.node 88 (.node 75 (.node 72 (.leaf 68 aam) (.leaf 72 aao)) (.node 77 (.leaf 75 aaq) (.leaf 77 aas))) (.node 94 (.node 90 (.leaf 88 aau) (.leaf 90 aaw)) (.node 99 (.leaf 94 aay) (.leaf 99 aaA))))) (.node 155 (.node 148 (.node 110 (.node 108 (.leaf 107 TW) (.leaf 108 TY)) (.node 137 (.leaf 110 Ua) (.leaf 137 Ub))) (.node 152 (.node 150 (.leaf 148 Uc) (.leaf 150 Ud)) (.node 154 (.leaf 152 Ue) (.leaf 154 Uf)))) (.node 161 (.node 157 (.node 156 (.leaf 155 zn) (.leaf 156 Ug)) (.node 160 (.leaf 157 Uh) (.leaf 160 Ui))) (.node 163 (.node 162 (.leaf 161 Uj) (.leaf 162 Uk)) (.node 164 (.leaf 163 Ll) (.leaf 164 Ul))))))) (.node 261 (.node 202 (.node 181 (.node 171 (.node 166 (.leaf 165 Um) (.node 169 (.leaf 166 Un) (.leaf 169 Uo))) (.node 176 (.node 172 (.leaf 171 Uq) (.leaf 172 Ur)) (.node 177 (.leaf 176 Us) (.leaf 177 Ut)))) (.node 195 (.node 193 (.node 191 (.leaf 181 Uu) (.leaf 191 Uv)) (.node 194 (.leaf 193 Uw) (.leaf 194 Ux))) (.node 198 (.node 196 (.leaf 195 Dp) (.leaf 196 Uy)) (.node 201 (.leaf 198 Uz) (.leaf 201 UA))))) (.node 227 (.node 218 (.node 214 (.node 213 (.leaf 202 UC) (.leaf 213 UD)) (.node 215 (.leaf 214 UE) (.leaf 215 UF))) (.node 221 (.node 219 (.leaf 218 UG) (.leaf 219 UH)) (.node 223 (.leaf 221 UJ) (.leaf 223 UK)))) (.node 234 (.node 231 (.node 229 (.leaf 227 UL) (.leaf 229 UM)) (.node 233 (.leaf 231 UN) (.leaf 233 UO))) (.node 256 (.node 252 (.leaf 234 UQ) (.leaf 252 UR)) (.node 259 (.leaf 256 UU) (.leaf 259 UW)))))) (.node 301 (.node 284 (.node 272 (.node 262 (.leaf 261 UY) (.node 269 (.leaf 262 UZ) (.leaf 269 U0))) (.node 275 (.node 274 (.leaf 272 U2) (.leaf 274 U3)) (.node 278 (.leaf 275 U4) (.leaf 278 U5)))) (.node 292 (.node 289 (.node 285 (.leaf 284 U6) (.leaf 285 U7)) (.node 290 (.leaf 289 U8) (.leaf 290 U9))) (.node 299 (.node 293 (.leaf 292 Va) (.leaf 293 Vb)) (.node 300 (.leaf 299 Vd) (.leaf 300 Ve))))) (.node 317 (.node 306 (.node 303 (.node 302 (.leaf 301 Vf) (.leaf 302 Vg)) (.node 305 (.leaf 303 Vh) (.leaf 305 Vi))) (.node 311 (.node 308 (.leaf 306 Vj) (.leaf 308 Vk)) (.node 315 (.leaf 311 Vl) (.leaf 315 Vm)))) (.node 324 (.node 321 (.node 320 (.leaf 317 Vn) (.leaf 320 Vo)) (.node 323 (.leaf 321 Vp) (.leaf 323 Vq))) (.node 328 (.node 327 (.leaf 324 Vr) (.leaf 327 Vs)) (.node 329 (.leaf 328 Vt) (.leaf 329 Vu))))))))
theorem ak:aV Tryz.prog tab.get:=QY ⟨⟨⟨⟨⟨⟨abK,⟨abL,abM⟩⟩,⟨⟨abN,abO⟩,⟨abP,abQ⟩⟩⟩,⟨⟨⟨abR,Zh⟩,⟨Zj,Zl⟩⟩,⟨⟨Zn,Zp⟩,⟨Zr,Zu⟩⟩⟩⟩,⟨⟨⟨⟨Zw,Zy⟩,⟨ZA,ZC⟩⟩,⟨⟨ZF,ZH⟩,⟨ZJ,ZL⟩⟩⟩,⟨⟨⟨ZN,ZP⟩,⟨ZR,ZT⟩⟩,⟨⟨ZV,ZX⟩,⟨Z0,Z5⟩⟩⟩⟩⟩,⟨⟨⟨⟨Z7,⟨Z9,aad⟩⟩,⟨⟨aaf,aah⟩,⟨aaj,aal⟩⟩⟩,⟨⟨⟨aan,aap⟩,⟨aar,aat⟩⟩,⟨⟨aav,aax⟩,⟨aaz,aaB⟩⟩⟩⟩,⟨⟨⟨⟨VP,VQ⟩,⟨VR,VT⟩⟩,⟨⟨VU,VW⟩,⟨VX,VY⟩⟩⟩,⟨⟨⟨VZ,V3⟩,⟨V4,V5⟩⟩,⟨⟨V6,V7⟩,⟨V8,V9⟩⟩⟩⟩⟩⟩,⟨⟨⟨⟨⟨Wd,⟨Wh,Wi⟩⟩,⟨⟨Wj,Wm⟩,⟨Wn,Wo⟩⟩⟩,⟨⟨⟨Wp,Wq⟩,⟨Ws,Wt⟩⟩,⟨⟨Wu,Wv⟩,⟨Ww,Wx⟩⟩⟩⟩,⟨⟨⟨⟨Wy,Wz⟩,⟨WA,WB⟩⟩,⟨⟨WC,WE⟩,⟨WG,WH⟩⟩⟩,⟨⟨⟨WI,WJ⟩,⟨WK,WL⟩⟩,⟨⟨WM,WO⟩,⟨WQ,WR⟩⟩⟩⟩⟩,⟨⟨⟨⟨WS,⟨WT,WU⟩⟩,⟨⟨WV,WW⟩,⟨WX,WY⟩⟩⟩,⟨⟨⟨WZ,W9⟩,⟨Xa,Xb⟩⟩,⟨⟨Xc,Xd⟩,⟨Xe,Xf⟩⟩⟩⟩,⟨⟨⟨⟨Xg,Xh⟩,⟨Xi,Xj⟩⟩,⟨⟨Xk,Xl⟩,⟨Xm,Xn⟩⟩⟩,⟨⟨⟨Xo,Xp⟩,⟨Xq,Xr⟩⟩,⟨⟨Xt,Xu⟩,⟨Xv,Xw⟩⟩⟩⟩⟩⟩⟩
theorem mixed:Tryz.prog.follows .mixedOrders=true:=by rfl
end Go.Eng.YtcechbdgokjmgaaGreatDoor
namespace Go.Proofs
open Go.Shelf
def Tryz.lays103_ren:Go.Shelf.Ren:=⟨fun|103=>229|210=>249|206=>270|n=>n,fun|9=>9|4=>4|24=>272|3=>3|n=>n,fun|n=>n⟩
theorem Tryz.lays103:Go.Proofs.Lays.n103 Tryz.prog Tryz.lays103_ren:={
 mixed:=by kernel_rfl
 f103:=Tryz.func229.trans (congrArg some (by kernel_rfl))
 f206:=Tryz.func270.trans (congrArg some (by kernel_rfl))
 f210:=Tryz.func249.trans (congrArg some (by kernel_rfl))
 t3:=Tryz.underlying3
 a3:=Tryz.isAgg3
 z3:=Tryz.sizeOf3
 v3:=Tryz.zeroValue3
 t4:=Tryz.underlying4
 a4:=Tryz.isAgg4
 z4:=Tryz.sizeOf4
 v4:=Tryz.zeroValue4
 t9:=Tryz.underlying9
 a9:=Tryz.isAgg9
 z9:=Tryz.sizeOf9
 v9:=Tryz.zeroValue9
 t24:=Tryz.underlying272
 a24:=Tryz.isAgg272
 z24:=Tryz.sizeOf272
 v24:=Tryz.zeroValue272}
open Go.RowKit in
theorem Tryz.strings_CutPrefix (s p:ByteArray) (w:World):
 Calls Tryz.prog 229 #[.string s,.string p] w fun e w'=>e=.returned (.tuple #[.string ⟨(Lib.trimPrefix s.data.toList p.data.toList).toArray⟩,.bool (Lib.hasPrefix s.data.toList p.data.toList)])∧w'=w:=Any.strings_CutPrefix Tryz.lays103 s p w
def Tryz.lays172_ren:Go.Shelf.Ren:=⟨fun|172=>230|244=>250|245=>251|247=>271|279=>272|280=>273|281=>274|282=>275|287=>283|316=>284|171=>129|205=>285|321=>287|322=>288|243=>171|246=>209|283=>233|284=>234|285=>235|286=>236|129=>253|317=>252|318=>254|319=>255|320=>256|337=>220|338=>276|n=>n,fun|9=>9|3=>3|75=>165|76=>166|4=>4|5=>5|167=>305|37=>161|0=>0|85=>306|2=>2|168=>308|53=>275|175=>317|46=>284|210=>321|127=>229|145=>329|143=>327|21=>21|171=>274|173=>278|212=>289|51=>154|20=>20|213=>290|232=>285|233=>323|80=>173|n=>n,fun|15=>5|16=>6|17=>2|18=>0|19=>7|n=>n⟩
theorem Tryz.lays172:Go.Proofs.Lays.n172 Tryz.prog Tryz.lays172_ren:={
 mixed:=by kernel_rfl
 f129:=Tryz.func253.trans (congrArg some (by kernel_rfl))
 f171:=Tryz.func129.trans (congrArg some (by kernel_rfl))
 f172:=Tryz.func230.trans (congrArg some (by kernel_rfl))
 f205:=Tryz.func285.trans (congrArg some (by kernel_rfl))
 f243:=Tryz.func171.trans (congrArg some (by kernel_rfl))
 f244:=Tryz.func250.trans (congrArg some (by kernel_rfl))
 f245:=Tryz.func251.trans (congrArg some (by kernel_rfl))
 f246:=Tryz.func209.trans (congrArg some (by kernel_rfl))
 f247:=Tryz.func271.trans (congrArg some (by kernel_rfl))
 f279:=Tryz.func272.trans (congrArg some (by kernel_rfl))
 f280:=Tryz.func273.trans (congrArg some (by kernel_rfl))
 f281:=Tryz.func274.trans (congrArg some (by kernel_rfl))
 f282:=Tryz.func275.trans (congrArg some (by kernel_rfl))
 f283:=Tryz.func233.trans (congrArg some (by kernel_rfl))
 f284:=Tryz.func234.trans (congrArg some (by kernel_rfl))
 f285:=Tryz.func235.trans (congrArg some (by kernel_rfl))
 f286:=Tryz.func236.trans (congrArg some (by kernel_rfl))
 f287:=Tryz.func283.trans (congrArg some (by kernel_rfl))
 f316:=Tryz.func284.trans (congrArg some (by kernel_rfl))
 f317:=Tryz.func252.trans (congrArg some (by kernel_rfl))
 f318:=Tryz.func254.trans (congrArg some (by kernel_rfl))
 f319:=Tryz.func255.trans (congrArg some (by kernel_rfl))
 f320:=Tryz.func256.trans (congrArg some (by kernel_rfl))
 f321:=Tryz.func287.trans (congrArg some (by kernel_rfl))
 f322:=Tryz.func288.trans (congrArg some (by kernel_rfl))
 f337:=Tryz.func220.trans (congrArg some (by kernel_rfl))
 f338:=Tryz.func276.trans (congrArg some (by kernel_rfl))
 t0:=Tryz.underlying0
 a0:=Tryz.isAgg0
 z0:=Tryz.sizeOf0
 v0:=Tryz.zeroValue0
 t2:=Tryz.underlying2
 a2:=Tryz.isAgg2
 z2:=Tryz.sizeOf2
 v2:=Tryz.zeroValue2
 t3:=Tryz.underlying3
 a3:=Tryz.isAgg3
 z3:=Tryz.sizeOf3
 v3:=Tryz.zeroValue3
 t4:=Tryz.underlying4
 a4:=Tryz.isAgg4
 z4:=Tryz.sizeOf4
 v4:=Tryz.zeroValue4
 t5:=Tryz.underlying5
 a5:=Tryz.isAgg5
 z5:=Tryz.sizeOf5
 v5:=Tryz.zeroValue5
 t9:=Tryz.underlying9
 a9:=Tryz.isAgg9
 z9:=Tryz.sizeOf9
 v9:=Tryz.zeroValue9
 t20:=Tryz.underlying20
 a20:=Tryz.isAgg20
 z20:=Tryz.sizeOf20
 v20:=Tryz.zeroValue20
 t21:=Tryz.underlying21
 a21:=Tryz.isAgg21
 z21:=Tryz.sizeOf21
 v21:=Tryz.zeroValue21
 t37:=Tryz.underlying161
 a37:=Tryz.isAgg161
 z37:=Tryz.sizeOf161
 v37:=Tryz.zeroValue161
 t46:=Tryz.underlying284
 a46:=Tryz.isAgg284
 z46:=Tryz.sizeOf284
 v46:=Tryz.zeroValue284
 t51:=Tryz.underlying154
 a51:=Tryz.isAgg154
 z51:=Tryz.sizeOf154
 v51:=Tryz.zeroValue154
 t53:=Tryz.underlying275
 a53:=Tryz.isAgg275
 z53:=Tryz.sizeOf275
 v53:=Tryz.zeroValue275
 t75:=Tryz.underlying165
 a75:=Tryz.isAgg165
 z75:=Tryz.sizeOf165
 v75:=Tryz.zeroValue165
 t76:=Tryz.underlying166
 a76:=Tryz.isAgg166
 z76:=Tryz.sizeOf166
 v76:=Tryz.zeroValue166
 t85:=Tryz.underlying306
 a85:=Tryz.isAgg306
 z85:=Tryz.sizeOf306
 v85:=Tryz.zeroValue306
 t127:=Tryz.underlying229
 a127:=Tryz.isAgg229
 z127:=Tryz.sizeOf229
 v127:=Tryz.zeroValue229
 t143:=Tryz.underlying327
 a143:=Tryz.isAgg327
 z143:=Tryz.sizeOf327
 v143:=Tryz.zeroValue327
 t145:=Tryz.underlying329
 a145:=Tryz.isAgg329
 z145:=Tryz.sizeOf329
 v145:=Tryz.zeroValue329
 t167:=Tryz.underlying305
 a167:=Tryz.isAgg305
 z167:=Tryz.sizeOf305
 v167:=Tryz.zeroValue305
 t168:=Tryz.underlying308
 a168:=Tryz.isAgg308
 z168:=Tryz.sizeOf308
 v168:=Tryz.zeroValue308
 t171:=Tryz.underlying274
 a171:=Tryz.isAgg274
 z171:=Tryz.sizeOf274
 v171:=Tryz.zeroValue274
 t173:=Tryz.underlying278
 a173:=Tryz.isAgg278
 z173:=Tryz.sizeOf278
 v173:=Tryz.zeroValue278
 t175:=Tryz.underlying317
 a175:=Tryz.isAgg317
 z175:=Tryz.sizeOf317
 v175:=Tryz.zeroValue317
 t210:=Tryz.underlying321
 a210:=Tryz.isAgg321
 z210:=Tryz.sizeOf321
 v210:=Tryz.zeroValue321
 t212:=Tryz.underlying289
 a212:=Tryz.isAgg289
 z212:=Tryz.sizeOf289
 v212:=Tryz.zeroValue289
 t213:=Tryz.underlying290
 a213:=Tryz.isAgg290
 z213:=Tryz.sizeOf290
 t232:=Tryz.underlying285
 a232:=Tryz.isAgg285
 z232:=Tryz.sizeOf285
 v232:=Tryz.zeroValue285
 t233:=Tryz.underlying323
 a233:=Tryz.isAgg323
 z233:=Tryz.sizeOf323
 v233:=Tryz.zeroValue323
 g15:=by kernel_rfl
 g16:=by kernel_rfl
 g17:=by kernel_rfl
 g18:=by kernel_rfl
 g19:=by kernel_rfl}
open Go.RowKit in
theorem Tryz.strconv_Atoi (s:ByteArray) (n:Int) (hl:s.size≤18) (h:Lib.atoi s.data.toList=some n) (w:World):
 Calls Tryz.prog 230 #[.string s] w fun e w'=>e=.returned (.tuple #[.int .i64 n,.nilIface])∧∃t,w'=Lib.bytesWorld w 5 t:=Any.strconv_Atoi Tryz.lays172 s n hl h w
def Tryz.lays143_ren:Go.Shelf.Ren:=⟨fun|143=>201|219=>228|217=>245|225=>246|224=>247|267=>248|266=>268|314=>269|n=>n,fun|9=>9|3=>3|4=>4|5=>5|46=>284|146=>303|51=>154|n=>n,fun|1=>1|n=>n⟩
theorem Tryz.lays143:Go.Proofs.Lays.n143 Tryz.prog Tryz.lays143_ren:={
 mixed:=by kernel_rfl
 f143:=Tryz.func201.trans (congrArg some (by kernel_rfl))
 f217:=Tryz.func245.trans (congrArg some (by kernel_rfl))
 f219:=Tryz.func228.trans (congrArg some (by kernel_rfl))
 f224:=Tryz.func247.trans (congrArg some (by kernel_rfl))
 f225:=Tryz.func246.trans (congrArg some (by kernel_rfl))
 f266:=Tryz.func268.trans (congrArg some (by kernel_rfl))
 f267:=Tryz.func248.trans (congrArg some (by kernel_rfl))
 f314:=Tryz.func269.trans (congrArg some (by kernel_rfl))
 t3:=Tryz.underlying3
 a3:=Tryz.isAgg3
 z3:=Tryz.sizeOf3
 v3:=Tryz.zeroValue3
 t4:=Tryz.underlying4
 a4:=Tryz.isAgg4
 z4:=Tryz.sizeOf4
 v4:=Tryz.zeroValue4
 t5:=Tryz.underlying5
 a5:=Tryz.isAgg5
 z5:=Tryz.sizeOf5
 v5:=Tryz.zeroValue5
 t9:=Tryz.underlying9
 a9:=Tryz.isAgg9
 z9:=Tryz.sizeOf9
 v9:=Tryz.zeroValue9
 t46:=Tryz.underlying284
 a46:=Tryz.isAgg284
 z46:=Tryz.sizeOf284
 v46:=Tryz.zeroValue284
 t51:=Tryz.underlying154
 a51:=Tryz.isAgg154
 z51:=Tryz.sizeOf154
 v51:=Tryz.zeroValue154
 t146:=Tryz.underlying303
 a146:=Tryz.isAgg303
 z146:=Tryz.sizeOf303
 v146:=Tryz.zeroValue303
 g1:=by kernel_rfl}
open Go.RowKit Go.Lib in
theorem Tryz.strings_Index_one (s:ByteArray) (c:UInt8) (w:World):
 Calls Tryz.prog 201 #[.string s,.string ⟨#[c]⟩] w fun e w'=>e=.returned (.int .i64 (Lib.indexByte s.data.toList c))∧w'=w:=Any.strings_Index_one Tryz.lays143 s c w
def Tryz.lays138_ren:Go.Shelf.Ren:=⟨fun|138=>200|195=>225|218=>227|143=>201|219=>228|217=>245|225=>246|224=>247|267=>248|266=>268|314=>269|n=>n,fun|9=>9|3=>3|4=>4|5=>5|0=>0|46=>284|146=>303|51=>154|n=>n,fun|1=>1|n=>n⟩
theorem Tryz.lays138:Go.Proofs.Lays.n138 Tryz.prog Tryz.lays138_ren:={
 mixed:=by kernel_rfl
 f138:=Tryz.func200.trans (congrArg some (by kernel_rfl))
 f143:=Tryz.func201.trans (congrArg some (by kernel_rfl))
 f195:=Tryz.func225.trans (congrArg some (by kernel_rfl))
 f217:=Tryz.func245.trans (congrArg some (by kernel_rfl))
 f218:=Tryz.func227.trans (congrArg some (by kernel_rfl))
 f219:=Tryz.func228.trans (congrArg some (by kernel_rfl))
 f224:=Tryz.func247.trans (congrArg some (by kernel_rfl))
 f225:=Tryz.func246.trans (congrArg some (by kernel_rfl))
 f266:=Tryz.func268.trans (congrArg some (by kernel_rfl))
 f267:=Tryz.func248.trans (congrArg some (by kernel_rfl))
 f314:=Tryz.func269.trans (congrArg some (by kernel_rfl))
 t0:=Tryz.underlying0
 a0:=Tryz.isAgg0
 z0:=Tryz.sizeOf0
 v0:=Tryz.zeroValue0
 t3:=Tryz.underlying3
 a3:=Tryz.isAgg3
 z3:=Tryz.sizeOf3
 v3:=Tryz.zeroValue3
 t4:=Tryz.underlying4
 a4:=Tryz.isAgg4
 z4:=Tryz.sizeOf4
 v4:=Tryz.zeroValue4
 t5:=Tryz.underlying5
 a5:=Tryz.isAgg5
 z5:=Tryz.sizeOf5
 v5:=Tryz.zeroValue5
 t9:=Tryz.underlying9
 a9:=Tryz.isAgg9
 z9:=Tryz.sizeOf9
 v9:=Tryz.zeroValue9
 t46:=Tryz.underlying284
 a46:=Tryz.isAgg284
 z46:=Tryz.sizeOf284
 v46:=Tryz.zeroValue284
 t51:=Tryz.underlying154
 a51:=Tryz.isAgg154
 z51:=Tryz.sizeOf154
 v51:=Tryz.zeroValue154
 t146:=Tryz.underlying303
 a146:=Tryz.isAgg303
 z146:=Tryz.sizeOf303
 v146:=Tryz.zeroValue303
 g1:=by kernel_rfl}
open Go.RowKit Go.Lib in
theorem Tryz.strings_Count_one (s:ByteArray) (c:UInt8) (w:World):
 Calls Tryz.prog 200 #[.string s,.string ⟨#[c]⟩] w fun e w'=>e=.returned (.int .i64 (Lib.countByte s.data.toList c))∧w'=w:=Any.strings_Count_one Tryz.lays138 s c w
def Tryz.lays100_ren:Go.Shelf.Ren:=⟨fun|100=>112|207=>159|n=>n,fun|9=>9|4=>4|3=>3|n=>n,fun|n=>n⟩
theorem Tryz.lays100:Go.Proofs.Lays.n100 Tryz.prog Tryz.lays100_ren:={
 mixed:=by kernel_rfl
 f100:=Tryz.func112.trans (congrArg some (by kernel_rfl))
 f207:=Tryz.func159.trans (congrArg some (by kernel_rfl))
 t3:=Tryz.underlying3
 a3:=Tryz.isAgg3
 z3:=Tryz.sizeOf3
 v3:=Tryz.zeroValue3
 t4:=Tryz.underlying4
 a4:=Tryz.isAgg4
 z4:=Tryz.sizeOf4
 v4:=Tryz.zeroValue4
 t9:=Tryz.underlying9
 a9:=Tryz.isAgg9
 z9:=Tryz.sizeOf9
 v9:=Tryz.zeroValue9}
open Go.RowKit Go.Lib in
theorem Tryz.strings_HasSuffix (s p:ByteArray) (w:World) (hs:s.size≤9223372036854775807):
 Calls Tryz.prog 112 #[.string s,.string p] w fun e w'=>e=.returned (.bool (Lib.hasSuffix s.data.toList p.data.toList))∧w'=w:=Any.strings_HasSuffix Tryz.lays100 s p w hs
def Tryz.lays102_ren:Go.Shelf.Ren:=⟨fun|102=>114|209=>161|207=>159|n=>n,fun|9=>9|4=>4|3=>3|n=>n,fun|n=>n⟩
theorem Tryz.lays102:Go.Proofs.Lays.n102 Tryz.prog Tryz.lays102_ren:={
 mixed:=by kernel_rfl
 f102:=Tryz.func114.trans (congrArg some (by kernel_rfl))
 f207:=Tryz.func159.trans (congrArg some (by kernel_rfl))
 f209:=Tryz.func161.trans (congrArg some (by kernel_rfl))
 t3:=Tryz.underlying3
 a3:=Tryz.isAgg3
 z3:=Tryz.sizeOf3
 v3:=Tryz.zeroValue3
 t4:=Tryz.underlying4
 a4:=Tryz.isAgg4
 z4:=Tryz.sizeOf4
 v4:=Tryz.zeroValue4
 t9:=Tryz.underlying9
 a9:=Tryz.isAgg9
 z9:=Tryz.sizeOf9
 v9:=Tryz.zeroValue9}
open Go.RowKit Go.Lib in
theorem Tryz.strings_TrimSuffix (s p:ByteArray) (w:World) (hs:s.size≤9223372036854775807):
 Calls Tryz.prog 114 #[.string s,.string p] w fun e w'=>e=.returned (.string ⟨(Lib.trimSuffix s.data.toList p.data.toList).toArray⟩)∧w'=w:=Any.strings_TrimSuffix Tryz.lays102 s p w hs
def Tryz.lays221_ren:Go.Shelf.Ren:=⟨fun|221=>160|268=>199|138=>200|143=>201|195=>225|197=>226|218=>227|219=>228|260=>244|217=>245|225=>246|224=>247|267=>248|266=>268|314=>269|n=>n,fun|9=>9|3=>3|31=>169|4=>4|0=>0|105=>269|21=>21|5=>5|46=>284|119=>299|139=>302|138=>301|146=>303|51=>154|n=>n,fun|1=>1|3=>3|4=>4|n=>n⟩
theorem Tryz.lays221:Go.Proofs.Lays.n221 Tryz.prog Tryz.lays221_ren:={
 mixed:=by kernel_rfl
 f138:=Tryz.func200.trans (congrArg some (by kernel_rfl))
 f143:=Tryz.func201.trans (congrArg some (by kernel_rfl))
 f195:=Tryz.func225.trans (congrArg some (by kernel_rfl))
 f197:=Tryz.func226.trans (congrArg some (by kernel_rfl))
 f217:=Tryz.func245.trans (congrArg some (by kernel_rfl))
 f218:=Tryz.func227.trans (congrArg some (by kernel_rfl))
 f219:=Tryz.func228.trans (congrArg some (by kernel_rfl))
 f221:=Tryz.func160.trans (congrArg some (by kernel_rfl))
 f224:=Tryz.func247.trans (congrArg some (by kernel_rfl))
 f225:=Tryz.func246.trans (congrArg some (by kernel_rfl))
 f260:=Tryz.func244.trans (congrArg some (by kernel_rfl))
 f266:=Tryz.func268.trans (congrArg some (by kernel_rfl))
 f267:=Tryz.func248.trans (congrArg some (by kernel_rfl))
 f268:=Tryz.func199.trans (congrArg some (by kernel_rfl))
 f314:=Tryz.func269.trans (congrArg some (by kernel_rfl))
 t0:=Tryz.underlying0
 a0:=Tryz.isAgg0
 z0:=Tryz.sizeOf0
 v0:=Tryz.zeroValue0
 t3:=Tryz.underlying3
 a3:=Tryz.isAgg3
 z3:=Tryz.sizeOf3
 v3:=Tryz.zeroValue3
 t4:=Tryz.underlying4
 a4:=Tryz.isAgg4
 z4:=Tryz.sizeOf4
 v4:=Tryz.zeroValue4
 t5:=Tryz.underlying5
 a5:=Tryz.isAgg5
 z5:=Tryz.sizeOf5
 v5:=Tryz.zeroValue5
 t9:=Tryz.underlying9
 a9:=Tryz.isAgg9
 z9:=Tryz.sizeOf9
 v9:=Tryz.zeroValue9
 t21:=Tryz.underlying21
 a21:=Tryz.isAgg21
 z21:=Tryz.sizeOf21
 v21:=Tryz.zeroValue21
 t31:=Tryz.underlying169
 a31:=Tryz.isAgg169
 z31:=Tryz.sizeOf169
 v31:=Tryz.zeroValue169
 t46:=Tryz.underlying284
 a46:=Tryz.isAgg284
 z46:=Tryz.sizeOf284
 v46:=Tryz.zeroValue284
 t51:=Tryz.underlying154
 a51:=Tryz.isAgg154
 z51:=Tryz.sizeOf154
 v51:=Tryz.zeroValue154
 t105:=Tryz.underlying269
 a105:=Tryz.isAgg269
 z105:=Tryz.sizeOf269
 v105:=Tryz.zeroValue269
 t119:=Tryz.underlying299
 a119:=Tryz.isAgg299
 z119:=Tryz.sizeOf299
 t138:=Tryz.underlying301
 a138:=Tryz.isAgg301
 z138:=Tryz.sizeOf301
 v138:=Tryz.zeroValue301
 t139:=Tryz.underlying302
 a139:=Tryz.isAgg302
 z139:=Tryz.sizeOf302
 v139:=Tryz.zeroValue302
 t146:=Tryz.underlying303
 a146:=Tryz.isAgg303
 z146:=Tryz.sizeOf303
 v146:=Tryz.zeroValue303
 g1:=by kernel_rfl
 g3:=by kernel_rfl
 g4:=by kernel_rfl}
open Go.RowKit Go.Lib in
theorem Tryz.genSplit_one (s:ByteArray) (c:UInt8) (w:World) (hs:s.size<4294967281):
 Calls Tryz.prog 160 #[.string s,.string ⟨#[c]⟩,.int .i64 (0:Nat),.int .i64 (-1)] w fun e w'=>
  e=.returned (.slice (some ⟨w.heap.size,0,none⟩) (Lib.splitB ⟨#[c]⟩ 0 (Lib.countB s ⟨#[c]⟩) s).length (Lib.countB s ⟨#[c]⟩+1))∧w'=w.alloc (.cells (Lib.cellsOf (Lib.splitB ⟨#[c]⟩ 0 (Lib.countB s ⟨#[c]⟩) s) (Lib.countB s ⟨#[c]⟩+1)) 9):=by
 have hcl:=Lib.countB_le ⟨#[c]⟩ (aea 1) s.size s (aea _);refine Any.strings_genSplit_core Tryz.lays221 (by kernel_rfl) s ⟨#[c]⟩ 0 (-1) (Lib.countB s ⟨#[c]⟩+1) w hs (aea 1) (aeY _) (fun x d hx=>?_) ?_ (by decide) (by decide) (by rw[if_pos (by decide)];omega)
 ·refine(Tryz.strings_Index_one x c _).mono fun e w' ⟨he,hw⟩=>⟨?_,hw⟩
  rw[he];show _=Ending.returned (Value.int .i64 (Lib.index x.data.toList [c]));rw[Lib.index_one]
 ·refine(Tryz.strings_Count_one s c w).mono fun e w' ⟨he,hw⟩=>⟨?_,hw⟩
  rw[he];show _=Ending.returned (Value.int .i64 ((Lib.count s.data.toList [c]:Nat):Int));rw[Lib.count_one];rfl
def Tryz.lays156_ren:Go.Shelf.Ren:=⟨fun|156=>158|165=>198|166=>106|169=>110|240=>157|241=>224|276=>197|277=>243|n=>n,fun|31=>169|9=>9|3=>3|4=>4|0=>0|20=>20|72=>163|76=>166|70=>160|37=>161|75=>165|127=>229|164=>252|5=>5|80=>173|n=>n,fun|n=>n⟩
theorem Tryz.lays156:Go.Proofs.Lays.n156 Tryz.prog Tryz.lays156_ren:={
 mixed:=by kernel_rfl
 f156:=Tryz.func158.trans (congrArg some (by kernel_rfl))
 f165:=Tryz.func198.trans (congrArg some (by kernel_rfl))
 f166:=Tryz.func106.trans (congrArg some (by kernel_rfl))
 f169:=Tryz.func110.trans (congrArg some (by kernel_rfl))
 f240:=Tryz.func157.trans (congrArg some (by kernel_rfl))
 f241:=Tryz.func224.trans (congrArg some (by kernel_rfl))
 f276:=Tryz.func197.trans (congrArg some (by kernel_rfl))
 f277:=Tryz.func243.trans (congrArg some (by kernel_rfl))
 t0:=Tryz.underlying0
 a0:=Tryz.isAgg0
 z0:=Tryz.sizeOf0
 v0:=Tryz.zeroValue0
 t3:=Tryz.underlying3
 a3:=Tryz.isAgg3
 z3:=Tryz.sizeOf3
 v3:=Tryz.zeroValue3
 t4:=Tryz.underlying4
 a4:=Tryz.isAgg4
 z4:=Tryz.sizeOf4
 v4:=Tryz.zeroValue4
 t9:=Tryz.underlying9
 a9:=Tryz.isAgg9
 z9:=Tryz.sizeOf9
 v9:=Tryz.zeroValue9
 t20:=Tryz.underlying20
 a20:=Tryz.isAgg20
 z20:=Tryz.sizeOf20
 v20:=Tryz.zeroValue20
 t31:=Tryz.underlying169
 a31:=Tryz.isAgg169
 z31:=Tryz.sizeOf169
 v31:=Tryz.zeroValue169
 t37:=Tryz.underlying161
 a37:=Tryz.isAgg161
 z37:=Tryz.sizeOf161
 v37:=Tryz.zeroValue161
 t70:=Tryz.underlying160
 a70:=Tryz.isAgg160
 z70:=Tryz.sizeOf160
 v70:=Tryz.zeroValue160
 t72:=Tryz.underlying163
 a72:=Tryz.isAgg163
 z72:=Tryz.sizeOf163
 v72:=Tryz.zeroValue163
 t75:=Tryz.underlying165
 a75:=Tryz.isAgg165
 z75:=Tryz.sizeOf165
 v75:=Tryz.zeroValue165
 t76:=Tryz.underlying166
 a76:=Tryz.isAgg166
 z76:=Tryz.sizeOf166
 v76:=Tryz.zeroValue166
 t127:=Tryz.underlying229
 a127:=Tryz.isAgg229
 z127:=Tryz.sizeOf229
 v127:=Tryz.zeroValue229
 t164:=Tryz.underlying252
 a164:=Tryz.isAgg252
 z164:=Tryz.sizeOf252
 v164:=Tryz.zeroValue252}
theorem Tryz.Builder_Extra_156:Builder.Extra Tryz.prog Tryz.lays156_ren:={
 sizeBuilder:=by kernel_rfl
 liesBuilder:=by kernel_rfl
 t5:=Tryz.underlying5
 a5:=Tryz.isAgg5
 z5:=Tryz.sizeOf5
 v5:=Tryz.zeroValue5
 infoByte:=by kernel_rfl
 cellsByte:=by kernel_rfl
 sizeByte:=by kernel_rfl
 neB5:=by decide}
open Go.RowKit in
theorem Tryz.strings_Join_none (a:Option Addr) (c:Nat) (sep:ByteArray) (w:World):
 Calls Tryz.prog 158 #[.slice a 0 c,.string sep] w fun e w'=>e=.returned (.string ⟨#[]⟩)∧w'=w:=Any.strings_Join_none Tryz.lays156 Tryz.Builder_Extra_156 a c sep w
open Go.RowKit in
theorem Tryz.strings_Join (bk o c:Nat) (xs:List ByteArray) (sep:ByteArray) (w:World) (hcells:∀(j:Nat) x,xs[j]? =some x→w.cell? ⟨bk,o+j,none⟩=some (.string x)) (hbk:bk<w.heap.size) (hN:xs.length≤140737488355328) (hcap:xs.length≤c) (hlen:(Lib.join (xs.map (·.data.toList)) sep.data.toList).length≤140737488355328):
 Calls Tryz.prog 158 #[.slice (some ⟨bk,o,none⟩) xs.length c,.string sep] w fun e w'=>e=.returned (.string ⟨(Lib.join (xs.map (·.data.toList)) sep.data.toList).toArray⟩)∧Below w.heap.size w w':=Any.strings_Join Tryz.lays156 Tryz.Builder_Extra_156 bk o c xs sep w hcells hbk hN hcap hlen
def Tryz.laysM171_ren:Go.Shelf.Ren:=⟨fun|171=>129|243=>171|246=>209|283=>233|284=>234|285=>235|286=>236|129=>253|317=>252|318=>254|319=>255|320=>256|337=>220|338=>276|n=>n,fun|3=>3|9=>9|2=>2|4=>4|171=>274|0=>0|53=>275|37=>161|5=>5|173=>278|212=>289|51=>154|20=>20|213=>290|46=>284|232=>285|233=>323|n=>n,fun|17=>2|18=>0|19=>7|n=>n⟩
theorem Tryz.laysM171:Go.Proofs.LaysM.n171 Tryz.prog Tryz.laysM171_ren:={
 mixed:=by kernel_rfl
 f129:=Tryz.func253.trans (congrArg some (by kernel_rfl))
 f171:=Tryz.func129.trans (congrArg some (by kernel_rfl))
 f243:=Tryz.func171.trans (congrArg some (by kernel_rfl))
 f246:=Tryz.func209.trans (congrArg some (by kernel_rfl))
 f283:=Tryz.func233.trans (congrArg some (by kernel_rfl))
 f284:=Tryz.func234.trans (congrArg some (by kernel_rfl))
 f285:=Tryz.func235.trans (congrArg some (by kernel_rfl))
 f286:=Tryz.func236.trans (congrArg some (by kernel_rfl))
 f317:=Tryz.func252.trans (congrArg some (by kernel_rfl))
 f318:=Tryz.func254.trans (congrArg some (by kernel_rfl))
 f319:=Tryz.func255.trans (congrArg some (by kernel_rfl))
 f320:=Tryz.func256.trans (congrArg some (by kernel_rfl))
 f337:=Tryz.func220.trans (congrArg some (by kernel_rfl))
 f338:=Tryz.func276.trans (congrArg some (by kernel_rfl))
 t0:=Tryz.underlying0
 a0:=Tryz.isAgg0
 z0:=Tryz.sizeOf0
 v0:=Tryz.zeroValue0
 t2:=Tryz.underlying2
 a2:=Tryz.isAgg2
 z2:=Tryz.sizeOf2
 v2:=Tryz.zeroValue2
 t3:=Tryz.underlying3
 a3:=Tryz.isAgg3
 z3:=Tryz.sizeOf3
 v3:=Tryz.zeroValue3
 t4:=Tryz.underlying4
 a4:=Tryz.isAgg4
 z4:=Tryz.sizeOf4
 v4:=Tryz.zeroValue4
 t5:=Tryz.underlying5
 a5:=Tryz.isAgg5
 z5:=Tryz.sizeOf5
 v5:=Tryz.zeroValue5
 t9:=Tryz.underlying9
 a9:=Tryz.isAgg9
 z9:=Tryz.sizeOf9
 v9:=Tryz.zeroValue9
 t20:=Tryz.underlying20
 a20:=Tryz.isAgg20
 z20:=Tryz.sizeOf20
 v20:=Tryz.zeroValue20
 t37:=Tryz.underlying161
 a37:=Tryz.isAgg161
 z37:=Tryz.sizeOf161
 v37:=Tryz.zeroValue161
 t46:=Tryz.underlying284
 a46:=Tryz.isAgg284
 z46:=Tryz.sizeOf284
 v46:=Tryz.zeroValue284
 t51:=Tryz.underlying154
 a51:=Tryz.isAgg154
 z51:=Tryz.sizeOf154
 v51:=Tryz.zeroValue154
 t53:=Tryz.underlying275
 a53:=Tryz.isAgg275
 z53:=Tryz.sizeOf275
 v53:=Tryz.zeroValue275
 t171:=Tryz.underlying274
 a171:=Tryz.isAgg274
 z171:=Tryz.sizeOf274
 v171:=Tryz.zeroValue274
 t173:=Tryz.underlying278
 a173:=Tryz.isAgg278
 z173:=Tryz.sizeOf278
 v173:=Tryz.zeroValue278
 t212:=Tryz.underlying289
 a212:=Tryz.isAgg289
 z212:=Tryz.sizeOf289
 v212:=Tryz.zeroValue289
 t213:=Tryz.underlying290
 a213:=Tryz.isAgg290
 z213:=Tryz.sizeOf290
 t232:=Tryz.underlying285
 a232:=Tryz.isAgg285
 z232:=Tryz.sizeOf285
 v232:=Tryz.zeroValue285
 t233:=Tryz.underlying323
 a233:=Tryz.isAgg323
 z233:=Tryz.sizeOf323
 v233:=Tryz.zeroValue323
 g17:=by kernel_rfl
 g18:=by kernel_rfl
 g19:=by kernel_rfl
 i0:=by kernel_rfl
 i2:=by kernel_rfl
 i3:=by kernel_rfl
 i4:=by kernel_rfl
 i5:=by kernel_rfl
 i9:=by kernel_rfl
 i20:=by kernel_rfl
 i37:=by kernel_rfl
 i46:=by kernel_rfl
 i51:=by kernel_rfl
 i53:=by kernel_rfl
 i171:=by kernel_rfl
 i173:=by kernel_rfl
 i212:=by kernel_rfl
 i232:=by kernel_rfl
 i233:=by kernel_rfl
 m17:=by kernel_rfl
 m18:=by kernel_rfl
 m19:=by kernel_rfl}
open Go.RowKit Go.Sort Go.Lib in
theorem Tryz.strconv_Itoa (n:Int) (h0: -9223372036854775808≤n) (h1:n≤9223372036854775807) (w:World) (htab:Lib.TabIs Tryz.prog w "internal/strconv.uint64pow10" .u64 Lib.pow10Tab):
 Calls Tryz.prog 129 #[.int .i64 n] w fun e w'=>e=.returned (.string ⟨(Lib.itoa n).toArray⟩)∧∃k os,w'=grow (w.drewN k) os:=Any.strconv_Itoa Tryz.laysM171 n h0 h1 w htab
open Go.RowKit Go.Sort Go.Lib in
def Tryz.lays189_ren:Go.Shelf.Ren:=⟨fun|189=>219|125=>242|257=>241|128=>257|129=>253|294=>259|295=>260|296=>261|297=>262|298=>263|299=>264|216=>265|300=>266|301=>267|328=>277|329=>278|330=>279|331=>280|332=>281|215=>282|343=>286|n=>n,fun|28=>25|3=>3|46=>284|0=>0|51=>154|53=>275|4=>4|183=>293|182=>292|131=>234|5=>5|9=>9|218=>311|222=>315|228=>324|229=>63|n=>n,fun|n=>n⟩
theorem Tryz.lays189:Go.Proofs.Lays.n189 Tryz.prog Tryz.lays189_ren:={
 mixed:=by kernel_rfl
 f125:=Tryz.func242.trans (congrArg some (by kernel_rfl))
 f128:=Tryz.func257.trans (congrArg some (by kernel_rfl))
 f129:=Tryz.func253.trans (congrArg some (by kernel_rfl))
 f189:=Tryz.func219.trans (congrArg some (by kernel_rfl))
 f215:=Tryz.func282.trans (congrArg some (by kernel_rfl))
 f216:=Tryz.func265.trans (congrArg some (by kernel_rfl))
 f257:=Tryz.func241.trans (congrArg some (by kernel_rfl))
 f294:=Tryz.func259.trans (congrArg some (by kernel_rfl))
 f295:=Tryz.func260.trans (congrArg some (by kernel_rfl))
 f296:=Tryz.func261.trans (congrArg some (by kernel_rfl))
 f297:=Tryz.func262.trans (congrArg some (by kernel_rfl))
 f298:=Tryz.func263.trans (congrArg some (by kernel_rfl))
 f299:=Tryz.func264.trans (congrArg some (by kernel_rfl))
 f300:=Tryz.func266.trans (congrArg some (by kernel_rfl))
 f301:=Tryz.func267.trans (congrArg some (by kernel_rfl))
 f328:=Tryz.func277.trans (congrArg some (by kernel_rfl))
 f329:=Tryz.func278.trans (congrArg some (by kernel_rfl))
 f330:=Tryz.func279.trans (congrArg some (by kernel_rfl))
 f331:=Tryz.func280.trans (congrArg some (by kernel_rfl))
 f332:=Tryz.func281.trans (congrArg some (by kernel_rfl))
 f343:=Tryz.func286.trans (congrArg some (by kernel_rfl))
 t0:=Tryz.underlying0
 a0:=Tryz.isAgg0
 z0:=Tryz.sizeOf0
 v0:=Tryz.zeroValue0
 t3:=Tryz.underlying3
 a3:=Tryz.isAgg3
 z3:=Tryz.sizeOf3
 v3:=Tryz.zeroValue3
 t4:=Tryz.underlying4
 a4:=Tryz.isAgg4
 z4:=Tryz.sizeOf4
 v4:=Tryz.zeroValue4
 t5:=Tryz.underlying5
 a5:=Tryz.isAgg5
 z5:=Tryz.sizeOf5
 v5:=Tryz.zeroValue5
 t9:=Tryz.underlying9
 a9:=Tryz.isAgg9
 z9:=Tryz.sizeOf9
 v9:=Tryz.zeroValue9
 t28:=Tryz.underlying25
 a28:=Tryz.isAgg25
 z28:=Tryz.sizeOf25
 v28:=Tryz.zeroValue25
 t46:=Tryz.underlying284
 a46:=Tryz.isAgg284
 z46:=Tryz.sizeOf284
 v46:=Tryz.zeroValue284
 t51:=Tryz.underlying154
 a51:=Tryz.isAgg154
 z51:=Tryz.sizeOf154
 v51:=Tryz.zeroValue154
 t53:=Tryz.underlying275
 a53:=Tryz.isAgg275
 z53:=Tryz.sizeOf275
 v53:=Tryz.zeroValue275
 t131:=Tryz.underlying234
 a131:=Tryz.isAgg234
 z131:=Tryz.sizeOf234
 v131:=Tryz.zeroValue234
 t182:=Tryz.underlying292
 a182:=Tryz.isAgg292
 z182:=Tryz.sizeOf292
 v182:=Tryz.zeroValue292
 t183:=Tryz.underlying293
 a183:=Tryz.isAgg293
 z183:=Tryz.sizeOf293
 v183:=Tryz.zeroValue293
 t218:=Tryz.underlying311
 a218:=Tryz.isAgg311
 z218:=Tryz.sizeOf311
 v218:=Tryz.zeroValue311
 t222:=Tryz.underlying315
 a222:=Tryz.isAgg315
 z222:=Tryz.sizeOf315
 v222:=Tryz.zeroValue315
 t228:=Tryz.underlying324
 a228:=Tryz.isAgg324
 z228:=Tryz.sizeOf324
 v228:=Tryz.zeroValue324
 t229:=Tryz.underlying63
 a229:=Tryz.isAgg63
 z229:=Tryz.sizeOf63
 v229:=Tryz.zeroValue63}
open Go.Sort Go.RowKit in
theorem Tryz.slices_Sort_int (blk off cap:Nat) (zs:List Int) (w:World) (hH:Holds (Value.int .i64) w blk off zs.toArray) (hblk:blk<w.heap.size) (hsz:zs.length<4611686018427387904):
 Calls Tryz.prog 219 #[.slice (some ⟨blk,off,none⟩) zs.length cap] w fun e w'=>
  e=.returned (.tuple #[])∧∃n os,w'=grow (putRow (Value.int .i64) (Sort.ahead w n) blk off (zs.mergeSort fun x y=>decide (x≤y)).toArray) os:=Any.slices_Sort_int Tryz.lays189 blk off cap zs w hH hblk hsz
end Go.Proofs
namespace Go.Eng.YtcechbdgokjmgaaGreatDoor
open Go.Proofs
set_option linter.unusedSimpArgs false
set_option linter.unusedVariables false
set_option maxHeartbeats 0
set_option maxRecDepth 100000
theorem acz:te3.bytes=8:=by rfl
theorem acA:te4.bytes=1:=by rfl
theorem acB:te3.size=1:=by rfl
theorem acC:te4.size=1:=by rfl
theorem aaC:zn.size=1:=by rfl
theorem uL:Dp.size=4:=by rfl
theorem vn:(∀(cs:List PV),CL.cnt (.pv cs)=cs.length)∧(∀(cs:List PV),CL.ncell (.pv cs)=cs.length)∧(∀(k:IntKind) (xs:List Int),CL.cnt (.ints k xs)=xs.length)∧(∀(k:IntKind) (xs:List Int),CL.ncell (.ints k xs)=xs.length)∧(∀(xs:List Bool),CL.cnt (.bools xs)=xs.length)∧(∀(xs:List Bool),CL.ncell (.bools xs)=xs.length)∧(∀(xs:List ByteArray),CL.cnt (.strs xs)=xs.length)∧(∀(xs:List ByteArray),CL.ncell (.strs xs)=xs.length)∧(∀(k:IntKind) (xss:List (List Int)),CL.cnt (.rows k xss)=xss.length)∧(∀(k:IntKind) (xss:List (List Int)),CL.ncell (.rows k xss)=xss.length)∧(∀(m:Nat) (rs:List (List PV)),CL.cnt (.recs m rs)=rs.length)∧(∀(m:Nat) (rs:List (List PV)),CL.ncell (.recs m rs)=rs.length*m)∧(∀(n:Nat) (f:Nat→PV),CL.cnt (.gen n f)=n)∧(∀(n:Nat) (f:Nat→PV),CL.ncell (.gen n f)=n)∧(∀(m n:Nat) (f:Nat→List PV),CL.cnt (.genr m n f)=n)∧(∀(m n:Nat) (f:Nat→List PV),CL.ncell (.genr m n f)=n*m):=
 ⟨fun _=>rfl,fun _=>rfl,fun _ _=>rfl,fun _ _=>rfl,fun _=>rfl,fun _=>rfl,fun _=>rfl,fun _=>rfl,fun _ _=>rfl,fun _ _=>rfl,fun _ _=>rfl,fun _ _=>rfl,fun _ _=>rfl,fun _ _=>rfl,fun _ _ _=>rfl,fun _ _ _=>rfl⟩
theorem vp:((∀(cs:List PV),CL.cnt (.pv cs)=cs.length)∧(∀(cs:List PV),CL.ncell (.pv cs)=cs.length)∧(∀(k:IntKind) (xs:List Int),CL.cnt (.ints k xs)=xs.length)∧(∀(k:IntKind) (xs:List Int),CL.ncell (.ints k xs)=xs.length)∧(∀(xs:List Bool),CL.cnt (.bools xs)=xs.length)∧(∀(xs:List Bool),CL.ncell (.bools xs)=xs.length)∧(∀(xs:List ByteArray),CL.cnt (.strs xs)=xs.length)∧(∀(xs:List ByteArray),CL.ncell (.strs xs)=xs.length)∧(∀(k:IntKind) (xss:List (List Int)),CL.cnt (.rows k xss)=xss.length)∧(∀(k:IntKind) (xss:List (List Int)),CL.ncell (.rows k xss)=xss.length)∧(∀(m:Nat) (rs:List (List PV)),CL.cnt (.recs m rs)=rs.length)∧(∀(m:Nat) (rs:List (List PV)),CL.ncell (.recs m rs)=rs.length*m)∧(∀(n:Nat) (f:Nat→PV),CL.cnt (.gen n f)=n)∧(∀(n:Nat) (f:Nat→PV),CL.ncell (.gen n f)=n)∧(∀(m n:Nat) (f:Nat→List PV),CL.cnt (.genr m n f)=n)∧(∀(m n:Nat) (f:Nat→List PV),CL.ncell (.genr m n f)=n*m))∧zn.size=1∧(∀n:Nat,((n:Int)).toNat=n)∧te3.bytes=8∧te4.bytes=1∧te3.size=1∧te4.size=1∧(∀n:Nat,n*1=n)∧(∀n:Nat,0+n=n)∧((false=true)=False)∧((true=false)=False):=
 ⟨vn,aaC,afg,acz,acA,acB,acC,aeL,aeC,by simp,by simp⟩
theorem vq:(∀(p:Prop) [Decidable p],(decide p=true)=p)∧(∀(p:Prop) [Decidable p],(decide p=false)=¬p)∧(∀b:Bool,(¬b=true)=(b=false))∧((!false)=true)∧((!true)=false)∧(∀p:Prop,(p∧p)=p)∧(∀p:Prop,(p∧True)=p)∧(∀p:Prop,(True∧p)=p)∧(∀(α:Type) (a:α) (l:List α),(a::l).length=l.length+1)∧(∀α:Type,([]:List α).length=0)∧((∀(cs:List PV),CL.cnt (.pv cs)=cs.length)∧(∀(cs:List PV),CL.ncell (.pv cs)=cs.length)∧(∀(k:IntKind) (xs:List Int),CL.cnt (.ints k xs)=xs.length)∧(∀(k:IntKind) (xs:List Int),CL.ncell (.ints k xs)=xs.length)∧(∀(xs:List Bool),CL.cnt (.bools xs)=xs.length)∧(∀(xs:List Bool),CL.ncell (.bools xs)=xs.length)∧(∀(xs:List ByteArray),CL.cnt (.strs xs)=xs.length)∧(∀(xs:List ByteArray),CL.ncell (.strs xs)=xs.length)∧(∀(k:IntKind) (xss:List (List Int)),CL.cnt (.rows k xss)=xss.length)∧(∀(k:IntKind) (xss:List (List Int)),CL.ncell (.rows k xss)=xss.length)∧(∀(m:Nat) (rs:List (List PV)),CL.cnt (.recs m rs)=rs.length)∧(∀(m:Nat) (rs:List (List PV)),CL.ncell (.recs m rs)=rs.length*m)∧(∀(n:Nat) (f:Nat→PV),CL.cnt (.gen n f)=n)∧(∀(n:Nat) (f:Nat→PV),CL.ncell (.gen n f)=n)∧(∀(m n:Nat) (f:Nat→List PV),CL.cnt (.genr m n f)=n)∧(∀(m n:Nat) (f:Nat→List PV),CL.ncell (.genr m n f)=n*m))∧zn.size=1∧(∀n:Nat,((n:Int)).toNat=n)∧te3.bytes=8∧te4.bytes=1∧te3.size=1∧te4.size=1∧(∀n:Nat,n*1=n)∧(∀n:Nat,0+n=n)∧((false=true)=False)∧((true=false)=False):=
 ⟨fun p _=>decide_eq_true_eq,fun p _=>propext decide_eq_false_iff_not,fun b=>by simp,rfl,rfl,and_self,and_true,true_and,fun _ _ _=>rfl,fun _=>rfl,vp⟩
def eO:PSp:=fun xs K=>match xs with
 | [.bp h,.int .i64 e]=>K (.int .i64 (if h then e else 0))
 | [.bool h,.int .i64 e]=>K (.int .i64 (if h then e else 0))
 |_=>False
def aG:List Int→Int
 | []=>0
 |x::r=>if x=0 then aG r else x
theorem uM:∀(l:List Int),(∀i,i<l.length→l.getD i 0=0)→aG l=0:=by
 intro l;induction l with
 |nil=>intro _;rfl
 |cons x r ih=>
  intro h;have h0:=h 0 (by simp)
  simp at h0;subst h0;exact ih fun i hi=>by simpa using h (i+1) (by simpa using hi)
theorem gN:∀(l:List Int) (k:Nat),k<l.length→(∀i,i<k→l.getD i 0=0)→l.getD k 0≠0→aG l=l.getD k 0:=by
 intro l;induction l with
 |nil=>intro k hk;simp at hk
 |cons x r ih=>
  intro k hk h hne;cases k with
  |zero=>simp at hne;simp[aG,hne]
  |succ k=>
   have h0:=h 0 (by omega)
   simp at h0;subst h0;have:=ih k (by simpa using hk) (fun i hi=>by simpa using h (i+1) (by omega)) (by simpa using hne)
   simp[aG,this]
theorem Ox {go:List PV→Bool} {L:List PV} {i:Nat} {x:PV} (h:L[i]? =some x) (hg:GoTo go L i):Nxt go L (L.take i) x:=⟨i,(afS.1 h).1,rfl,h,hg⟩
def itB (n:Int):ByteArray:=⟨(Go.Lib.itoa n).toArray⟩
def nI (n:Int):Prop:= -9223372036854775808≤n∧n≤9223372036854775807
theorem oU {n:Int} (h:nI n):(itB n).size≤21:=by
 have:=Go.Lib.itoa_length_le n h.1 h.2;simpa [itB,ByteArray.size]using this
theorem Oy {S:Imm} {w:World} (h:gB S w):Lib.TabIs Tryz.prog w "internal/strconv.uint64pow10" .u64 Lib.pow10Tab:=by
 obtain⟨h0,h1⟩:=h 2 _ rfl;have e:mQ=Lib.pow10Tab:=by decide
 unfold Lib.TabIs World.var?;rw[show Tryz.prog.globalNamed "internal/strconv.uint64pow10" =some 2 from by kernel_rfl,Option.bind_some,←e]
 unfold bsz at h0;split at h0
 ·rename_i cs t f hb
  rw[hb];refine congrArg some (Array.ext_getElem? fun j=>?_);have hsz:cs.size=mQ.length:=by simpa [CL.ncell]using h0
  rcases Nat.lt_or_ge j mQ.length with hj|hj
  ·obtain⟨_,hr⟩:=h1 j (by simpa [CL.ncell]using hj)
   have h2:rd w 2 j=some cs[j]:=by simp[rd,hb,hsz,hj]
   have h3:rdv w 2 j=cs[j]:=by unfold rdv;rw[h2];rfl
   rw[h3]at hr;rw[Array.getElem?_eq_getElem (by omega)]
   have h4:(CL.ints .u64 mQ).get j=.int .u64 (mQ.getD j 0):=rfl;rw[h4]at hr;generalize cs[j]=y at hr
   cases hr
   simp[aeo,hj]
  ·rw[aec (by omega),aec (by simpa using hj)]
 ·cases h0
theorem Oz (n:Int) (h:nI n):aF Tryz.prog 129 [.int .i64 n] (.str (itB n)):=by
 refine pR (enters' Tryz.func129 (by rfl) (by rfl)) fun S w vs hg himm hA=>?_
 have h0:=hA.2 0 (by simp)
 have hsz:vs.size=1:=hA.1.symm;simp only[aC]at h0;have hvs:vs= #[vs.getD 0 undef]:=by
  apply afr (by simp[hsz])
  intro i h1 h2;have:i=0:=by omega
  subst this;simp[aej,h1]
 rw[hvs];generalize vs.getD 0 undef=v0 at h0
 cases h0
 refine⟨_,.str _ _,?_⟩;refine(Tryz.strconv_Itoa n h.1 h.2 w (Oy hg)).mono ?_
 rintro e w' ⟨rfl,k,os,rfl⟩
 exact⟨rfl,Lib.below_grow _ _ (aea _) _ _⟩
def Dq:PSp:=fun xs K=>match xs with
 | [.int .i64 n]=>VC (nI n)∧K (.str (itB n))
 |_=>False
theorem Ja:POK Tryz.prog 129 Dq:=by
 intro xs K h;unfold Dq at h;split at h
 ·exact⟨_,h.2,Oz _ h.1.get⟩
 ·exact h.elim
def joB (xs:List ByteArray) (sep:ByteArray):ByteArray:=⟨(Go.Lib.join (xs.map (·.data.toList)) sep.data.toList).toArray⟩
theorem OA (xs:List ByteArray) (sep:ByteArray) (h:xs.length≤1000000) (hl:(joB xs sep).size≤140737488355328):aF Tryz.prog 158 [.isl (.strs xs) .none,.str sep] (.str (joB xs sep)):=by
 refine iD (enters' Tryz.func158 (by rfl) (by rfl)) fun S w vs himm hA=>?_
 have h0:=hA.2 0 (by simp)
 have h1:=hA.2 1 (by simp)
 have hsz:vs.size=2:=hA.1.symm;simp only[aC]at h0 h1;have hvs:vs= #[vs.getD 0 undef,vs.getD 1 undef]:=by
  apply afr (by simp[hsz])
  intro i h1 h2;have:i=0∨i=1:=by omega
  rcases this with rfl|rfl<;>simp[aej,h1]
 rw[hvs];generalize vs.getD 0 undef=v0 at h0
 generalize vs.getD 1 undef=v1 at h1
 cases h1
 refine⟨.string (joB xs sep),.str _ _,?_⟩;rcases Oo himm h0 with⟨a,rfl,rfl⟩|⟨b,off,cap,rfl,hc,hcell,hb⟩
 ·refine(Tryz.strings_Join_none a 0 sep w).mono ?_
  rintro e w' ⟨rfl,rfl⟩
  exact⟨rfl,.refl _ _⟩
 ·rcases aee xs.length with hz|hz
  ·obtain rfl:xs=[]:=List.eq_nil_of_length_eq_zero hz
   refine(Tryz.strings_Join_none (some ⟨b,off,none⟩) cap sep w).mono ?_
   rintro e w' ⟨rfl,rfl⟩
   exact⟨rfl,.refl _ _⟩
  ·refine(Tryz.strings_Join b off cap xs sep w hcell (hb hz) (by omega) hc (by simpa [joB,ByteArray.size]using hl)).mono ?_
   rintro e w' ⟨rfl,hB⟩
   exact⟨rfl,hB⟩
def Lm:PSp:=fun xs K=>match xs with
 | [.isl (.strs xs) .none,.str sep]=>VC (xs.length≤1000000∧(joB xs sep).size≤140737488355328)∧K (.str (joB xs sep))
 |_=>False
theorem Xx:POK Tryz.prog 158 Lm:=by
 intro xs K h;unfold Lm at h;split at h
 ·exact⟨_,h.2,OA _ _ h.1.get.1 h.1.get.2⟩
 ·exact h.elim
def kBl:ByteArray:=⟨#[32]⟩
theorem Xy {xs:List ByteArray} {b:Nat} (h:∀x∈xs,x.size≤b):Go.Lib.lens (xs.map (·.data.toList))≤xs.length*b:=by
 induction xs with
 |nil=>simp[Go.Lib.lens]
 |cons x xs ih=>
  have h1:=ih fun y hy=>h y (aek _ hy);have h2:=h x (afZ ..);simp only[Go.Lib.lens,aen,List.sum_cons,ad4]at h1⊢;have h3:x.data.toList.length=x.size:=by rw[aeO];rfl
  rw[h3,ad8];omega
theorem E9 {xs:List ByteArray} {b:Nat} (h:∀x∈xs,x.size≤b):(joB xs kBl).size≤xs.length*(b+1):=by
 cases xs with
 |nil=>exact aeY _
 |cons x xs=>
  have h1:=Xy (xs:=xs) fun y hy=>h y (aek _ hy);have h2:=h x (afZ ..);have h3:x.data.toList.length=x.size:=by rw[aeO];rfl
  have e:(joB (x::xs) kBl).size=x.size+(xs.length+Go.Lib.lens (xs.map (·.data.toList))):=by
   show(List.toArray _).size=_;have e1:kBl.data.toList.length=1:=rfl;rw[List.size_toArray,aen,Go.Lib.join_cons,afu,Go.Lib.joinTail_length,af0,e1,h3,Nat.one_mul]
  rw[e,ad4,ad8,af2];omega
noncomputable def acD:CPT:=aA 158 (aB Lm) noC
theorem Xz:aW Tryz.prog acD:=aj (au Xx) aD
theorem Lr (xs:List ByteArray) (h:xs.length≤1000000) (hl:(joB xs kBl).size≤140737488355328):aF Tryz.prog 107 [.isl (.strs xs) .none] (.str (joB xs kBl)):=by
 unfold kBl at*;refine av (md:=1) (rf:=[]) mixed ak Xz Tryz.func107 (by rfl) (by rfl) (by rfl) ?_
 repeat'((conv=>whnf);first|intro _|apply aI|with_reducible exact vM rfl|exact⟨⟩|apply nM|apply fM)
 all_goals((try apply vM);(try simp only[vq]at*);try omega)
 all_goals first|exact⟨h,hl⟩|exact Sup.of rfl|exact fun h=>h
structure Rf (xs:List ByteArray) (n:Nat):Prop where
 len:xs.length≤n
 sz:∀x∈xs,x.size≤4000
def zo:PSp:=fun xs K=>match xs with
 | [.isl (.strs ws) .none]=>VC (Rf ws 1000000)∧K (.str (joB ws kBl))
 |_=>False
theorem Fa:POK Tryz.prog 107 zo:=by
 intro xs K hk;unfold zo at hk;split at hk
 ·refine⟨_,hk.2,Lr _ hk.1.get.len ?_⟩
  have h1:=E9 hk.1.get.sz;have h2:=hk.1.get.len;have:(4000+1)*1000000≤140737488355328:=by decide
  refine afW h1 (afW (Nat.mul_le_mul_right _ h2) ?_);decide
 ·exact hk.elim
def mZ (l:List Int) (m:Nat):List ByteArray:=(l.take m).map itB
theorem Ib (l:List Int) (m:Nat) (h:m<l.length):mZ l (m+1)=mZ l m++[itB (l.getD m 0)]:=by
 unfold mZ;rw[af3,af4,aeo,aev h];rfl
theorem zq (l:List Int) (m:Nat) (h:m≤l.length):(mZ l m).length=m:=by simp[mZ];omega
noncomputable def acE:CPT:=aA 129 (aB Dq) noC
theorem Jb:aW Tryz.prog acE:=aj (au Ja) aD
structure Rh (l:List Int):Prop where
 len:l.length≤1000000
 num:∀i,i<l.length→nI (l.getD i 0)
theorem Ls (l:List Int) (h:Rh l):aF Tryz.prog 108 [.isl (.ints .i64 l) .none] (.isl (.strs (l.map itB)) .none):=by
 obtain⟨hl,hn⟩:=h;refine av (md:=1) (rf:=[]) mixed ak Jb Tryz.func108 (by rfl) (by rfl) (by rfl) ?_
 repeat'((conv=>whnf);first|intro _|apply aI|with_reducible exact vM rfl|exact⟨⟩|apply nM|apply fM)
 all_goals((try apply vM);(try simp only[vq]at*);try omega)
 conv=>whnf
 refine aM (X:=Nat) (fun i=>i≤l.length) (fun i=>[(8,.int .i64 i),(3,.isl (.strs (mZ l i)) (.own 3)),(5,.any)]) (fun i=>[(3,.tok 1 i)]) (fun i=>l.length-i) 0 ⟨aK,mixed,ak,Jb,aQ⟩ (by rfl) (by omega) ?_ ?_
 ·repeat'((conv=>whnf);first|intro _|apply aI|with_reducible exact vM rfl|exact⟨⟩|apply nM|apply fM)
  all_goals((try apply vM);(try simp only[vq]at*);try omega)
 intro i hi;by_cases hlt:i<l.length
 ·have e0:=zq l i hi
  have e1:=Ib l i hlt;have e2:=hn i hlt
  repeat'((conv=>whnf);first|intro _|apply aI|with_reducible exact vM rfl|exact⟨⟩|apply nM|apply fM)
  all_goals((try apply vM);(try simp only[vq]at*);try omega)
  all_goals(try exact e2)
  all_goals(try(simp only[afu,ad4,adY];omega))
  refine⟨i+1,[],⟨by omega,by omega⟩,?_⟩
  repeat'((conv=>whnf);first|intro _|apply aI|with_reducible exact vM rfl|exact⟨⟩|apply nM|apply fM)
  all_goals((try apply vM);(try simp only[vq]at*);try omega)
  all_goals(try(rw[e1]))
 ·have:l.length=i:=by omega
  subst this;have e0:=zq l l.length (aea _);have e3:mZ l l.length=l.map itB:=by unfold mZ;rw[af5]
  repeat'((conv=>whnf);first|intro _|apply aI|with_reducible exact vM rfl|exact⟨⟩|apply nM|apply fM)
  all_goals((try apply vM);(try simp only[vq]at*);try omega)
  rw[e3];exact Sup.of rfl
def Fb:PSp:=fun xs K=>match xs with
 | [.isl (.ints .i64 l) .none]=>VC (Rh l)∧K (.isl (.strs (l.map itB)) .none)
 |_=>False
theorem Ri:POK Tryz.prog 108 Fb:=by
 intro xs K h;unfold Fb at h;split at h
 ·exact⟨_,h.2,Ls _ h.1.get⟩
 ·exact h.elim
end Go.Eng.YtcechbdgokjmgaaGreatDoor
namespace Go.Eng.YtcechbdgokjmgaaGreatDoor
open Go.Proofs Go.RowKit
set_option linter.unusedSimpArgs false
set_option linter.unusedVariables false
set_option maxHeartbeats 0
set_option maxRecDepth 100000
def spl (c:UInt8):List UInt8→List (List UInt8)
 | []=>[[]]
 |x::r=>if x=c then []::spl c r else match spl c r with
  | []=>[]
  |a::t=>(x::a)::t
theorem OB (c:UInt8):∀l,spl c l≠[]:=by
 intro l;induction l with
 |nil=>simp[spl]
 |cons x r ih=>
  unfold spl;split
  ·simp
  ·cases h:spl c r with
   |nil=>exact absurd h ih
   |cons a t=>simp
theorem Lu (c:UInt8):∀(l:List UInt8),Go.Lib.splitK [c] 0 (l.count c) l=spl c l:=by
 intro l;induction l with
 |nil=>rfl
 |cons x r ih=>
  by_cases e:x=c
  ·subst e
   have hi:Go.Lib.index (x::r) [x]=0:=by rw[Go.Lib.index_one];simp[Go.Lib.indexByte]
   rw[List.count_cons_self];unfold Go.Lib.splitK;rw[hi,if_neg (by decide)]
   show []::Go.Lib.splitK [x] 0 (r.count x) r=_;rw[ih];unfold spl;rw[if_pos rfl];cases r<;>rfl
  ·rw[List.count_cons_of_ne e]
   have hs:spl c (x::r)=match spl c r with| []=>[]|a::t=>(x::a)::t:=by
    conv=>lhs;unfold spl
    rw[if_neg e]
   rw[hs,←ih];cases hk:r.count c with
   |zero=>rfl
   |succ k=>
    have hi:Go.Lib.index (x::r) [c]=if Go.Lib.index r [c]= -1 then-1 else Go.Lib.index r [c]+1:=by
     rw[Go.Lib.index_one,Go.Lib.index_one];conv=>lhs;unfold Go.Lib.indexByte
     simp[e]
    have hne:Go.Lib.index r [c]≠ -1:=fun h=>by
     rw[Go.Lib.index_one]at h;have:=Go.Lib.indexByte_none h;have hm:c∈r:=List.count_pos_iff.1 (by omega)
     obtain⟨i,hi,he⟩:=aeu hm;exact this i (by rw[aev hi,he])
    have hge:=Go.Lib.indexByte_ge r c;rw[←Go.Lib.index_one]at hge;unfold Go.Lib.splitK;rw[hi,if_neg hne,if_neg (by simp;omega),if_neg (by simpa using hne)]
    obtain⟨n,hn⟩:∃n:Nat,Go.Lib.index r [c]=n:=⟨(Go.Lib.index r [c]).toNat,by omega⟩
    rw[hn];rfl
def dD (c:UInt8) (s:ByteArray):List ByteArray:=(spl c s.data.toList).map fun l=>⟨l.toArray⟩
theorem zu (c:UInt8) (s:ByteArray):Go.Lib.splitB ⟨#[c]⟩ 0 (Go.Lib.countB s ⟨#[c]⟩) s=dD c s:=by
 have h:=Go.Lib.splitB_data ⟨#[c]⟩ 0 (Go.Lib.countB s ⟨#[c]⟩) s;have e:Go.Lib.countB s ⟨#[c]⟩=s.data.toList.count c:=Go.Lib.count_one c _;rw[e]at h⊢;unfold dD;rw[←Lu,show Go.Lib.splitK [c] 0 (s.data.toList.count c) s.data.toList=Go.Lib.splitK (ByteArray.mk #[c]).data.toList 0 (s.data.toList.count c) s.data.toList from rfl,←h,List.map_map];conv=>lhs;rw[←List.map_id (Go.Lib.splitB _ _ _ _)]
 rfl
theorem Rj (s:ByteArray) (c:UInt8) (hs:s.size<4294967281):aF Tryz.prog 160 [.str s,.str ⟨#[c]⟩,.int .i64 0,.int .i64 (-1)] (.isl (.strs (dD c s)) .none):=by
 refine EU (enters' Tryz.func160 (by rfl) (by rfl)) (.strs (dD c s)) fun S w vs himm hA=>?_
 have h0:=hA.2 0 (by simp)
 have h1:=hA.2 1 (by simp)
 have h2:=hA.2 2 (by simp)
 have h3:=hA.2 3 (by simp)
 have hsz:vs.size=4:=hA.1.symm;simp only[aC]at h0 h1 h2 h3;have hvs:vs= #[vs.getD 0 undef,vs.getD 1 undef,vs.getD 2 undef,vs.getD 3 undef]:=by
  apply afr (by simp[hsz])
  intro i h1 h2;have:i=0∨i=1∨i=2∨i=3:=by omega
  rcases this with rfl|rfl|rfl|rfl<;>simp[aej,h1]
 rw[hvs];generalize vs.getD 0 undef=v0 at h0
 generalize vs.getD 1 undef=v1 at h1
 generalize vs.getD 2 undef=v2 at h2
 generalize vs.getD 3 undef=v3 at h3
 cases h0;cases h1;cases h2;cases h3
 have hlen:(dD c s).length=Go.Lib.countB s ⟨#[c]⟩+1:=by rw[←zu];exact Go.Lib.splitB_all ⟨#[c]⟩ (aea 1) 0 _ s rfl
 have hcl:=Tryz.genSplit_one s c w hs;rw[zu]at hcl;refine⟨Go.Lib.cellsOf (dD c s) (Go.Lib.countB s ⟨#[c]⟩+1),9,Go.Lib.countB s ⟨#[c]⟩+1,?_,?_,fun j hj S' w'=>?_,hcl⟩
 ·simp only[CL.cnt];omega
 ·simp only[CL.ncell];rw[Go.Lib.cellsOf_size (by omega)];omega
 ·simp only[CL.ncell]at hj
  have:(Go.Lib.cellsOf (dD c s) (Go.Lib.countB s ⟨#[c]⟩+1)).getD j undef=.string ((dD c s).getD j .empty):=by
   rw[←hlen,Go.Lib.cellsOf_full];simp[aej,aeo,hj]
  rw[this];exact .str _ _
def Rk:PSp:=fun xs K=>match xs with
 | [.str s,.str sep,.int .i64 a,.int .i64 b]=>∃c:UInt8,VC (sep=⟨#[c]⟩∧a=0∧b= -1∧s.size<4294967281)∧K (.isl (.strs (dD c s)) .none)
 |_=>False
theorem aaD:POK Tryz.prog 160 Rk:=by
 intro xs K hk;unfold Rk at hk;split at hk
 ·obtain⟨c,⟨rfl,rfl,rfl,h⟩,hk⟩:=hk
  exact⟨_,hk,Rj _ _ h⟩
 ·exact hk.elim
noncomputable def acF:CPT:=aA 160 (aB Rk) noC
theorem XA:aW Tryz.prog acF:=aj (au aaD) aD
theorem Lv (s:ByteArray) (c:UInt8) (hs:s.size<4294967281):aF Tryz.prog 113 [.str s,.str ⟨#[c]⟩] (.isl (.strs (dD c s)) .none):=by
 refine av (md:=1) (rf:=[]) mixed ak XA Tryz.func113 (by rfl) (by rfl) (by rfl) ?_
 repeat'((conv=>whnf);first|apply Exists.intro (c)|(intro hq;(try simp only[vw]at hq);try first|exact absurd hq (by decide)|exfalso;omega)|apply aI|with_reducible exact vM rfl|exact⟨⟩|apply nM|apply fM)
 all_goals((try apply vM);(try simp only[vq]at*);try omega)
 all_goals first|exact hs|exact⟨rfl,rfl,rfl,hs⟩|exact Sup.of rfl|skip
def zw:PSp:=fun xs K=>match xs with
 | [.str s,.str sep]=>∃c:UInt8,VC (sep=⟨#[c]⟩∧s.size<4294967281)∧K (.isl (.strs (dD c s)) .none)
 |_=>False
theorem Fe:POK Tryz.prog 113 zw:=by
 intro xs K hk;unfold zw at hk;split at hk
 ·obtain⟨c,⟨rfl,h⟩,hk⟩:=hk
  exact⟨_,hk,Lv _ _ h⟩
 ·exact hk.elim
theorem xL {S:Imm} {w:World} {s p:ByteArray} {vs:Array Value} (h:bC S w noI [.str s,.str p] vs):vs= #[.string s,.string p]:=by
 obtain⟨v,u,rfl,h1,h2⟩:=ET h;cases h1;cases h2;rfl
def Fg (s p:ByteArray):Bool:=Go.Lib.hasSuffix s.data.toList p.data.toList
theorem Rl (s p:ByteArray) (hs:s.size≤9223372036854775807):aF Tryz.prog 112 [.str s,.str p] (.bp (Fg s p)):=by
 refine iD (enters' Tryz.func112 (by rfl) (by rfl)) fun S w vs himm hA=>?_
 rw[xL hA];refine⟨_,.bp _ _,(Tryz.strings_HasSuffix s p w hs).mono ?_⟩
 rintro e w' ⟨rfl,rfl⟩
 exact⟨rfl,.refl _ _⟩
def Rm:PSp:=fun xs K=>match xs with
 | [.str s,.str p]=>VC (s.size≤9223372036854775807)∧K (.bp (Fg s p))
 |_=>False
theorem aaE:POK Tryz.prog 112 Rm:=by
 intro xs K h;unfold Rm at h;split at h
 ·exact⟨_,h.2,Rl _ _ h.1.get⟩
 ·exact h.elim
def jo (s p:ByteArray):ByteArray:=⟨(Go.Lib.trimSuffix s.data.toList p.data.toList).toArray⟩
theorem Ro (s p:ByteArray) (hs:s.size≤9223372036854775807):aF Tryz.prog 114 [.str s,.str p] (.str (jo s p)):=by
 refine iD (enters' Tryz.func114 (by rfl) (by rfl)) fun S w vs himm hA=>?_
 rw[xL hA];refine⟨_,.str _ _,(Tryz.strings_TrimSuffix s p w hs).mono ?_⟩
 rintro e w' ⟨rfl,rfl⟩
 exact⟨rfl,.refl _ _⟩
def Rp:PSp:=fun xs K=>match xs with
 | [.str s,.str p]=>VC (s.size≤9223372036854775807)∧K (.str (jo s p))
 |_=>False
theorem aaF:POK Tryz.prog 114 Rp:=by
 intro xs K h;unfold Rp at h;split at h
 ·exact⟨_,h.2,Ro _ _ h.1.get⟩
 ·exact h.elim
def jZ (s p:ByteArray):ByteArray:=⟨(Go.Lib.trimPrefix s.data.toList p.data.toList).toArray⟩
def preB (s p:ByteArray):Bool:=Go.Lib.hasPrefix s.data.toList p.data.toList
theorem Rq (s p:ByteArray):aF Tryz.prog 229 [.str s,.str p] (.tup [.str (jZ s p),.bp (preB s p)]):=by
 refine iD (enters' Tryz.func229 (by rfl) (by rfl)) fun S w vs himm hA=>?_
 rw[xL hA];refine⟨.tuple #[.string (jZ s p),.bool (preB s p)],.tup _ _ _ rfl (fun i hi=>by
  match i,hi with
  |0,_=>exact .str _ _
  |1,_=>exact .bp _ _),(Tryz.strings_CutPrefix s p w).mono ?_⟩
 rintro e w' ⟨rfl,rfl⟩
 exact⟨rfl,.refl _ _⟩
def Rs:PSp:=fun xs K=>match xs with
 | [.str s,.str p]=>VC (True)∧K (.tup [.str (jZ s p),.bp (preB s p)])
 |_=>False
theorem aaG:POK Tryz.prog 229 Rs:=by
 intro xs K h;unfold Rs at h;split at h
 ·exact⟨_,h.2,Rq _ _⟩
 ·exact h.elim
theorem OC (s:ByteArray) (n:Int) (hl:s.size≤18) (h:Go.Lib.atoi s.data.toList=some n):aF Tryz.prog 230 [.str s] (.tup [.int .i64 n,.nili]):=by
 refine iD (enters' Tryz.func230 (by rfl) (by rfl)) fun S w vs himm hA=>?_
 obtain⟨v,rfl,h1⟩:=xE hA;cases h1
 refine⟨.tuple #[.int .i64 n,.nilIface],.tup _ _ _ rfl (fun i hi=>by
  match i,hi with
  |0,_=>exact .int _ _ _
  |1,_=>exact .nili _),(Tryz.strconv_Atoi s n hl h w).mono ?_⟩
 rintro e w' ⟨rfl,t,rfl⟩
 exact⟨rfl,⟨by unfold Lib.bytesWorld World.freeze;split<;>rfl,by unfold Lib.bytesWorld World.freeze;split<;>rfl,by unfold Lib.bytesWorld World.freeze;split<;>rfl,by rw[Lib.bytesWorld_size];omega,fun i hi=>Lib.bytesWorld_at_old w 5 t i hi⟩⟩
def Lx:PSp:=fun xs K=>match xs with
 | [.str s]=>∃n:Int,VC (s.size≤18∧Go.Lib.atoi s.data.toList=some n)∧K (.tup [.int .i64 n,.nili])
 |_=>False
theorem XB:POK Tryz.prog 230 Lx:=by
 intro xs K hk;unfold Lx at hk;split at hk
 ·obtain⟨n,⟨h1,h2⟩,hk⟩:=hk
  exact⟨_,hk,OC _ _ h1 h2⟩
 ·exact hk.elim
end Go.Eng.YtcechbdgokjmgaaGreatDoor
namespace Go.Eng.YtcechbdgokjmgaaGreatDoor
set_option linter.unusedSimpArgs false
set_option linter.unusedVariables false
def mkA (a:Nat) (l:List Int):Nat:=l.foldl (fun a x=>a|||2 ^ x.toNat) a
def mk (l:List Int):Nat:=mkA 0 l
def InM (l:List Int):Prop:=∀x∈l,0≤x∧x≤31
theorem XC:∀(l:List Int) (a i:Nat),InM l→(mkA a l).testBit i=(a.testBit i||decide ((i:Int)∈l)):=by
 intro l;induction l with
 |nil=>intro a i _;simp[mkA]
 |cons x l ih=>
  intro a i h;have hx:=h x (by simp)
  have:mkA a (x::l)=mkA (a|||2 ^ x.toNat) l:=rfl;rw[this,ih _ _ (fun y hy=>h y (by simp[hy])),Nat.testBit_or,af6]
  have e:decide (x.toNat=i)=decide ((i:Int)=x):=by by_cases e:x.toNat=i<;>simp<;>omega
  rw[e,Bool.or_assoc];congr 1;rw[af7];simp
theorem Jc (i:Nat):(1:Nat).testBit i=decide (i=0):=by
 have:=af6 (n:=0) (m:=i);simp only[Nat.pow_zero]at this;rw[this,af7];simp;omega
theorem dJ {l:List Int} (h:InM l) (i:Nat):(mk l).testBit i=decide ((i:Int)∈l):=by
 unfold mk;rw[XC l 0 i h];simp
theorem gP {l:List Int} (h:InM l):mk l<4294967296:=by
 refine af8 (n:=32) _ fun i hi=>?_;rw[dJ h];simp only[decide_eq_false_iff_not];intro hm;have:=h _ hm;omega
theorem aaH {l:List Int} (h:∀x∈l,0≤x∧x≤16):mk l<131072:=by
 refine af8 (n:=17) _ fun i hi=>?_;rw[dJ (fun x hx=>by have:=h x hx;omega)]
 simp only[decide_eq_false_iff_not];intro hm;have:=h _ hm;omega
theorem aaI {l u:List Int} (hl:InM l) (hu:InM u) (h:∀x,x∈l↔x∈u):mk l=mk u:=by
 apply af9;intro i;rw[dJ hl,dJ hu];simp[h]
theorem mk_inj {l u:List Int} (hl:InM l) (hu:InM u) (h:mk l=mk u) (x:Int):x∈l↔x∈u:=by
 have key:∀(l u:List Int),InM l→InM u→mk l=mk u→x∈l→x∈u:=fun l u hl hu h hx=>by
  have hb:=hl x hx;have h1:=dJ hl x.toNat;rw[h,dJ hu]at h1;have e:((x.toNat:Nat):Int)=x:=by omega
  rw[e]at h1;simpa [hx]using h1
 exact⟨key l u hl hu h,key u l hu hl h.symm⟩
theorem mk_one {x:Int}:mk [x]=2 ^ x.toNat:=by simp[mk,mkA]
theorem mk_zero {l:List Int} (hl:InM l):mk l=0↔l=[]:=by
 constructor
 ·intro h
  cases l with
  |nil=>rfl
  |cons x l=>exact absurd ((mk_inj hl (u:=[]) (fun x hx=>by simp at hx) h x).1 (by simp)) (by simp)
 ·rintro rfl;rfl
theorem gQ (n:Nat) (h:n≤31):0≤(1:Int)*2 ^ n∧(1:Int)*2 ^ n≤4294967295∧n≤IntKind.u32.bits:=by
 have h1:(2:Nat) ^ n≤2 ^ 31:=aga (by omega) h
 have h2:(1:Int)*2 ^ n=((2 ^ n:Nat):Int):=by rw[agb];norm_cast
 have h3:IntKind.u32.bits=32:=rfl;obtain⟨q,hq⟩:∃q:Nat,2 ^ n=q:=⟨_,rfl⟩;rw[hq]at h1;rw[h2,hq];refine⟨by omega,by omega,by omega⟩
theorem xM (n:Nat) (h:n<4294967296):IntKind.u32.wrap (n:Int)=n:=by
 simp only[IntKind.wrap,IntKind.bits,IntKind.signed];simp;omega
theorem kQ (m i:Nat) (h:m<4294967296):(aey IntKind.u32.bits (m:Int)).getLsbD i=(decide (i<32)&&m.testBit i):=by
 show(aey 32 (m:Int)).getLsbD i=_;rw[BitVec.ofInt_natCast,BitVec.getLsbD_ofNat]
theorem Dr {m n k:Nat} (hm:m<4294967296) (hn:n<4294967296) (h:∀i,i<32→k.testBit i=(m.testBit i&&n.testBit i)) (hk:k<4294967296):
 IntKind.u32.wrap ((aey IntKind.u32.bits (m:Int)&&& aey IntKind.u32.bits (n:Int)).toNat:Int)=k:=by
 have e:(aey IntKind.u32.bits (m:Int)&&& aey IntKind.u32.bits (n:Int)).toNat=k:=by
  apply af9;intro i;rw[agc,agd,kQ m i hm,kQ n i hn];by_cases hi:i<32
  ·rw[h i hi];simp[hi]
  ·rw[agf (x:=k) (i:=i) (by have:=aga (n:=2) (by omega) (show 32≤i by omega);omega)];simp[hi]
 rw[e,xM _ hk]
theorem aaJ {m n k:Nat} (hm:m<4294967296) (hn:n<4294967296) (h:∀i,i<32→k.testBit i=(m.testBit i||n.testBit i)) (hk:k<4294967296):
 IntKind.u32.wrap ((aey IntKind.u32.bits (m:Int)|||aey IntKind.u32.bits (n:Int)).toNat:Int)=k:=by
 have e:(aey IntKind.u32.bits (m:Int)|||aey IntKind.u32.bits (n:Int)).toNat=k:=by
  apply af9;intro i;rw[agc,BitVec.getLsbD_or,kQ m i hm,kQ n i hn];by_cases hi:i<32
  ·rw[h i hi];simp[hi]
  ·rw[agf (x:=k) (i:=i) (by have:=aga (n:=2) (by omega) (show 32≤i by omega);omega)];simp[hi]
 rw[e,xM _ hk]
theorem abS {m n k:Nat} (hm:m<4294967296) (hn:n<4294967296) (h:∀i,i<32→k.testBit i=(m.testBit i&&!n.testBit i)) (hk:k<4294967296):
 IntKind.u32.wrap ((aey IntKind.u32.bits (m:Int)&&& ~~~aey IntKind.u32.bits (n:Int)).toNat:Int)=k:=by
 have e:(aey IntKind.u32.bits (m:Int)&&& ~~~aey IntKind.u32.bits (n:Int)).toNat=k:=by
  apply af9;intro i;rw[agc,agd,BitVec.getLsbD_not,kQ m i hm,kQ n i hn];by_cases hi:i<32
  ·rw[h i hi];simp[hi,show i<IntKind.u32.bits from hi]
  ·rw[agf (x:=k) (i:=i) (by have:=aga (n:=2) (by omega) (show 32≤i by omega);omega)];simp[hi]
 rw[e,xM _ hk]
theorem rQ {l:List Int} {x:Int} (hl:InM l) (hx:0≤x∧x≤31):
 IntKind.u32.wrap ((aey IntKind.u32.bits (mk l:Int)|||aey IntKind.u32.bits (1*2 ^ x.toNat)).toNat:Int)=(mk (l++[x]):Nat):=by
 have hh:InM (l++[x]):=fun y hy=>by
  rcases aep.1 hy with h|h
  ·exact hl y h
  ·simp at h;subst h;exact hx
 have hone:InM [x]:=fun y hy=>by simp at hy;subst hy;exact hx
 rw[agb,show((2:Int) ^ x.toNat)=((mk [x]:Nat):Int) by rw[mk_one];norm_cast]
 refine aaJ (gP hl) (gP hone) (fun i hi=>?_) (gP hh);rw[dJ hh,dJ hl,dJ hone];simp
theorem aaK {l u:List Int} (hl:InM l) (hu:InM u):
 IntKind.u32.wrap ((aey IntKind.u32.bits (mk l:Int)|||aey IntKind.u32.bits (mk u:Int)).toNat:Int)=(mk (l++u):Nat):=by
 have hh:InM (l++u):=fun y hy=>by
  rcases aep.1 hy with h|h
  ·exact hl y h
  ·exact hu y h
 refine aaJ (gP hl) (gP hu) (fun i hi=>?_) (gP hh);rw[dJ hh,dJ hl,dJ hu];simp
theorem OD {l u:List Int} (hl:InM l) (hu:InM u):
 IntKind.u32.wrap ((aey IntKind.u32.bits (mk l:Int)&&& ~~~aey IntKind.u32.bits (mk u:Int)).toNat:Int)=(mk (l.filter fun y=>!decide (y∈u)):Nat):=by
 have hh:InM (l.filter fun y=>!decide (y∈u)):=fun y hy=>hl y (agh.1 hy).1;refine abS (gP hl) (gP hu) (fun i hi=>?_) (gP hh);rw[dJ hh,dJ hl,dJ hu];simp
def dQ (l:List Int) (x:Int):List Int:=l.filter fun y=>!decide (y=x)
theorem qz {l:List Int} {x:Int} (hl:InM l) (hx:0≤x∧x≤31):
 IntKind.u32.wrap ((aey IntKind.u32.bits (mk l:Int)&&& ~~~aey IntKind.u32.bits (1*2 ^ x.toNat)).toNat:Int)=(mk (dQ l x):Nat):=by
 have hone:InM [x]:=fun y hy=>by simp at hy;subst hy;exact hx
 rw[agb,show((2:Int) ^ x.toNat)=((mk [x]:Nat):Int) by rw[mk_one];norm_cast,OD hl hone]
 simp[dQ]
theorem OE {l:List Int} {x:Int} (hl:InM l) (hx:0≤x∧x≤31):
 IntKind.u32.wrap ((aey IntKind.u32.bits ((mk l:Int) / 2 ^ x.toNat)&&& aey IntKind.u32.bits 1).toNat:Int)=if x∈l then 1 else 0:=by
 have e:((mk l:Int) / 2 ^ x.toNat)=((mk l>>>x.toNat:Nat):Int):=by rw[Nat.shiftRight_eq_div_pow];norm_cast
 have h1:mk l>>>x.toNat<4294967296:=Nat.lt_of_le_of_lt (Nat.shiftRight_le _ _) (gP hl);rw[e,show(1:Int)=((1:Nat):Int)from rfl,Dr (k:=if x∈l then 1 else 0) h1 (by omega) (fun i hi=>?_) (by split<;>omega)]
 ·split<;>rfl
 ·rw[Nat.testBit_shiftRight,dJ hl,Jc]
  by_cases h0:i=0
  ·subst h0
   have:((x.toNat+0:Nat):Int)=x:=by omega
   rw[this];by_cases hm:x∈l<;>simp[hm]
  ·rw[show decide (i=0)=false by simp[h0],Bool.and_false]
   split
   ·rw[Jc];simp[h0]
   ·simp
structure Asc (l:List Int):Prop where mkAsc::
 pw:l.Pairwise (·< ·)
 rng:∀x∈l,1≤x∧x≤16
theorem Asc.inM {l:List Int} (h:Asc l):InM l:=fun x hx=>by have:=h.rng x hx;omega
theorem Asc.tail {x:Int} {l:List Int} (h:Asc (x::l)):Asc l:=⟨(afE.1 h.pw).2,fun y hy=>h.rng y (by simp[hy])⟩
theorem Asc.head {x:Int} {l:List Int} (h:Asc (x::l)):∀y∈l,x<y:=(afE.1 h.pw).1
theorem Asc.filter {l:List Int} (h:Asc l) (p:Int→Bool):Asc (l.filter p):=⟨h.pw.filter _,fun x hx=>h.rng x (agh.1 hx).1⟩
theorem Asc.nil:Asc []:=⟨.nil,fun x hx=>by simp at hx⟩
theorem Asc.one {x:Int} (h:1≤x∧x≤16):Asc [x]:=⟨by simp,fun y hy=>by simp at hy;subst hy;exact h⟩
theorem Asc.out {l:List Int} (h:Asc l) (x:Int):Asc (dQ l x):=h.filter _
theorem XD:∀{l u:List Int},l.Pairwise (·< ·)→u.Pairwise (·< ·)→(∀x,x∈l↔x∈u)→l=u:=by
 intro l;induction l with
 |nil=>
  intro u _ _ h;cases u with
  |nil=>rfl
  |cons y u=>exact absurd ((h y).2 (by simp)) (by simp)
 |cons x l ih=>
  intro u hl hu h;cases u with
  |nil=>exact absurd ((h x).1 (by simp)) (by simp)
  |cons y u=>
   have hx:=(afE.1 hl).1;have hy:=(afE.1 hu).1;have e:x=y:=by
    rcases afD.1 ((h x).1 (by simp))with e|h1
    ·exact e
    ·rcases afD.1 ((h y).2 (by simp))with e|h2
     ·exact e.symm
     ·have:=hy x h1;have:=hx y h2;omega
   subst e;congr 1;refine ih (afE.1 hl).2 (afE.1 hu).2 fun z=>?_;constructor
   ·intro hz
    rcases afD.1 ((h z).1 (by simp[hz]))with e|h1
    ·subst e;have:=hx z hz;omega
    ·exact h1
   ·intro hz
    rcases afD.1 ((h z).2 (by simp[hz]))with e|h1
    ·subst e;have:=hy z hz;omega
    ·exact h1
theorem Asc.ext {l u:List Int} (hl:Asc l) (hu:Asc u) (h:mk l=mk u):l=u:=XD hl.pw hu.pw (mk_inj hl.inM hu.inM h)
theorem rR {x:Int} {l:List Int} (h:Asc (x::l)):∃k,mk (x::l)=2 ^ (x.toNat+1)*k+2 ^ x.toNat∧mk l=2 ^ (x.toNat+1)*k:=by
 have hx:=h.rng x (by simp)
 refine⟨mk l / 2 ^ (x.toNat+1),?_,?_⟩
 ·apply af9
  intro i;rw[dJ h.inM,agi _ (by rw[agj];have:=agk x.toNat;omega),af6,agl,dJ h.tail.inM]
  split
  ·have:((i:Int)∈x::l)↔x.toNat=i:=by
    constructor
    ·intro hm
     rcases afD.1 hm with e|hm
     ·omega
     ·have:=h.head _ hm;omega
    ·intro e;exact afD.2 (.inl (by omega))
   simp only[this]
  ·rw[show i-(x.toNat+1)+(x.toNat+1)=i by omega]
   have:((i:Int)∈x::l)↔(i:Int)∈l:=by
    rw[afD];constructor
    ·rintro(e|h)
     ·omega
     ·exact h
    ·exact .inr
   simp only[this]
 ·apply af9
  intro i;rw[agm,agl,dJ h.tail.inM i];by_cases hi:i≥x.toNat+1
  ·rw[show i-(x.toNat+1)+(x.toNat+1)=i by omega,dJ h.tail.inM];simp[hi]
  ·have:(i:Int)∉l:=fun hm=>by have:=h.head _ hm;omega
   rw[decide_eq_false hi,agn,decide_eq_false this]
theorem XE {x:Int} {l:List Int} (h:Asc (x::l)):
 IntKind.u32.wrap ((aey IntKind.u32.bits (mk (x::l):Int)&&& aey IntKind.u32.bits ((mk (x::l):Int)-1)).toNat:Int)=(mk l:Nat):=by
 obtain⟨k,h1,h2⟩:=rR h;have hx:=h.rng x (by simp)
 have hp:=agk x.toNat;have hlt:=gP h.inM;have e:((mk (x::l):Int)-1)=((2 ^ (x.toNat+1)*k+(2 ^ x.toNat-1):Nat):Int):=by rw[h1];omega
 rw[e];refine Dr hlt (by omega) (fun i hi=>?_) (gP h.tail.inM)
 rw[h1,h2,agi _ (by rw[agj];omega),agi _ (by rw[agj];omega),agm,af6,agp]
 by_cases hi:i<x.toNat+1
 ·rw[if_pos hi,if_pos hi,decide_eq_false (show¬(i≥x.toNat+1) by omega),agn]
  by_cases e:x.toNat=i
  ·subst e;simp
  ·rw[decide_eq_false e,agn]
 ·rw[if_neg hi,if_neg hi]
  simp;omega
theorem mk_pos {x:Int} {l:List Int} (h:Asc (x::l)):0<mk (x::l):=by
 obtain⟨k,h1,_⟩:=rR h;have hp:=agk x.toNat;omega
theorem aaL {x:Int} {l:List Int} (h:Asc (x::l)):Go.Lib.ctz 32 (mk (x::l))=x.toNat:=by
 have hp:=mk_pos h;obtain⟨m,h1,h2⟩:=Go.Lib.ctzFrom_spec 32 (mk (x::l)) hp (gP h.inM);obtain⟨k,h3,_⟩:=rR h;unfold Go.Lib.ctz;rw[if_neg (by omega)]
 generalize Go.Lib.ctzFrom 32 (mk (x::l))=c at h1 h2
 have b1:∀i,(mk (x::l)).testBit i=(decide (i≥c)&&(2*m+1).testBit (i-c)):=fun i=>by rw[h1,agm]
 have hx:=h.rng x (by simp)
 have b2:=b1 x.toNat;rw[dJ h.inM]at b2;have e1:((x.toNat:Nat):Int)=x:=by omega
 rw[e1]at b2;simp at b2;have b3:=b1 c;rw[dJ h.inM]at b3;simp at b3;rcases b3 with e|b3
 ·omega
 ·have:=h.head _ b3;omega
structure St where
 cs:List (List Int)
 ds:List Bool
def St.cd (s:St) (i:Nat):List Int:=s.cs.getD i []
def St.dc (s:St) (i:Nat):Bool:=s.ds.getD i false
def ms (cs:List (List Int)):List Int:=cs.map fun l=>((mk l:Nat):Int)
theorem bQ (cs:List (List Int)):(ms cs).length=cs.length:=by simp[ms]
theorem eP {cs:List (List Int)} {i:Nat} (h:i<cs.length):(ms cs).getD i 0=(mk (cs.getD i []):Nat):=by
 simp[ms,aeo,h]
structure aaM (c:Int) (l:List Int):Prop where
 ne:1≤l.length
 len:l.length≤16
 rng:∀x∈l,0≤x∧x<c
 pw:l.Pairwise (·< ·)
structure bO (c:Int) (ls:List (List Int)) (sum:Int) (s:St):Prop where
 c1:1≤c∧c≤16
 ll:1≤ls.length∧ls.length≤128
 ln:∀i,i<ls.length→aaM c (ls.getD i [])
 sm: -999999999≤sum∧sum≤999999999
 cl:(s.cs.length:Int)=c
 dl:(s.ds.length:Int)=c
 asc:∀i,i<s.cs.length→Asc (s.cd i)∧∀x∈s.cd i,x≤c
 dec:∀i,i<s.cs.length→s.dc i=true→(s.cd i).length=1
def hd0 (l:List Int):Int:=l.getD 0 0
def ls0 (l:List Int):Int:=l.getD (l.length-1) 0
def opn (s:St) (l:List Int) (but:Int):List Int:=l.filter fun x=>!(s.dc x.toNat)&&decide (x≠but)
def rst (s:St) (sum:Int) (l:List Int):Int:=l.foldl (fun a x=>if s.dc x.toNat then a-hd0 (s.cd x.toNat)else a) sum
theorem XF (s:St) (l:List Int) (x but:Int):opn s (l++[x]) but=opn s l but++if !(s.dc x.toNat)&&decide (x≠but)then [x]else []:=by
 unfold opn;rw[List.filter_append,List.filter_cons,List.filter_nil]
theorem Je (s:St) (sum:Int) (l:List Int) (x:Int):rst s sum (l++[x])=if s.dc x.toNat then rst s sum l-hd0 (s.cd x.toNat)else rst s sum l:=by
 unfold rst;rw[agq];rfl
theorem dF {l:List Int} {i:Nat} (h:i<l.length):l.take (i+1)=l.take i++[l.getD i 0]:=by
 rw[af3,aeo,aev h];rfl
theorem vZ {l:List Int} (h:1≤l.length):hd0 l∈l:=by
 cases l with
 |nil=>simp at h
 |cons x l=>simp[hd0]
theorem Ag {l:List Int} (h:1≤l.length):ls0 l∈l:=by
 unfold ls0;rw[aeo,aev (show l.length-1<l.length by omega)]
 exact agr _
theorem adS {l:List Int} (h:l.Pairwise (·< ·)):∀x∈l,hd0 l≤x:=by
 cases l with
 |nil=>intro x hx;simp at hx
 |cons y l=>
  intro x hx;rcases afD.1 hx with rfl|hx
  ·simp[hd0]
  ·have:=(afE.1 h).1 x hx;simp[hd0];omega
theorem aaN {l:List Int} (h:l.Pairwise (·< ·)):∀x∈l,x≤ls0 l:=by
 intro x hx;obtain⟨i,hi,rfl⟩:=aeu hx;unfold ls0;rw[aeo,aev (show l.length-1<l.length by omega)]
 by_cases e:i=l.length-1
 ·subst e;simp
 ·have:=List.pairwise_iff_getElem.1 h i (l.length-1) hi (by omega) (by omega)
  simp;omega
theorem bO.at {c:Int} {ls:List (List Int)} {sum:Int} {s:St} (h:bO c ls sum s) {x:Int} (hx:0≤x∧x<c):x.toNat<s.cs.length∧x.toNat<s.ds.length:=by
 have:=h.cl;have:=h.dl;omega
theorem bO.num {c:Int} {ls:List (List Int)} {sum:Int} {s:St} (h:bO c ls sum s) {x:Int} (hx:0≤x∧x<c) (hd:s.dc x.toNat=true):1≤hd0 (s.cd x.toNat)∧hd0 (s.cd x.toNat)≤16∧s.cd x.toNat=[hd0 (s.cd x.toNat)]:=by
 have hi:=(h.at hx).1;have h1:=h.dec _ hi hd;obtain⟨y,hy⟩:=List.length_eq_one_iff.1 h1;have h2:=(h.asc _ hi).1.rng (hd0 (s.cd x.toNat)) (vZ (by omega))
 refine⟨h2.1,h2.2,?_⟩;rw[hy];rfl
theorem Fh {c:Int} {ls:List (List Int)} {sum:Int} {s:St} (h:bO c ls sum s) {l:List Int} (hl:∀x∈l,0≤x∧x<c):∀i,i≤l.length→sum-16*i≤rst s sum (l.take i)∧rst s sum (l.take i)≤sum:=by
 intro i;induction i with
 |zero=>intro _;simp[rst]
 |succ i ih=>
  intro hi;have ih:=ih (by omega)
  have hx:=hl (l.getD i 0) (by rw[aeo,aev (show i<l.length by omega)];exact agr _)
  rw[dF (by omega),Je]
  split
  ·rename_i hd
   have:=h.num hx hd;omega
  ·omega
def xO (s:St) (sum:Int) (l:List Int) (c x:Int):Bool:=decide ((opn s l c).length=0)&&decide (rst s sum l=x)
def xP (s:St) (c:Int):Bool:=decide ((s.cd c.toNat).length=1)
def qd (s:St) (c x:Int):Bool:=(ael s.cs.length).all fun i=>decide ((i:Int)=c)||!decide (x∈s.cd i)
def xQ (s:St) (o:List Int):Int:=o.foldl (fun a y=>a+hd0 (s.cd y.toNat)) 0
def xR (s:St) (o:List Int):Int:=o.foldl (fun a y=>a+ls0 (s.cd y.toNat)) 0
def xS (s:St) (sum:Int) (l:List Int) (c x:Int):Bool:=
 (opn s l c).any (fun y=>decide (s.cd y.toNat=[]))||(decide (rst s sum l-x<xQ s (opn s l c))||decide (xR s (opn s l c)<rst s sum l-x))
def chs (s:St):List Int→List Int→Int→Bool
 | [],_,sum=>decide (sum=0)
 |y::r,used,sum=>((s.cd y.toNat).filter fun x=>!decide (x∈used)).any fun x=>chs s r (used++[x]) (sum-x)
def xU (s:St) (sum:Int) (l:List Int) (c x:Int):Bool:=decide ((opn s l c).length<4)&&!chs s (opn s l c) [x] (rst s sum l-x)
def brk (c:Int) (ls:List (List Int)) (sum:Int) (s:St):Bool:=
 (!(ael c.toNat).all fun i=>s.cs.any fun l=>decide (((i:Int)+1)∈l))||s.cs.any (fun l=>decide (l=[]))||ls.any fun l=>decide ((opn s l (-1)).length=0)&&decide (rst s sum l≠0)
def jst (g:Nat) (s:St) (sum:Int) (l:List Int) (y x:Int):Bool:=
 match g with
 |1=>xO s sum l y x
 |2=>xP s y
 |3=>qd s y x
 |4=>xS s sum l y x
 |5=>xU s sum l y x
 |_=>false
def okJ (g:Nat) (s:St) (sum:Int) (l:List Int) (y x:Int):Bool:=!s.dc y.toNat&&(decide (x∈s.cd y.toNat)&&jst g s sum l y x)
def apl (g:Nat) (s:St) (y x:Int):St:=
 if g≤3 then⟨(s.cs.map fun l=>dQ l x).set y.toNat [x],s.ds.set y.toNat true⟩else⟨s.cs.set y.toNat (dQ (s.cd y.toNat) x),s.ds⟩
def don (s:St):Bool:=!s.ds.any fun b=>!b
end Go.Eng.YtcechbdgokjmgaaGreatDoor
namespace Go.Eng.YtcechbdgokjmgaaGreatDoor
open Go.Proofs
set_option linter.unusedSimpArgs false
set_option linter.unusedVariables false
set_option maxHeartbeats 0
set_option maxRecDepth 100000
theorem Dt (x:Int) (h:0≤x∧x<4294967296):IntKind.u32.wrap ((aey IntKind.u32.bits x&&& aey IntKind.u32.bits 255).toNat:Int)=((x.toNat % 256:Nat):Int):=by
 obtain⟨n,rfl⟩:∃n:Nat,x=n:=⟨x.toNat,by omega⟩
 rw[show(255:Int)=((255:Nat):Int)from rfl,afg];refine Dr (by omega) (by omega) (fun i hi=>?_) (by omega)
 rw[show(256:Nat)=2 ^ 8 from rfl,Nat.testBit_mod_two_pow,show(255:Nat)=2 ^ 8-1 from rfl,agp,Bool.and_comm]
theorem Ah:∀(f g x:Nat),Go.Lib.popAux (f+g) x=Go.Lib.popAux f x+Go.Lib.popAux g (x / 2 ^ f):=by
 intro f;induction f with
 |zero=>intro g x;simp[Go.Lib.popAux]
 |succ f ih=>
  intro g x;rw[show f+1+g=(f+g)+1 by omega,Go.Lib.popAux,Go.Lib.popAux,ih,ags,agj,aeD 2,Nat.add_assoc]
theorem Ai:∀(f x:Nat),Go.Lib.popAux f (x % 2 ^ f)=Go.Lib.popAux f x:=by
 intro f;induction f with
 |zero=>intro x;simp[Go.Lib.popAux]
 |succ f ih=>
  intro x;have e1:x % 2 ^ (f+1) % 2=x % 2:=Nat.mod_mod_of_dvd x (by rw[agj];exact Nat.dvd_mul_left 2 _)
  have e2:x % 2 ^ (f+1) / 2=x / 2 % 2 ^ f:=by
   rw[agj,aeD,Nat.mod_mul_right_div_self]
  rw[Go.Lib.popAux,Go.Lib.popAux,e1,e2,ih]
theorem zx:∀(f x:Nat),Go.Lib.popAux f x≤f:=by
 intro f;induction f with
 |zero=>intro x;simp[Go.Lib.popAux]
 |succ f ih=>intro x;rw[Go.Lib.popAux];have:=ih (x / 2);omega
def uN (m:Int):Int:=(Go.Lib.popAux 32 m.toNat:Nat)
theorem OG (n:Nat) (h:n<4294967296):Go.Lib.popAux 32 n=Go.Lib.popAux 8 (n / 16777216)+Go.Lib.popAux 8 (n / 65536 % 256)+(Go.Lib.popAux 8 (n / 256 % 256)+Go.Lib.popAux 8 (n % 256)):=by
 rw[show(256:Nat)=2 ^ 8 from rfl,Ai,Ai,Ai,show(32:Nat)=8+(8+(8+8))from rfl,Ah,Ah,Ah,ags,ags];simp only[show 2 ^ 8*2 ^ 8=65536 from rfl,show 65536*2 ^ 8=16777216 from rfl];omega
theorem Aj (n:Nat) (h:n<256):IntKind.u8.wrap (n:Int)=n:=by
 simp only[IntKind.wrap,IntKind.bits,IntKind.signed];simp;omega
theorem Rt (n:Nat) (h:n<1000):IntKind.i64.wrap (n:Int)=n:=by
 simp only[IntKind.wrap,IntKind.bits,IntKind.signed];simp;omega
theorem Ru (T:Array UInt8) (hT:∀j,j<256→(T.getD j 0).toNat=Go.Lib.popAux 8 j) (m:Int) (h:0≤m∧m<4294967296):
 IntKind.i64.wrap (IntKind.u8.wrap (IntKind.u8.wrap (IntKind.u8.wrap (((T.getD (m / 2 ^ agt 24).toNat 0).toNat:Int)+((T.getD (IntKind.u32.wrap ((aey IntKind.u32.bits (m / 2 ^ agt 16)&&& aey IntKind.u32.bits 255).toNat:Int)).toNat 0).toNat:Int))+
  ((T.getD (IntKind.u32.wrap ((aey IntKind.u32.bits (m / 2 ^ agt 8)&&& aey IntKind.u32.bits 255).toNat:Int)).toNat 0).toNat:Int))+((T.getD (IntKind.u32.wrap ((aey IntKind.u32.bits m&&& aey IntKind.u32.bits 255).toNat:Int)).toNat 0).toNat:Int)))=uN m:=by
 obtain⟨n,rfl⟩:∃n:Nat,m=n:=⟨m.toNat,by omega⟩
 have e24:((n:Int) / 2 ^ agt 24)=((n / 16777216:Nat):Int):=by norm_cast
 have e16:((n:Int) / 2 ^ agt 16)=((n / 65536:Nat):Int):=by norm_cast
 have e8:((n:Int) / 2 ^ agt 8)=((n / 256:Nat):Int):=by norm_cast
 rw[e24,e16,e8,Dt _ (by omega),Dt _ (by omega),Dt _ (by omega)]
 simp only[afg];rw[hT _ (by omega),hT _ (by omega),hT _ (by omega),hT _ (by omega)]
 have:=zx 8 (n / 16777216);have:=zx 8 (n / 65536 % 256);have:=zx 8 (n / 256 % 256);have:=zx 8 (n % 256);rw[←agu,Aj _ (by omega),←agu,Aj _ (by omega),←agu,Aj _ (by omega),Rt _ (by omega)]
 unfold uN;rw[afg,OG n (by omega)]
 omega
theorem OH (m:Int) (h:0≤m∧m<4294967296):aF Tryz.prog 237 [.int .u32 m] (.int .i64 (uN m)):=by
 have b:∀x:Int,(0≤x∧x<4294967296)→0≤IntKind.u32.wrap ((aey IntKind.u32.bits x&&& aey IntKind.u32.bits 255).toNat:Int)∧IntKind.u32.wrap ((aey IntKind.u32.bits x&&& aey IntKind.u32.bits 255).toNat:Int)<256:=fun x hx=>by rw[Dt x hx];omega
 have e16:0≤m / 2 ^ agt 16∧m / 2 ^ agt 16<4294967296:=by rw[show(2:Int) ^ agt 16=65536 from rfl];omega
 have e8:0≤m / 2 ^ agt 8∧m / 2 ^ agt 8<4294967296:=by rw[show(2:Int) ^ agt 8=256 from rfl];omega
 have e24:0≤m / 2 ^ agt 24∧m / 2 ^ agt 24<256:=by rw[show(2:Int) ^ agt 24=16777216 from rfl];omega
 refine av (md:=2) (rf:=[]) mixed ak aD Tryz.func237 (by rfl) (by rfl) (by rfl) ?_
 repeat'((conv=>whnf);first|intro _|apply aI|with_reducible exact vM rfl|exact⟨⟩|apply nM|apply fM)
 all_goals first
  |(refine Sup.of (congrArg (PV.int .i64) ?_);exact Ru _ (by decide+kernel) m h)
  |(refine agv (b:=256) ?_ (by decide+kernel);first|exact e24.2|exact(b _ e16).2|exact(b _ e8).2|exact(b _ h).2)
  |exact e24.1|exact(b _ e16).1|exact(b _ e8).1|exact(b _ h).1|exact h.1|decide
theorem Cb:∀(a n y:Nat),Go.Lib.popAux (a+n) (2 ^ a*y)=Go.Lib.popAux n y:=by
 intro a;induction a with
 |zero=>intro n y;simp
 |succ a ih=>
  intro n y;have e:2 ^ (a+1)*y=2*(2 ^ a*y):=by rw[agj,aeD (2 ^ a) 2,agw]
  rw[show a+1+n=(a+n)+1 by omega,Go.Lib.popAux,e,agx,agy _ (by omega),ih,aeC]
theorem pop_mk {l:List Int} (h:Asc l):uN (mk l:Nat)=l.length:=by
 unfold uN;rw[afg];induction l with
 |nil=>rfl
 |cons x l ih=>
  obtain⟨k,h1,h2⟩:=rR h;have hx:=h.rng x (by simp)
  have ih:=ih h.tail;rw[h2,agj,agw,show 32=x.toNat+(31-x.toNat+1) by omega,Cb,Go.Lib.popAux,agx,agy _ (by omega)]at ih
  rw[h1,agj,agw,show 2 ^ x.toNat*(2*k)+2 ^ x.toNat=2 ^ x.toNat*(2*k+1) by rw[af2,aeL],show 32=x.toNat+(31-x.toNat+1) by omega,Cb,Go.Lib.popAux,
   show(2*k+1) % 2=1 by omega,show(2*k+1) / 2=k by omega,ad4]
  omega
def eX (m:Int):Int:=(Go.Lib.bitLen m.toNat:Nat)
theorem wm (T:Array UInt8) (hT:∀j,j<256→(T.getD j 0).toNat=Go.Lib.bitLen j) (x:Int) (h:0≤x∧x<256):((T.getD x.toNat 0).toNat:Int)=eX x:=by
 rw[hT _ (by omega)];rfl
theorem wo (x:Int) (h:0≤x∧x<256):0≤eX x∧eX x≤8:=by
 have:=Go.Lib.bitLen_le8 ⟨x.toNat,by omega⟩
 unfold eX;simp only at this;omega
theorem Jf (k n:Nat) (h0:2 ^ k≤n) (h:n<4294967296):eX (n:Int)=(k:Int)+eX ((n / 2 ^ k:Nat):Int):=by
 have h2:(4294967296:Nat)<2 ^ 64:=by decide
 unfold eX;rw[afg,afg,Go.Lib.bitLen_shift k n h0 (by omega)]
 omega
theorem Jg (k K:Nat) (hK:2 ^ k=K) (x:Int) (h0:(K:Int)≤x) (h:x<4294967296):eX x=k+eX (x / K):=by
 obtain⟨n,rfl⟩:∃n:Nat,x=n:=⟨x.toNat,by omega⟩
 have:=Jf k n (by rw[hK];omega) (by omega)
 rw[this,hK];rfl
theorem Rv (m:Int) (h:0≤m∧m<4294967296):aF Tryz.prog 257 [.int .u32 m] (.int .i64 (eX m)):=by
 have p16:(2:Int) ^ agt 16=65536:=by decide
 have p8:(2:Int) ^ agt 8=256:=by decide
 have d16:agt 16≤IntKind.u32.bits:=by decide
 have d8:agt 8≤IntKind.u32.bits:=by decide
 have a1:65536≤m→eX m=16+eX (m / 65536):=fun h1=>Jg 16 65536 rfl m h1 h.2;have a2:∀x:Int,256≤x→x<4294967296→eX x=8+eX (x / 256):=fun x h1 h2=>Jg 8 256 rfl x h1 h2;refine av (md:=1) (rf:=[]) mixed ak aD Tryz.func257 (by rfl) (by rfl) (by rfl) ?_
 repeat'((conv=>whnf);first|intro _|apply aI|with_reducible exact vM rfl|exact⟨⟩|apply nM|apply fM)
 all_goals((try apply vM);(try simp only[vq]at*);try omega)
 all_goals(try simp only[p16,p8]at*)
 all_goals(try first|exact d16|exact d8|omega|(refine agv (b:=256) (by omega) (by decide+kernel)))
 all_goals(try(rw[wm _ ?_ (m / 65536 / 256) (by omega)];rotate_left;(decide+kernel);(have:=wo (m / 65536 / 256) (by omega));first|omega|((refine Sup.of (congrArg (PV.int .i64) ?_));rw[a1 (by omega),a2 (m / 65536) (by omega) (by omega)];omega)))
 all_goals(try(rw[wm _ ?_ (m / 65536) (by omega)];rotate_left;(decide+kernel);(have:=wo (m / 65536) (by omega));first|omega|((refine Sup.of (congrArg (PV.int .i64) ?_));rw[a1 (by omega)])))
 all_goals(try(rw[wm _ ?_ (m / 256) (by omega)];rotate_left;(decide+kernel);(have:=wo (m / 256) (by omega));first|omega|((refine Sup.of (congrArg (PV.int .i64) ?_));rw[a2 m (by omega) (by omega)];omega)))
 all_goals(try(rw[wm _ ?_ (m) (by omega)];rotate_left;(decide+kernel);(have:=wo (m) (by omega));first|omega|((refine Sup.of (congrArg (PV.int .i64) ?_));omega)))
def Rx:PSp:=fun xs K=>match xs with
 | [.int .u32 m]=>VC (0≤m∧m<4294967296)∧K (.int .i64 (eX m))
 |_=>False
theorem aaO:POK Tryz.prog 257 Rx:=by
 intro xs K h;unfold Rx at h;split at h
 ·exact⟨_,h.2,Rv _ h.1.get⟩
 ·exact h.elim
noncomputable def acG:CPT:=aA 257 (aB Rx) noC
theorem XG:aW Tryz.prog acG:=aj (au aaO) aD
theorem Jh (m:Int) (h:0≤m∧m<4294967296):0≤eX m∧eX m≤64:=by
 have:∀f x,Go.Lib.bitLenAux f x≤f:=by
  intro f;induction f with
  |zero=>intro x;simp[Go.Lib.bitLenAux]
  |succ f ih=>intro x;rw[Go.Lib.bitLenAux];(split;omega;(have:=ih (x / 2);omega))
 have h2:=this 64 m.toNat;have h3:eX m=((Go.Lib.bitLenAux 64 m.toNat:Nat):Int):=rfl;omega
theorem XH (m:Int) (h:0≤m∧m<4294967296):aF Tryz.prog 238 [.int .u32 m] (.int .i64 (32-eX m)):=by
 have:=Jh m h;refine av (md:=1) (rf:=[]) mixed ak XG Tryz.func238 (by rfl) (by rfl) (by rfl) ?_
 repeat'((conv=>whnf);first|intro _|apply aI|with_reducible exact vM rfl|exact⟨⟩|apply nM|apply fM)
 all_goals((try apply vM);(try simp only[vq]at*);try omega)
 all_goals exact Sup.of rfl
def lzP:PSp:=fun xs K=>match xs with
 | [.int .u32 m]=>VC (0≤m∧m<4294967296)∧K (.int .i64 (32-eX m))
 |_=>False
theorem abT:POK Tryz.prog 238 lzP:=by
 intro xs K h;unfold lzP at h;split at h
 ·exact⟨_,h.2,XH _ h.1.get⟩
 ·exact h.elim
def LA:PSp:=fun xs K=>match xs with
 | [.int .u32 m]=>VC (0≤m∧m<4294967296)∧K (.int .i64 (uN m))
 |_=>False
theorem XI:POK Tryz.prog 237 LA:=by
 intro xs K h;unfold LA at h;split at h
 ·exact⟨_,h.2,OH _ h.1.get⟩
 ·exact h.elim
def oV (m:Int):Int:=(Go.Lib.ctz 32 m.toNat:Nat)
theorem u32_neg (n:Nat) (h0:n≠0) (h:n<4294967296):IntKind.u32.wrap (0-(n:Int))=((4294967296-n:Nat):Int):=by
 simp only[IntKind.wrap,IntKind.bits,IntKind.signed];simp;omega
theorem XJ (m:Int) (h:0<m∧m<4294967296):∃k:Nat,k<32∧oV m=k∧IntKind.u32.wrap (IntKind.u32.wrap ((aey IntKind.u32.bits m&&& aey IntKind.u32.bits (IntKind.u32.wrap (0-m))).toNat:Int)*125613361) / 2 ^ agt 27=((2 ^ k*125613361 % 4294967296 / 134217728:Nat):Int):=by
 obtain⟨n,rfl⟩:∃n:Nat,m=n:=⟨m.toNat,by omega⟩
 obtain⟨h1,h2⟩:=Go.Lib.lowest_bit 32 n (by omega) (by omega)
 refine⟨Go.Lib.ctz 32 n,h2,by simp[oV],?_⟩
 have hp:2 ^ Go.Lib.ctz 32 n≤2 ^ 31:=aga (by omega) (by omega)
 rw[u32_neg n (by omega) (by omega),Dr (k:=2 ^ Go.Lib.ctz 32 n) (by omega) (by omega) (fun i hi=>by rw[←h1,Nat.testBit_and]) (by omega)]
 have e:((2 ^ Go.Lib.ctz 32 n:Nat):Int)*125613361=((2 ^ Go.Lib.ctz 32 n*125613361:Nat):Int):=by rw[Int.natCast_mul];rfl
 rw[e,show(2:Int) ^ agt 27=((134217728:Nat):Int) by decide]
 have w:∀q:Nat,IntKind.u32.wrap (q:Int)=((q % 4294967296:Nat):Int):=fun q=>by simp only[IntKind.wrap,IntKind.bits,IntKind.signed];simp
 rw[w,Int.natCast_ediv]
theorem aaP:∀k:Nat,k<32→qp.getD (2 ^ k*125613361 % 4294967296 / 134217728) 0=(k:Int):=by decide+kernel
theorem OI (n:Int) (h:0≤n∧n<1000):IntKind.i64.wrap n=n:=by
 simp only[IntKind.wrap,IntKind.bits,IntKind.signed];simp;omega
theorem Ry:aF Tryz.prog 220 [.int .u32 0] (.int .i64 32):=by
 refine av (md:=2) (rf:=[]) mixed ak aD Tryz.func220 (by rfl) (by rfl) (by rfl) ?_
 repeat'((conv=>whnf);first|(intro hq;(try simp only[vw]at hq);try first|exact absurd hq (by decide)|exfalso;omega)|apply aI|with_reducible exact vM rfl|exact⟨⟩|apply nM|apply fM)
 all_goals exact Sup.of rfl
theorem XK (m q:Int) (k:Nat) (h0:¬m=0) (hk:k<32) (h1:IntKind.u32.wrap (IntKind.u32.wrap ((aey IntKind.u32.bits m&&& aey IntKind.u32.bits (IntKind.u32.wrap (0-m))).toNat:Int)*125613361)=q) (hq0:0≤q)
 (h2:q / 2 ^ agt 27=(k:Int)) (e:Int) (he:0≤e∧e<1000) (ht:qp.getD k 0=e):aF Tryz.prog 220 [.int .u32 m] (.int .i64 e):=by
 have e5:te5.size=1:=by rfl
 have d27:agt 27≤IntKind.u32.bits:=by decide
 have hl:qp.length=32:=rfl;refine av (md:=2) (rf:=[]) mixed ak aD Tryz.func220 (by rfl) (by rfl) (by rfl) ?_
 repeat'((conv=>whnf);first|(intro hq;(try simp only[vw]at hq);try first|exact absurd hq (by decide)|exfalso;omega)|apply aI|with_reducible exact vM rfl|exact⟨⟩|apply nM|apply fM)
 all_goals first|exact h0|exact d27|(rw[h1];exact hq0)|(rw[h1,h2];omega)|(rw[h1,h2,e5,afg];simp only[CL.ncell,hl];omega)|(refine Sup.of (congrArg (PV.int .i64) ?_);rw[h1,h2,e5,afg,aeL,aeC,ht,OI _ he])|omega
theorem Rz (m:Int) (h:0≤m∧m<4294967296):aF Tryz.prog 220 [.int .u32 m] (.int .i64 (oV m)):=by
 by_cases h0:m=0
 ·subst h0
  exact Ry
 obtain⟨k,hk,h1,h2⟩:=XJ m (by omega)
 have hb:=Go.Lib.deBruijn32_at k hk;have ht:=aaP k hk;rw[h1];refine XK m _ _ h0 hb.1 rfl ?_ h2 _ (by omega) ht
 generalize IntKind.u32.wrap ((aey IntKind.u32.bits m&&& aey IntKind.u32.bits (IntKind.u32.wrap (0-m))).toNat:Int)*125613361=q
 simp only[IntKind.wrap,IntKind.bits,IntKind.signed];simp;omega
def RB:PSp:=fun xs K=>match xs with
 | [.int .u32 m]=>VC (0≤m∧m<4294967296)∧K (.int .i64 (oV m))
 |_=>False
theorem aaQ:POK Tryz.prog 220 RB:=by
 intro xs K h;unfold RB at h;split at h
 ·exact⟨_,h.2,Rz _ h.1.get⟩
 ·exact h.elim
noncomputable def acH:CPT:=aA 220 (aB RB) (aA 237 (aB LA) (aA 238 (aB lzP) noC))
theorem Ak:aW Tryz.prog acH:=aj (au aaQ) (aj (au XI) (aj (au abT) aD))
theorem LB (m:Int) (h:0≤m∧m<4294967296):aF Tryz.prog 190 [.int .u32 m] (.int .i64 (oV m)):=by
 refine av (md:=1) (rf:=[]) mixed ak Ak Tryz.func190 (by rfl) (by rfl) (by rfl) ?_
 repeat'((conv=>whnf);first|intro _|apply aI|with_reducible exact vM rfl|exact⟨⟩|apply nM|apply fM)
 all_goals((try apply vM);(try simp only[vq]at*);try omega)
 all_goals exact Sup.of rfl
theorem OJ (m:Int) (h:0≤m∧m<4294967296):aF Tryz.prog 210 [.int .u32 m] (.int .i64 (uN m)):=by
 refine av (md:=1) (rf:=[]) mixed ak Ak Tryz.func210 (by rfl) (by rfl) (by rfl) ?_
 repeat'((conv=>whnf);first|intro _|apply aI|with_reducible exact vM rfl|exact⟨⟩|apply nM|apply fM)
 all_goals((try apply vM);(try simp only[vq]at*);try omega)
 all_goals exact Sup.of rfl
theorem CJ (m:Int) (h:0≤m∧m<4294967296):aF Tryz.prog 211 [.int .u32 m] (.int .i64 (eX m-1)):=by
 have:=Jh m h;have e:(31:Int)-(32-eX m)=eX m-1:=by omega
 refine av (md:=1) (rf:=[]) mixed ak Ak Tryz.func211 (by rfl) (by rfl) (by rfl) ?_
 repeat'((conv=>whnf);first|intro _|apply aI|with_reducible exact vM rfl|exact⟨⟩|apply nM|apply fM)
 all_goals((try apply vM);(try simp only[vq]at*);try omega)
 all_goals(rw[e];exact Sup.of rfl)
def Al (m x:Int):Bool:=decide (IntKind.u32.wrap ((aey IntKind.u32.bits (m / 2 ^ x.toNat)&&& aey IntKind.u32.bits 1).toNat:Int)=1)
theorem OL (m x:Int) (h:0≤m) (hx:0≤x∧x≤31):aF Tryz.prog 156 [.int .u32 m,.int .i64 x] (.bp (Al m x)):=by
 have e:IntKind.u32.bits=32:=rfl;refine av (md:=1) (rf:=[]) mixed ak aD Tryz.func156 (by rfl) (by rfl) (by rfl) ?_
 repeat'((conv=>whnf);first|intro _|apply aI|with_reducible exact vM rfl|exact⟨⟩|apply nM|apply fM)
 all_goals((try apply vM);(try simp only[vq]at*);try omega)
 all_goals exact Sup.of rfl
def uO:PSp:=fun xs K=>match xs with
 | [.int .u32 m]=>VC (0≤m∧m<4294967296)∧K (.int .i64 (oV m))
 |_=>False
theorem xV:POK Tryz.prog 190 uO:=by
 intro xs K h;unfold uO at h;split at h
 ·exact⟨_,h.2,LB _ h.1.get⟩
 ·exact h.elim
def LC:PSp:=fun xs K=>match xs with
 | [.int .u32 m]=>VC (0≤m∧m<4294967296)∧K (.int .i64 (uN m))
 |_=>False
theorem XL:POK Tryz.prog 210 LC:=by
 intro xs K h;unfold LC at h;split at h
 ·exact⟨_,h.2,OJ _ h.1.get⟩
 ·exact h.elim
def uP:PSp:=fun xs K=>match xs with
 | [.int .u32 m]=>VC (0≤m∧m<4294967296)∧K (.int .i64 (eX m-1))
 |_=>False
theorem Ic:POK Tryz.prog 211 uP:=by
 intro xs K h;unfold uP at h;split at h
 ·exact⟨_,h.2,CJ _ h.1.get⟩
 ·exact h.elim
def zy:PSp:=fun xs K=>match xs with
 | [.int .u32 m,.int .i64 x]=>VC (0≤m∧0≤x∧x≤31)∧K (.bp (Al m x))
 |_=>False
theorem Am:POK Tryz.prog 156 zy:=by
 intro xs K h;unfold zy at h;split at h
 ·exact⟨_,h.2,OL _ _ h.1.get.1 h.1.get.2⟩
 ·exact h.elim
theorem ng {l:List Int} (h:Asc l):0≤(mk l:Int)∧(mk l:Int)<131072:=by
 have:=aaH (l:=l) (fun x hx=>by have:=h.rng x hx;omega)
 omega
theorem Ao {l:List Int} (h:Asc l) {x:Int} (hx:0≤x∧x≤31):Al (mk l) x=decide (x∈l):=by
 unfold Al;rw[OE h.inM hx];by_cases hm:x∈l<;>simp[hm]
theorem Ji {x:Int} {l:List Int} (h:Asc (x::l)):oV (mk (x::l))=x:=by
 unfold oV;rw[afg,aaL h];have:=h.rng x (by simp)
 omega
theorem XM {l:List Int} (h:Asc l) {z:Int} (hz:z∈l) (hm:∀x∈l,x≤z):eX (mk l)=z+1:=by
 have hr:=h.rng z hz;have e:((z.toNat:Nat):Int)=z:=by omega
 have h1:2 ^ z.toNat≤mk l:=Nat.ge_two_pow_of_testBit (by rw[dJ h.inM,e];simp[hz])
 have h2:mk l<2 ^ (z.toNat+1):=af8 _ fun i hi=>by
  rw[dJ h.inM];simp only[decide_eq_false_iff_not];intro hm';have:=hm _ hm';omega
 have h3:=(ng h).2;rw[Jf z.toNat (mk l) h1 (by omega)]
 have h4:mk l / 2 ^ z.toNat=1:=by
  rw[Nat.div_eq_iff (agk _)];rw[agj]at h2;omega
 rw[h4];have:eX ((1:Nat):Int)=1:=by decide
 omega
theorem uQ {p:Nat→Bool} {n:Nat} (h:∀i,i<n→p i=false):(ael n).find? p=none:=by
 simp only[agz,afY];exact fun i hi=>by simp[h i hi]
theorem Cc {p:Nat→Bool} {n y:Nat} (hy:y<n) (hp:p y=true) (h:∀i,i<y→p i=false):(ael n).find? p=some y:=by
 have e:ael n=ael y++(y::List.range' (y+1) (n-y-1)):=by
  rw[afL,afL,show n=y+(1+(n-y-1)) by omega,←agA,←agA]
  simp
 rw[e,List.find?_append,uQ h];simp[hp]
def firstAt (p:Nat→Bool) (n:Nat):Int:=match(ael n).find? p with
 |some i=>i
 |none=> -1
theorem jF {p:Nat→Bool} {n:Nat} (h:∀i,i<n→p i=false):firstAt p n= -1:=by unfold firstAt;rw[uQ h]
theorem jG {p:Nat→Bool} {n y:Nat} (hy:y<n) (hp:p y=true) (h:∀i,i<y→p i=false):firstAt p n=y:=by unfold firstAt;rw[Cc hy hp h]
theorem iE {p:Nat→Bool} {n:Nat}:decide (0≤firstAt p n)=(ael n).any p:=by
 unfold firstAt;cases h:(ael n).find? p with
 |some i=>
  have:=agB h;have hm:=List.mem_of_find?_eq_some h;rw[agC.2 ⟨i,hm,this⟩];simp
 |none=>
  rw[agz]at h;rw[agD.2 (fun x hx=>h x hx)];simp
theorem nk {α:Type} (p:α→Bool) (d:α) (l:List α):(ael l.length).any (fun i=>p (l.getD i d))=l.any p:=by
 rw[af7,agC,agC];constructor
 ·rintro⟨i,hi,h⟩
  have hi:=afY.1 hi;rw[aeo,aev hi]at h;exact⟨l[i],agr hi,h⟩
 ·rintro⟨x,hx,h⟩
  obtain⟨i,hi,rfl⟩:=aeu hx;exact⟨i,afY.2 hi,by rw[aeo,aev hi];exact h⟩
def Dv:PSp:=fun xs K=>match xs with
 | [.isl (.ints .i64 l) .none,.fn (.func f) fs cs]=>VC (l.length≤2000000)∧∃p:Int→Bool,(∀x∈l,aF Tryz.prog f (fs++[.int .i64 x]++cs) (.bp (p x)))∧K (.int .i64 (firstAt (fun i=>p (l.getD i 0)) l.length))
 |_=>False
theorem OM (l:List Int) (hl:l.length≤2000000) (f:Nat) (fs cs:List PV) (p:Int→Bool) (hp:∀x∈l,aF Tryz.prog f (fs++[.int .i64 x]++cs) (.bp (p x))):
 aF Tryz.prog 207 [.isl (.ints .i64 l) .none,.fn (.func f) fs cs] (.int .i64 (firstAt (fun i=>p (l.getD i 0)) l.length)):=by
 refine zh 1 (enters' Tryz.func207 (by rfl) (by rfl)) rfl (by simp) fun S0 w0 us vs hu hv=>?_
 have hY:∀r,jY Tryz.prog r (vT S0 w0) (fnY f us vs fun xs K=>match xs with
  | [.int .i64 x]=>VC (x∈l)∧K (.bp (p x))
  |_=>False):=fun r=>Og (fs:=fs) (cs:=cs) (fun S w hb=>⟨hu.mono hb.1 (.refl _),hv.mono hb.1 (.refl _)⟩) fun xs K hk=>by
  split at hk
  ·exact⟨_,hk.2,hp _ hk.1.get⟩
  ·exact hk.elim
 have W:Walk Tryz.prog none (vT S0 w0) tab.get noC _:=⟨rF,mixed,ak,aD.up _,hY none⟩;refine uf rF mixed ak (md:=1) (rf:=[]) (aD.up _) (hY none) Tryz.func207 (by rfl) (by rfl) ?_
 repeat'((conv=>whnf);first|intro _|apply aI|with_reducible exact vM rfl|exact⟨⟩|apply nM|apply fM)
 all_goals((try apply vM);(try simp only[vq]at*);try omega)
 conv=>whnf
 refine aM (X:=Nat) (fun i=>i≤l.length∧∀j,j<i→p (l.getD j 0)=false) (fun i=>[(8,.int .i64 i)]) (fun i=>[]) (fun i=>l.length-i) 0 W (by rfl) ⟨by omega,fun j hj=>by omega⟩ ?_ ?_
 ·repeat'((conv=>whnf);first|intro _|apply aI|with_reducible exact vM rfl|exact⟨⟩|apply nM|apply fM)
  all_goals((try apply vM);(try simp only[vq]at*);try omega)
 ·rintro i ⟨hi,hok⟩
  by_cases hlt:i<l.length
  ·have hm:l.getD i 0∈l:=by rw[aeo,aev hlt];exact agr hlt
   repeat'((conv=>whnf);first|intro _|apply aI|with_reducible exact vM rfl|exact⟨⟩|apply nM|apply fM)
   all_goals((try apply vM);(try simp only[vq]at*);try omega)
   ·rw[jG hlt ‹p (l.getD i 0)=true› hok];exact Sup.of rfl
   ·refine⟨i+1,[],⟨⟨by omega,fun j hj=>?_⟩,by omega⟩,?_⟩
    ·by_cases e:j=i
     ·subst e;assumption
     ·exact hok j (by omega)
    ·repeat'((conv=>whnf);first|intro _|apply aI|with_reducible exact vM rfl|exact⟨⟩|apply nM|apply fM)
     all_goals((try apply vM);(try simp only[vq]at*);try omega)
  ·have:i=l.length:=by omega
   subst this;rw[jF hok]
   repeat'((conv=>whnf);first|intro _|apply aI|with_reducible exact vM rfl|exact⟨⟩|apply nM|apply fM)
   all_goals((try apply vM);(try simp only[vq]at*);try omega)
   exact Sup.of rfl
theorem Jj:POK Tryz.prog 207 Dv:=by
 intro xs K h;unfold Dv at h;split at h
 ·obtain⟨⟨h1⟩,p,h2,hK⟩:=h
  exact⟨_,hK,OM _ h1 _ _ _ p h2⟩
 ·exact h.elim
def Dw:PSp:=fun xs K=>match xs with
 | [.isl (.ints .i64 l) .none,.fn (.func f) fs cs]=>VC (l.length≤2000000∧eF.inlF fs=true∧eF.inlF cs=true)∧∃p:Int→Bool,(∀x∈l,aF Tryz.prog f (fs++[.int .i64 x]++cs) (.bp (p x)))∧K (.bp (l.any p))
 |_=>False
theorem OO (l:List Int) (hl:l.length≤2000000) (f:Nat) (fs cs:List PV) (hfs:eF.inlF fs=true) (hcs:eF.inlF cs=true) (p:Int→Bool) (hp:∀x∈l,aF Tryz.prog f (fs++[.int .i64 x]++cs) (.bp (p x))):
 aF Tryz.prog 215 [.isl (.ints .i64 l) .none,.fn (.func f) fs cs] (.bp (l.any p)):=by
 have hc:aW Tryz.prog (aA 207 (aB Dv) noC):=aj (au Jj) aD;refine av (md:=1) (rf:=[]) mixed ak hc Tryz.func215 (by rfl) (by rfl) (by rfl) ?_
 repeat'((conv=>whnf);first|intro _|apply aI|with_reducible exact vM rfl|exact⟨⟩|apply nM|apply fM)
 conv=>whnf
 simp only[aB,pI,jf,qV,eF,hfs,hcs]
 repeat'((conv=>whnf);first|intro _|apply aI|with_reducible exact vM rfl|exact⟨⟩|apply nM|apply fM)
 all_goals((try apply vM);(try simp only[vq]at*);try omega)
 refine⟨p,hp,?_⟩
 repeat'((conv=>whnf);first|intro _|apply aI|with_reducible exact vM rfl|exact⟨⟩|apply nM|apply fM)
 all_goals((try apply vM);(try simp only[vq]at*);try omega)
 refine Sup.via ?_
 repeat'((conv=>whnf);first|intro _|apply aI|with_reducible exact vM rfl|exact⟨⟩|apply nM|apply fM)
 refine VC.mk ?_;rw[iE,nk]
theorem Jk:POK Tryz.prog 215 Dw:=by
 intro xs K h;unfold Dw at h;split at h
 ·obtain⟨⟨h1,h3,h4⟩,p,h2,hK⟩:=h
  exact⟨_,hK,OO _ h1 _ _ _ h3 h4 p h2⟩
 ·exact h.elim
theorem OP (l:List Bool) (hl:l.length≤2000000) (b:Bool):aF Tryz.prog 192 [.isl (.bools l) .none,.bp b] (.int .i64 (firstAt (fun i=>b==l.getD i false) l.length)):=by
 refine av (md:=1) (rf:=[]) mixed ak aD Tryz.func192 (by rfl) (by rfl) (by rfl) ?_
 repeat'((conv=>whnf);first|intro _|apply aI|with_reducible exact vM rfl|exact⟨⟩|apply nM|apply fM)
 all_goals((try apply vM);(try simp only[vq]at*);try omega)
 conv=>whnf
 refine aM (X:=Nat) (fun i=>i≤l.length∧∀j,j<i→(b==l.getD j false)=false) (fun i=>[(8,.int .i64 i)]) (fun i=>[]) (fun i=>l.length-i) 0 ⟨aK,mixed,ak,aD,aQ⟩ (by rfl) ⟨by omega,fun j hj=>by omega⟩ ?_ ?_
 ·repeat'((conv=>whnf);first|intro _|apply aI|with_reducible exact vM rfl|exact⟨⟩|apply nM|apply fM)
  all_goals((try apply vM);(try simp only[vq]at*);try omega)
 ·rintro i ⟨hi,hok⟩
  by_cases hlt:i<l.length
  ·repeat'((conv=>whnf);first|intro _|apply aI|with_reducible exact vM rfl|exact⟨⟩|apply nM|apply fM)
   all_goals((try apply vM);(try simp only[vq]at*);try omega)
   ·rw[jG hlt ‹(b==l.getD i false)=true› hok];exact Sup.of rfl
   ·refine⟨i+1,[],⟨⟨by omega,fun j hj=>?_⟩,by omega⟩,?_⟩
    ·by_cases e:j=i
     ·subst e;assumption
     ·exact hok j (by omega)
    ·repeat'((conv=>whnf);first|intro _|apply aI|with_reducible exact vM rfl|exact⟨⟩|apply nM|apply fM)
     all_goals((try apply vM);(try simp only[vq]at*);try omega)
  ·have:i=l.length:=by omega
   subst this;rw[jF hok]
   repeat'((conv=>whnf);first|intro _|apply aI|with_reducible exact vM rfl|exact⟨⟩|apply nM|apply fM)
   all_goals((try apply vM);(try simp only[vq]at*);try omega)
   exact Sup.of rfl
def LD:PSp:=fun xs K=>match xs with
 | [.isl (.bools l) .none,.bp b]=>VC (l.length≤2000000)∧K (.int .i64 (firstAt (fun i=>b==l.getD i false) l.length))
 |_=>False
theorem XO:POK Tryz.prog 192 LD:=by
 intro xs K h;unfold LD at h;split at h
 ·exact⟨_,h.2,OP _ h.1.get _⟩
 ·exact h.elim
theorem OQ (l:List Bool) (hl:l.length≤2000000) (b:Bool):aF Tryz.prog 152 [.isl (.bools l) .none,.bp b] (.bp (l.any fun x=>b==x)):=by
 have hc:aW Tryz.prog (aA 192 (aB LD) noC):=aj (au XO) aD;refine av (md:=1) (rf:=[]) mixed ak hc Tryz.func152 (by rfl) (by rfl) (by rfl) ?_
 repeat'((conv=>whnf);first|intro _|apply aI|with_reducible exact vM rfl|exact⟨⟩|apply nM|apply fM)
 all_goals((try apply vM);(try simp only[vq]at*);try omega)
 refine Sup.via ?_
 repeat'((conv=>whnf);first|intro _|apply aI|with_reducible exact vM rfl|exact⟨⟩|apply nM|apply fM)
 refine VC.mk ?_;rw[iE,nk (fun x=>b==x)]
def LG:PSp:=fun xs K=>match xs with
 | [.isl (.bools l) .none,.bp b]=>VC (l.length≤2000000)∧K (.bp (l.any fun x=>b==x))
 |_=>False
theorem XP:POK Tryz.prog 152 LG:=by
 intro xs K h;unfold LG at h;split at h
 ·exact⟨_,h.2,OQ _ h.1.get _⟩
 ·exact h.elim
theorem Fj:∀(l:List Int) (a b:Int),l.Pairwise (·< ·)→(∀x∈l,a<x∧x≤b)→a≤b→(l.length:Int)≤b-a:=by
 intro l;induction l with
 |nil=>intro a b _ _ h;simp;omega
 |cons x l ih=>
  intro a b hp hr hab;have hx:=hr x (by simp)
  have:=ih x b (afE.1 hp).2 (fun y hy=>⟨(afE.1 hp).1 y hy,(hr y (by simp[hy])).2⟩) hx.2
  rw[ad4];omega
theorem Ap {l:List Int} (h:Asc l):l.length≤16:=by
 have:=Fj l 0 16 h.pw (fun x hx=>by have:=h.rng x hx;omega) (by omega)
 omega
theorem oq {l:List Int} {i:Nat} {x:PV} (hx:(l.map (PV.int .i64))[i]? =some x):i<l.length∧x=.int .i64 (l.getD i 0):=by
 rw[ae7]at hx;cases h:l[i]? with
 |none=>rw[h]at hx;cases hx
 |some y=>
  rw[h]at hx;cases hx
  exact⟨(afS.1 h).1,by rw[aeo,h];rfl⟩
theorem RD {l:List Int} (h:Asc l) (k:Nat):Asc (l.drop k):=⟨h.pw.sublist (List.drop_sublist k l),fun x hx=>h.rng x (List.mem_of_mem_drop hx)⟩
theorem drop_cons {l:List Int} {k:Nat} (hk:k<l.length):l.drop k=l.getD k 0::l.drop (k+1):=by
 rw[List.drop_eq_getElem_cons hk,aeo,aev hk];rfl
noncomputable def aaR:CPT:=aA 190 (aB uO) noC
theorem Jl:aW Tryz.prog aaR:=aj (au xV) aD
theorem jH (l:List Int) (h:Asc l):mM Tryz.prog 189 [] [.ip (.pv [.int .u32 (mk l:Nat)]) 0] 1 (l.map (PV.int .i64)):=by
 refine kJ (md:=1) (rf:=[]) mixed ak Tryz.func189 (by rfl) (by rfl) (by rfl) fun G go b hY=>⟨_,Jl,?_⟩
 obtain⟨L,hL⟩:∃L,L=l.map (PV.int .i64):=⟨_,rfl⟩;have hlen:L.length=l.length:=by simp[hL]
 have hget:∀i,i<l.length→L[i]? =some (.int .i64 (l.getD i 0)):=fun i hi=>by simp[hL,hi]
 rw[←hL]at hY⊢;have W:Walk Tryz.prog none jX tab.get aaR (rH b 1 G go L):=⟨aK,mixed,ak,Jl,hY _ _⟩;have stop:∀i,i<l.length→GoTo go L i→go (L.take i++[.int .i64 (l.getD i 0)])=false→L.take i++[.int .i64 (l.getD i 0)]=iC go [] L:=fun i hi hg h=>by
  rw[dV (hget i hi)]at h⊢;rw[uj (by omega) hg h]
 have cont:∀i,i<l.length→GoTo go L i→go (L.take i++[.int .i64 (l.getD i 0)])=true→GoTo go L (i+1):=fun i hi hg h=>hg.succ (by rw[←dV (hget i hi)];exact h)
 have done:GoTo go L l.length→L.take l.length=iC go [] L:=fun hg=>by rw[xu (by omega) hg,←hlen];simp
 repeat'((conv=>whnf);first|intro _|apply aI|with_reducible exact vM rfl|exact⟨⟩|apply nM|apply fM)
 all_goals((try apply vM);(try simp only[vq]at*);try omega)
 conv=>whnf
 refine aM (X:=Nat) (fun k=>k≤l.length∧GoTo go L k) (fun k=>[(3,.int .u32 (mk (l.drop k):Nat))]) (fun k=>[(0,.ext G (L.take k))]) (fun k=>l.length-k) 0 W (by rfl) ⟨by omega,.zero⟩ ?_ ?_
 ·repeat'((conv=>whnf);first|intro _|apply aI|with_reducible exact vM rfl|exact⟨⟩|apply nM|apply fM)
  all_goals((try apply vM);(try simp only[vq]at*);try omega)
  all_goals simp
 intro k hk;obtain⟨hk1,hk3⟩:=hk;by_cases hlt:k<l.length
 ·have hA:=RD h k
  have hr:=ng hA;have e:=drop_cons hlt;have hpos:0<mk (l.drop k):=by rw[e]at hA⊢;exact mk_pos hA
  have hlow:oV (mk (l.drop k))=l.getD k 0:=by rw[e]at hA⊢;exact Ji hA
  have hrest:IntKind.u32.wrap ((aey IntKind.u32.bits (mk (l.drop k):Int)&&& aey IntKind.u32.bits ((mk (l.drop k):Int)-1)).toNat:Int)=(mk (l.drop (k+1)):Nat):=by rw[e]at hA⊢;exact XE hA
  repeat'((conv=>whnf);first|(intro hq;(try simp only[vw]at hq);try first|exact absurd hq (by decide)|exfalso;omega)|apply aI|with_reducible exact vM rfl|exact⟨⟩|apply nM|apply fM)
  all_goals(try rw[hlow]at*)
  all_goals((try apply vM);(try simp only[vq]at*);try omega)
  ·exact Ox (hget k hlt) hk3
  ·exact stop k hlt hk3 (by rename_i hq;simpa using hq)
  ·refine⟨k+1,[],⟨⟨by omega,cont k hlt hk3 (by rename_i hq;simpa using hq)⟩,by omega⟩,?_⟩
   repeat'((conv=>whnf);first|intro _|apply aI|with_reducible exact vM rfl|exact⟨⟩|apply nM|apply fM)
   all_goals((try apply vM);(try simp only[vq]at*);try omega)
   all_goals exact dV (hget k hlt)
 ·have:l.length=k:=by omega
  subst this;have hz:mk (l.drop l.length)=0:=by rw[List.drop_length];rfl
  rw[hz]
  repeat'((conv=>whnf);first|(intro hq;(try simp only[vw]at hq);try first|exact absurd hq (by decide)|exfalso;omega)|apply aI|with_reducible exact vM rfl|exact⟨⟩|apply nM|apply fM)
  all_goals((try apply vM);(try simp only[vq]at*);try omega)
  exact done hk3
def hsN (l:List Int):Nat→List (Nat × AO):=fun i=>[(0,.cells (.pv [.isl (.ints .i64 (l.take i)) (.own 5)]) false),(5,.tok 1 i)]
theorem LH (l:List Int) (h:Asc l):aF Tryz.prog 188 [.nils,.fn (.func 189) [] [.ip (.pv [.int .u32 (mk l:Nat)]) 0]] (.isl (.ints .i64 l) .none):=by
 have h16:=Ap h;refine av (md:=1) (rf:=[]) mixed ak aD Tryz.func188 (by rfl) (by rfl) (by rfl) ?_
 repeat'((conv=>whnf);first|intro _|apply aI|with_reducible exact vM rfl|exact⟨⟩|apply nM|apply fM)
 all_goals((try apply vM);(try simp only[vq]at*);try omega)
 conv=>whnf
 refine gU aK mixed ak aD (fun r=>aQ) (fs:=[]) (cs:=[.ip (.pv [.int .u32 (mk l:Nat)]) 0]) (l.map (PV.int .i64)) (fun _=>true) (hsN l) (by rfl) (by rfl) (by rfl) (jH l h) (by rfl) (by rfl) (by rfl) (by rfl) ?_ ?_ ?_
 ·repeat'((conv=>whnf);first|intro _|apply aI|with_reducible exact vM rfl|exact⟨⟩|apply nM|apply fM)
  all_goals((try apply vM);(try simp only[vq]at*);try omega)
 ·intro hall
  rw[af0]
  repeat'((conv=>whnf);first|intro _|apply aI|with_reducible exact vM rfl|exact⟨⟩|apply nM|apply fM)
  all_goals((try apply vM);(try simp only[vq]at*);try omega)
  all_goals(try rw[af5])
  all_goals exact Sup.of rfl
 ·intro i x hx hall lp
  have hx':i<l.length∧x=.int .i64 (l.getD i 0):=by
   rw[ae7]at hx;cases h:l[i]? with
   |none=>rw[h]at hx;cases hx
   |some y=>
    rw[h]at hx;cases hx
    have:=(afS.1 h).1;exact⟨this,by rw[aeo,h];rfl⟩
  obtain⟨hi,rfl⟩:=hx';have e1:(l.take i).length=i:=by rw[ae0];omega
  have e2:l.take i++[l.getD i 0]=l.take (i+1):=by
   rw[af3,aeo,aev hi];rfl
  repeat'((conv=>whnf);first|intro _|apply aI|with_reducible exact vM rfl|exact⟨⟩|apply nM|apply fM)
  all_goals((try apply vM);(try simp only[vq]at*);try omega)
  all_goals(try(simp only[afu,ae0,ad4,adY];omega))
  refine⟨[],?_⟩
  repeat'((conv=>whnf);first|intro _|apply aI|with_reducible exact vM rfl|exact⟨⟩|apply nM|apply fM)
  all_goals((try apply vM);(try simp only[vq]at*);try omega)
  all_goals(try(rw[e2]))
def Fp:PSp:=fun xs K=>match xs with
 | [.nils,.fn (.func f) [] [.ip (.pv [.int .u32 m]) 0]]=>∃l,VC (f=189∧m=(mk l:Nat)∧Asc l)∧K (.isl (.ints .i64 l) .none)
 |_=>False
theorem RF:POK Tryz.prog 188 Fp:=by
 intro xs K hk;unfold Fp at hk;split at hk
 ·obtain⟨l,⟨rfl,rfl,h⟩,hk⟩:=hk
  exact⟨_,hk,LH _ h⟩
 ·exact hk.elim
noncomputable def acI:CPT:=aA 188 (Dm Fp) noC
theorem XQ:aW Tryz.prog acI:=aj (EO RF) aD
theorem OT (l:List Int) (h:Asc l):aF Tryz.prog 148 [.fn (.func 189) [] [.ip (.pv [.int .u32 (mk l:Nat)]) 0]] (.isl (.ints .i64 l) .none):=by
 refine av (md:=1) (rf:=[]) mixed ak XQ Tryz.func148 (by rfl) (by rfl) (by rfl) ?_
 repeat'((conv=>whnf);first|intro _|apply aI|with_reducible exact vM rfl|exact⟨⟩|apply nM|apply fM)
 refine⟨l,VC.mk ⟨rfl,rfl,h⟩,?_⟩
 repeat'((conv=>whnf);first|intro _|apply aI|with_reducible exact vM rfl|exact⟨⟩|apply nM|apply fM)
 all_goals((try apply vM);(try simp only[vq]at*);try omega)
 all_goals exact Sup.of rfl
def LJ:PSp:=fun xs K=>match xs with
 | [.fn (.func f) [] [.ip (.pv [.int .u32 m]) 0]]=>∃l,VC (f=189∧m=(mk l:Nat)∧Asc l)∧K (.isl (.ints .i64 l) .none)
 |_=>False
theorem XR:POK Tryz.prog 148 LJ:=by
 intro xs K hk;unfold LJ at hk;split at hk
 ·obtain⟨l,⟨rfl,rfl,h⟩,hk⟩:=hk
  exact⟨_,hk,OT _ h⟩
 ·exact hk.elim
theorem CO (m:Int):aF Tryz.prog 149 [.int .u32 m] (.fn (.func 189) [] [.ip (.pv [.int .u32 m]) 0]):=by
 refine av (md:=1) (rf:=[]) mixed ak aD Tryz.func149 (by rfl) (by rfl) (by rfl) ?_
 repeat'((conv=>whnf);first|intro _|apply aI|with_reducible exact vM rfl|exact⟨⟩|apply nM|apply fM)
 all_goals((try apply vM);(try simp only[vq]at*);try omega)
 all_goals exact Sup.of rfl
def zA:PSp:=fun xs K=>match xs with
 | [.int .u32 m]=>VC (True)∧K (.fn (.func 189) [] [.ip (.pv [.int .u32 m]) 0])
 |_=>False
theorem Aq:POK Tryz.prog 149 zA:=by
 intro xs K h;unfold zA at h;split at h
 ·exact⟨_,h.2,CO _⟩
 ·exact h.elim
theorem OU (l:List Int) (hl:l.length≤2000000) (b:Int):aF Tryz.prog 191 [.isl (.ints .u32 l) .none,.int .u32 b] (.int .i64 (firstAt (fun i=>decide (b=l.getD i 0)) l.length)):=by
 refine av (md:=1) (rf:=[]) mixed ak aD Tryz.func191 (by rfl) (by rfl) (by rfl) ?_
 repeat'((conv=>whnf);first|intro _|apply aI|with_reducible exact vM rfl|exact⟨⟩|apply nM|apply fM)
 all_goals((try apply vM);(try simp only[vq]at*);try omega)
 conv=>whnf
 refine aM (X:=Nat) (fun i=>i≤l.length∧∀j,j<i→decide (b=l.getD j 0)=false) (fun i=>[(8,.int .i64 i)]) (fun i=>[]) (fun i=>l.length-i) 0 ⟨aK,mixed,ak,aD,aQ⟩ (by rfl) ⟨by omega,fun j hj=>by omega⟩ ?_ ?_
 ·repeat'((conv=>whnf);first|intro _|apply aI|with_reducible exact vM rfl|exact⟨⟩|apply nM|apply fM)
  all_goals((try apply vM);(try simp only[vq]at*);try omega)
 ·rintro i ⟨hi,hok⟩
  by_cases hlt:i<l.length
  ·repeat'((conv=>whnf);first|intro _|apply aI|with_reducible exact vM rfl|exact⟨⟩|apply nM|apply fM)
   all_goals((try apply vM);(try simp only[vq]at*);try omega)
   ·rename_i hq
    rw[jG (p:=fun i=>decide (b=l.getD i 0)) hlt (decide_eq_true hq) (fun j hj=>decide_eq_false (hok j hj))];exact Sup.of rfl
   ·refine⟨i+1,[],⟨⟨by omega,fun j hj=>?_⟩,by omega⟩,?_⟩
    ·by_cases e:j=i
     ·subst e;first|assumption|(apply decide_eq_false;assumption)
     ·first|exact hok j (by omega)|exact decide_eq_false (hok j (by omega))
    ·repeat'((conv=>whnf);first|intro _|apply aI|with_reducible exact vM rfl|exact⟨⟩|apply nM|apply fM)
     all_goals((try apply vM);(try simp only[vq]at*);try omega)
  ·have:i=l.length:=by omega
   subst this;rw[jF hok]
   repeat'((conv=>whnf);first|intro _|apply aI|with_reducible exact vM rfl|exact⟨⟩|apply nM|apply fM)
   all_goals((try apply vM);(try simp only[vq]at*);try omega)
   exact Sup.of rfl
def LK:PSp:=fun xs K=>match xs with
 | [.isl (.ints .u32 l) .none,.int .u32 b]=>VC (l.length≤2000000)∧K (.int .i64 (firstAt (fun i=>decide (b=l.getD i 0)) l.length))
 |_=>False
theorem XT:POK Tryz.prog 191 LK:=by
 intro xs K h;unfold LK at h;split at h
 ·exact⟨_,h.2,OU _ h.1.get _⟩
 ·exact h.elim
noncomputable def acJ:CPT:=aA 191 (aB LK) noC
theorem XU:aW Tryz.prog acJ:=aj (au XT) aD
theorem OV (l:List Int) (hl:l.length≤2000000) (b:Int):aF Tryz.prog 150 [.isl (.ints .u32 l) .none,.int .u32 b] (.bp (l.any fun y=>decide (b=y))):=by
 refine av (md:=1) (rf:=[]) mixed ak XU Tryz.func150 (by rfl) (by rfl) (by rfl) ?_
 repeat'((conv=>whnf);first|intro _|apply aI|with_reducible exact vM rfl|exact⟨⟩|apply nM|apply fM)
 all_goals((try apply vM);(try simp only[vq]at*);try omega)
 refine Sup.via ?_
 repeat'((conv=>whnf);first|intro _|apply aI|with_reducible exact vM rfl|exact⟨⟩|apply nM|apply fM)
 refine VC.mk ?_;rw[iE,nk (fun y=>decide (b=y))]
def LM:PSp:=fun xs K=>match xs with
 | [.isl (.ints .u32 l) .none,.int .u32 b]=>VC (l.length≤2000000)∧K (.bp (l.any fun y=>decide (b=y)))
 |_=>False
theorem XV:POK Tryz.prog 150 LM:=by
 intro xs K h;unfold LM at h;split at h
 ·exact⟨_,h.2,OV _ h.1.get _⟩
 ·exact h.elim
def gD (cs l:List Int) (i:Nat):Int:=(l.take i).foldl (fun s c=>s+cs.getD c.toNat 0) 0
theorem zB (cs l:List Int) (i:Nat) (h:i<l.length):gD cs l (i+1)=gD cs l i+cs.getD (l.getD i 0).toNat 0:=by
 unfold gD;rw[af3,agq];simp[h]
theorem kR {ls:List (List Int)} {i:Nat} (h:i<ls.length):ls.getD i []∈ls:=by
 rw[aeo,aev h];exact agr _
theorem bL {l:List Int} {i:Nat} (h:i<l.length):l.getD i 0∈l:=by
 rw[aeo,aev h];exact agr _
theorem LP (h:Bool) (e:Int):aF Tryz.prog 195 [.bp h,.int .i64 e] (.int .i64 (if h then e else 0)):=by
 refine av (md:=0) (rf:=[]) mixed ak aD Tryz.func195 (by rfl) (by rfl) (by rfl) ?_
 repeat'((conv=>whnf);first|intro _|apply aI|with_reducible exact vM rfl|exact⟨⟩|apply nM|apply fM)
 all_goals all_goals(first|(refine Sup.of ?_;first|rfl|(simp[*,bF];done))|(refine Sup.via ?_;repeat'((conv=>whnf);first|intro _|apply aI|with_reducible exact vM rfl|exact⟨⟩|apply nM|apply fM);all_goals((try apply vM);(try simp only[vq]at*);try omega);all_goals(try(simp[CL.sub];done))))
theorem Ie (h:Bool) (e:Int):aF Tryz.prog 195 [.bool h,.int .i64 e] (.int .i64 (if h then e else 0)):=by
 cases h
 all_goals
  refine av (md:=0) (rf:=[]) mixed ak aD Tryz.func195 (by rfl) (by rfl) (by rfl) ?_
  repeat'((conv=>whnf);first|intro _|apply aI|with_reducible exact vM rfl|exact⟨⟩|apply nM|apply fM)
  all_goals all_goals(first|(refine Sup.of ?_;first|rfl|(simp[*,bF];done))|(refine Sup.via ?_;repeat'((conv=>whnf);first|intro _|apply aI|with_reducible exact vM rfl|exact⟨⟩|apply nM|apply fM);all_goals((try apply vM);(try simp only[vq]at*);try omega);all_goals(try(simp[CL.sub];done))))
theorem oW:POK Tryz.prog 195 eO:=by
 intro xs K h;unfold eO at h;split at h
 ·exact⟨_,h,LP _ _⟩
 ·exact⟨_,h,Ie _ _⟩
 ·exact h.elim
structure Dx (f l:List Int):Prop where
 len:l.length≤1000000
 at':∀c∈l,0≤c∧c<f.length
 bd:∀i,i≤l.length→ -1000000000000≤gD f l i∧gD f l i≤1000000000000
theorem OW (l f:List Int) (h:Dx f l):aF Tryz.prog 232 [.isl (.ints .i64 l) .none,.isl (.ints .i64 f) .none] (.int .i64 (gD f l l.length)):=by
 obtain⟨hl,hm,hb⟩:=h;refine av (md:=1) (rf:=[]) mixed ak aD Tryz.func232 (by rfl) (by rfl) (by rfl) ?_
 repeat'((conv=>whnf);first|intro _|apply aI|with_reducible exact vM rfl|exact⟨⟩|apply nM|apply fM)
 all_goals((try apply vM);(try simp only[vq]at*);try omega)
 conv=>whnf
 refine aM (X:=Nat) (fun i=>i≤l.length) (fun i=>[(5,.int .i64 (gD f l i)),(10,.int .i64 i)]) (fun _=>[]) (fun i=>l.length-i) 0 ⟨aK,mixed,ak,aD,aQ⟩ (by rfl) (by omega) ?_ ?_
 ·repeat'((conv=>whnf);first|intro _|apply aI|with_reducible exact vM rfl|exact⟨⟩|apply nM|apply fM)
  all_goals((try apply vM);(try simp only[vq]at*);try omega)
  all_goals(try rfl)
 intro i hi;by_cases hlt:i<l.length
 ·have key:=hm (l.getD i 0) (by simp[hlt])
  have hs:=hb (i+1) hlt;have hs0:=hb i hi;have e:=zB f l i hlt
  repeat'((conv=>whnf);first|intro _|apply aI|with_reducible exact vM rfl|exact⟨⟩|apply nM|apply fM)
  all_goals((try apply vM);(try simp only[vq]at*);try omega)
  refine⟨i+1,[],⟨by omega,by omega⟩,?_⟩
  repeat'((conv=>whnf);first|intro _|apply aI|with_reducible exact vM rfl|exact⟨⟩|apply nM|apply fM)
  all_goals((try apply vM);(try simp only[vq]at*);try omega)
  all_goals(try(rw[e]))
 ·have:i=l.length:=by omega
  subst this
  repeat'((conv=>whnf);first|intro _|apply aI|with_reducible exact vM rfl|exact⟨⟩|apply nM|apply fM)
  all_goals((try apply vM);(try simp only[vq]at*);try omega)
  all_goals(first|(refine Sup.of ?_;first|rfl|(simp[*,bF];done))|(refine Sup.via ?_;repeat'((conv=>whnf);first|intro _|apply aI|with_reducible exact vM rfl|exact⟨⟩|apply nM|apply fM);all_goals((try apply vM);(try simp only[vq]at*);try omega);all_goals(try(simp[CL.sub];done))))
def LQ:PSp:=fun xs K=>match xs with
 | [.isl (.ints .i64 l) .none,.isl (.ints .i64 f) .none]=>VC (Dx f l)∧K (.int .i64 (gD f l l.length))
 |_=>False
theorem XW:POK Tryz.prog 232 LQ:=by
 intro xs K h;unfold LQ at h;split at h
 ·exact⟨_,h.2,OW _ _ h.1.get⟩
 ·exact h.elim
def gY (f:List Int) (ls:List (List Int)) (m:Nat):List Int:=(ls.take m).map fun l=>gD f l l.length
theorem LU (f:List Int) (ls:List (List Int)) (m:Nat) (h:m<ls.length):gY f ls (m+1)=gY f ls m++[gD f (ls.getD m []) (ls.getD m []).length]:=by
 unfold gY;rw[af3,af4,aeo,aev h];rfl
theorem Ce (f:List Int) (ls:List (List Int)) (m:Nat) (h:m≤ls.length):(gY f ls m).length=m:=by simp[gY];omega
noncomputable def acK:CPT:=aA 232 (aB LQ) noC
theorem Jm:aW Tryz.prog acK:=aj (au XW) aD
theorem OX (c:Int) (ls:List (List Int)) (f:List Int) (hl:ls.length≤1000000) (h:∀i,i<ls.length→Dx f (ls.getD i [])):aF Tryz.prog 206 [.agg [.int .i64 c,.isl (.rows .i64 ls) .none],.isl (.ints .i64 f) .none] (.isl (.ints .i64 (gY f ls ls.length)) .none):=by
 refine av (md:=1) (rf:=[]) mixed ak Jm Tryz.func206 (by rfl) (by rfl) (by rfl) ?_
 repeat'((conv=>whnf);first|intro _|apply aI|with_reducible exact vM rfl|exact⟨⟩|apply nM|apply fM)
 all_goals((try apply vM);(try simp only[vq]at*);try omega)
 conv=>whnf
 refine aM (X:=Nat) (fun i=>i≤ls.length) (fun i=>[(11,.int .i64 i),(5,.isl (.ints .i64 (gY f ls i)) (.own 3)),(7,.any)]) (fun i=>[(3,.tok 1 i)]) (fun i=>ls.length-i) 0 ⟨aK,mixed,ak,Jm,aQ⟩ (by rfl) (by omega) ?_ ?_
 ·repeat'((conv=>whnf);first|intro _|apply aI|with_reducible exact vM rfl|exact⟨⟩|apply nM|apply fM)
  all_goals((try apply vM);(try simp only[vq]at*);try omega)
 intro i hi;by_cases hlt:i<ls.length
 ·have e0:=Ce f ls i hi
  have e1:=LU f ls i hlt;have e2:=h i hlt
  repeat'((conv=>whnf);first|intro _|apply aI|with_reducible exact vM rfl|exact⟨⟩|apply nM|apply fM)
  all_goals((try apply vM);(try simp only[vq]at*);try omega)
  all_goals(try exact e2)
  all_goals(try(simp only[afu,ad4,adY];omega))
  refine⟨i+1,[],⟨by omega,by omega⟩,?_⟩
  repeat'((conv=>whnf);first|intro _|apply aI|with_reducible exact vM rfl|exact⟨⟩|apply nM|apply fM)
  all_goals((try apply vM);(try simp only[vq]at*);try omega)
  all_goals(try(rw[e1]))
 ·have:ls.length=i:=by omega
  subst this
  repeat'((conv=>whnf);first|intro _|apply aI|with_reducible exact vM rfl|exact⟨⟩|apply nM|apply fM)
  all_goals((try apply vM);(try simp only[vq]at*);try omega)
  all_goals(refine Sup.via ?_;repeat'((conv=>whnf);first|intro _|apply aI|with_reducible exact vM rfl|exact⟨⟩|apply nM|apply fM);all_goals((try apply vM);(try simp only[vq]at*);try omega);all_goals(try(simp[CL.sub];done)))
structure qA (f:List Int) (ls:List (List Int)):Prop where
 len:1≤ls.length∧ls.length≤1000000
 all:∀i,i<ls.length→Dx f (ls.getD i [])
def LV:PSp:=fun xs K=>match xs with
 | [.agg [.int .i64 c,.isl (.rows .i64 ls) .none],.isl (.ints .i64 f) .none]=>VC (qA f ls)∧K (.isl (.ints .i64 (gY f ls ls.length)) .none)
 |_=>False
theorem XY:POK Tryz.prog 206 LV:=by
 intro xs K h;unfold LV at h;split at h
 ·exact⟨_,h.2,OX _ _ _ h.1.get.len.2 h.1.get.all⟩
 ·exact h.elim
def Dy (all:List Int) (x:Int):Bool:=decide (x≠all.getD 0 0)
theorem RG (all:List Int) (h:1≤all.length) (x:Int):aF Tryz.prog 208 ([]++[.int .i64 x]++[.ip (.pv [.isl (.ints .i64 all) .none]) 0]) (.bp (Dy all x)):=by
 unfold Dy;refine av (md:=0) (rf:=[]) mixed ak aD Tryz.func208 (by rfl) (by rfl) (by rfl) ?_
 repeat'((conv=>whnf);first|intro _|apply aI|with_reducible exact vM rfl|exact⟨⟩|apply nM|apply fM)
 all_goals((try apply vM);(try simp only[vq]at*);try omega)
 all_goals(refine Sup.via ?_;repeat'((conv=>whnf);first|intro _|apply aI|with_reducible exact vM rfl|exact⟨⟩|apply nM|apply fM);all_goals((try apply vM);(try simp only[vq]at*);try omega))
 all_goals rfl
def nX (all:List Int):Int:=firstAt (fun i=>Dy all (all.getD i 0)) all.length
noncomputable def acL:CPT:=aA 206 (aB LV) (aA 207 (aB Dv) noC)
theorem XZ:aW Tryz.prog acL:=aj (au XY) (aj (au Jj) aD)
theorem Fq (c:Int) (ls:List (List Int)) (f:List Int) (h:qA f ls):aF Tryz.prog 169 [.agg [.int .i64 c,.isl (.rows .i64 ls) .none],.isl (.ints .i64 f) .none] (.int .i64 (nX (gY f ls ls.length))):=by
 have e:=Ce f ls ls.length (aea _);have h1:=h.len;refine av (md:=1) (rf:=[]) mixed ak XZ Tryz.func169 (by rfl) (by rfl) (by rfl) ?_
 repeat'((conv=>whnf);first|intro _|apply aI|with_reducible exact vM rfl|exact⟨⟩|apply nM|apply fM)
 all_goals((try apply vM);(try simp only[vq]at*);try omega)
 all_goals(try exact h)
 refine⟨Dy (gY f ls ls.length),fun x _=>RG _ (by omega) x,?_⟩
 repeat'((conv=>whnf);first|intro _|apply aI|with_reducible exact vM rfl|exact⟨⟩|apply nM|apply fM)
 all_goals((try apply vM);(try simp only[vq]at*);try omega)
 all_goals(refine Sup.via ?_;repeat'((conv=>whnf);first|intro _|apply aI|with_reducible exact vM rfl|exact⟨⟩|apply nM|apply fM);all_goals((try apply vM);(try simp only[vq]at*);try omega);all_goals(try(simp[CL.sub];done)))
 rfl
def xW:PSp:=fun xs K=>match xs with
 | [.agg [.int .i64 c,.isl (.rows .i64 ls) .none],.isl (.ints .i64 f) .none]=>VC (qA f ls)∧K (.int .i64 (nX (gY f ls ls.length)))
 |_=>False
theorem LW:POK Tryz.prog 169 xW:=by
 intro xs K h;unfold xW at h;split at h
 ·exact⟨_,h.2,Fq _ _ _ h.1.get⟩
 ·exact h.elim
theorem Ig (l:List Int) (hl:l.length<1000000):aF Tryz.prog 193 [.isl (.ints .i64 l) .none] (.int .i64 (aG l)):=by
 refine av (md:=1) (rf:=[]) mixed ak aD Tryz.func193 (by rfl) (by rfl) (by rfl) ?_
 repeat'((conv=>whnf);first|intro _|apply aI|with_reducible exact vM rfl|exact⟨⟩|apply nM|apply fM)
 all_goals((try apply vM);(try simp only[vq]at*);try omega)
 conv=>whnf
 refine aM (X:=Nat) (fun i=>i≤l.length∧∀j,j<i→l.getD j 0=0) (fun i=>[(7,.int .i64 i)]) (fun _=>[]) (fun i=>l.length-i) 0 ⟨aK,mixed,ak,aD,aQ⟩ (by rfl) ⟨by omega,fun j hj=>by omega⟩ ?_ ?_
 ·repeat'((conv=>whnf);first|intro _|apply aI|with_reducible exact vM rfl|exact⟨⟩|apply nM|apply fM)
  all_goals((try apply vM);(try simp only[vq]at*);try omega)
 ·intro i hi
  obtain⟨hi,hz⟩:=hi
  repeat'((conv=>whnf);first|intro _|apply aI|with_reducible exact vM rfl|exact⟨⟩|apply nM|apply fM)
  all_goals((try apply vM);(try simp only[vq]at*);try omega)
  ·rename_i hne
   have:=gN l i (by omega) hz (by simpa using hne)
   rw[this];exact Sup.of rfl
  ·rename_i hne
   have hne:l.getD i 0=0:=by simpa using hne
   refine⟨i+1,[],⟨⟨by omega,fun j hj=>?_⟩,by omega⟩,?_⟩
   ·by_cases e:j=i
    ·subst e;exact hne
    ·exact hz j (by omega)
   ·repeat'((conv=>whnf);first|intro _|apply aI|with_reducible exact vM rfl|exact⟨⟩|apply nM|apply fM)
    all_goals((try apply vM);(try simp only[vq]at*);try omega)
  ·have:i=l.length:=by omega
   subst this;rw[uM l hz];exact Sup.of rfl
def ow:PSp:=fun xs K=>match xs with
 | [.isl (.ints .i64 l) .none]=>VC (l.length<1000000)∧K (.int .i64 (aG l))
 |_=>False
theorem pU:POK Tryz.prog 193 ow:=by
 intro xs K h;unfold ow at h;split at h
 ·exact⟨_,h.2,Ig _ h.1.get⟩
 ·exact h.elim
def jI (lo hi x:Int):Bool:=decide (x<lo)||decide (hi<x)
theorem RH (lo hi x:Int):aF Tryz.prog 221 ([]++[.int .i64 x]++[.ip (.pv [.int .i64 lo]) 0,.ip (.pv [.int .i64 hi]) 0]) (.bp (jI lo hi x)):=by
 refine av (md:=1) (rf:=[]) mixed ak aD Tryz.func221 (by rfl) (by rfl) (by rfl) ?_
 unfold jI
 repeat'((conv=>whnf);first|intro _|apply aI|with_reducible exact vM rfl|exact⟨⟩|apply nM|apply fM)
 ·rename_i hq
  rw[show(decide (x<lo))=false from hq,agE];exact Sup.of rfl
 ·rename_i hq
  rw[show(decide (x<lo))=true from hq,agF];all_goals(refine Sup.via ?_;repeat'((conv=>whnf);first|intro _|apply aI|with_reducible exact vM rfl|exact⟨⟩|apply nM|apply fM);all_goals((try apply vM);(try simp only[vq]at*);try omega);all_goals(try(simp[CL.sub];done)))
noncomputable def acM:CPT:=aA 215 (uy Dw) (aA 195 (aB eO) noC)
theorem X0:aW Tryz.prog acM:=aj (uz Jk) (aj (au oW) aD)
theorem OY (lo hi:Int) (l:List Int) (hl:l.length≤2000000):aF Tryz.prog 194 [.int .i64 lo,.int .i64 hi,.isl (.ints .i64 l) .none] (.int .i64 (if l.any (jI lo hi)then 3 else 0)):=by
 refine av (md:=1) (rf:=[]) mixed ak X0 Tryz.func194 (by rfl) (by rfl) (by rfl) ?_
 repeat'((conv=>whnf);first|intro _|apply aI|with_reducible exact vM rfl|exact⟨⟩|apply nM|apply fM)
 all_goals((try apply vM);(try simp only[vq]at*);try omega)
 ·exact⟨hl,rfl,rfl⟩
 refine⟨jI lo hi,fun x _=>RH lo hi x,?_⟩
 repeat'((conv=>whnf);first|intro _|apply aI|with_reducible exact vM rfl|exact⟨⟩|apply nM|apply fM)
 all_goals((try apply vM);(try simp only[vq]at*);try omega)
 all_goals(first|(refine Sup.of ?_;first|rfl|(simp[*,bF];done))|(refine Sup.via ?_;repeat'((conv=>whnf);first|intro _|apply aI|with_reducible exact vM rfl|exact⟨⟩|apply nM|apply fM);all_goals((try apply vM);(try simp only[vq]at*);try omega);all_goals(try(simp[CL.sub];done))))
def Dz:PSp:=fun xs K=>match xs with
 | [.int .i64 lo,.int .i64 hi,.isl (.ints .i64 l) .none]=>VC (l.length≤2000000)∧K (.int .i64 (if l.any (jI lo hi)then 3 else 0))
 |_=>False
theorem Jo:POK Tryz.prog 194 Dz:=by
 intro xs K h;unfold Dz at h;split at h
 ·exact⟨_,h.2,OY _ _ _ h.1.get⟩
 ·exact h.elim
noncomputable def acN:CPT:=aA 194 (aB Dz) noC
theorem X3:aW Tryz.prog acN:=aj (au Jo) aD
def rT (l:List Int):Int:=if l.any (jI (-999999999) 999999999)then 3 else 0
theorem Fu (l:List Int) (hl:l.length≤2000000):aF Tryz.prog 203 [.isl (.ints .i64 l) .none] (.int .i64 (rT l)):=by
 refine av (md:=1) (rf:=[]) mixed ak X3 Tryz.func203 (by rfl) (by rfl) (by rfl) ?_
 unfold rT
 repeat'((conv=>whnf);first|intro _|apply aI|with_reducible exact vM rfl|exact⟨⟩|apply nM|apply fM)
 all_goals((try apply vM);(try simp only[vq]at*);try omega)
 all_goals(first|(refine Sup.of ?_;first|rfl|(simp[*,bF];done))|(refine Sup.via ?_;repeat'((conv=>whnf);first|intro _|apply aI|with_reducible exact vM rfl|exact⟨⟩|apply nM|apply fM);all_goals((try apply vM);(try simp only[vq]at*);try omega);all_goals(try(simp[CL.sub];done))))
def rU:PSp:=fun xs K=>match xs with
 | [.isl (.ints .i64 l) .none]=>VC (l.length≤2000000)∧K (.int .i64 (rT l))
 |_=>False
theorem zC:POK Tryz.prog 203 rU:=by
 intro xs K h;unfold rU at h;split at h
 ·exact⟨_,h.2,Fu _ h.1.get⟩
 ·exact h.elim
theorem zD {a b:List Int} (hl:a.length=b.length) (h:∀j,j<a.length→a.getD j 0=b.getD j 0):a=b:=by
 refine List.ext_getElem hl fun j h1 h2=>?_;have:=h j h1;rw[aeo,aeo,aev h1,aev h2]at this;exact this
theorem CQ (a b:List Int) (ha:a.length≤2000000):aF Tryz.prog 36 [.isl (.ints .i64 a) .none,.isl (.ints .i64 b) .none] (.bp (decide (a=b))):=by
 refine av (md:=1) (rf:=[]) mixed ak aD Tryz.func36 (by rfl) (by rfl) (by rfl) ?_
 repeat'((conv=>whnf);first|intro _|apply aI|with_reducible exact vM rfl|exact⟨⟩|apply nM|apply fM)
 all_goals((try apply vM);(try simp only[vq]at*);try omega)
 ·rw[show decide (a=b)=false from by simp;rintro rfl;simp at*];all_goals(refine Sup.via ?_;repeat'((conv=>whnf);first|intro _|apply aI|with_reducible exact vM rfl|exact⟨⟩|apply nM|apply fM);all_goals((try apply vM);(try simp only[vq]at*);try omega);all_goals(try(simp[CL.sub];done)))
 have hl:a.length=b.length:=by omega
 conv=>whnf
 refine aM (X:=Nat) (fun i=>i≤a.length∧∀j,j<i→a.getD j 0=b.getD j 0) (fun i=>[(5,.int .i64 i)]) (fun i=>[]) (fun i=>a.length-i) 0 ⟨aK,mixed,ak,aD,aQ⟩ (by rfl) ⟨by omega,fun j h=>by omega⟩ ?_ ?_
 ·repeat'((conv=>whnf);first|intro _|apply aI|with_reducible exact vM rfl|exact⟨⟩|apply nM|apply fM)
  all_goals((try apply vM);(try simp only[vq]at*);try omega)
 ·rintro i ⟨hi,hok⟩
  by_cases hlt:i<a.length
  ·repeat'((conv=>whnf);first|intro _|apply aI|with_reducible exact vM rfl|exact⟨⟩|apply nM|apply fM)
   all_goals((try apply vM);(try simp only[vq]at*);try omega)
   ·rw[show decide (a=b)=false from by simp;rintro rfl;simp_all];all_goals(refine Sup.via ?_;repeat'((conv=>whnf);first|intro _|apply aI|with_reducible exact vM rfl|exact⟨⟩|apply nM|apply fM);all_goals((try apply vM);(try simp only[vq]at*);try omega);all_goals(try(simp[CL.sub];done)))
   ·refine⟨i+1,[],⟨⟨by omega,fun j hj=>?_⟩,by omega⟩,?_⟩
    ·by_cases e:j=i
     ·subst e;omega
     ·exact hok j (by omega)
    ·repeat'((conv=>whnf);first|intro _|apply aI|with_reducible exact vM rfl|exact⟨⟩|apply nM|apply fM)
     all_goals((try apply vM);(try simp only[vq]at*);try omega)
  ·have:i=a.length:=by omega
   subst this;rw[show decide (a=b)=true from by simp;exact zD hl hok]
   repeat'((conv=>whnf);first|intro _|apply aI|with_reducible exact vM rfl|exact⟨⟩|apply nM|apply fM)
   all_goals((try apply vM);(try simp only[vq]at*);try omega)
   all_goals(refine Sup.via ?_;repeat'((conv=>whnf);first|intro _|apply aI|with_reducible exact vM rfl|exact⟨⟩|apply nM|apply fM);all_goals((try apply vM);(try simp only[vq]at*);try omega);all_goals(try(simp[CL.sub];done)))
def nu:PSp:=fun xs K=>match xs with
 | [.isl (.ints .i64 a) .none,.isl (.ints .i64 b) .none]=>VC (a.length≤2000000)∧K (.bp (decide (a=b)))
 |_=>False
theorem qg:POK Tryz.prog 36 nu:=by
 intro xs K h;unfold nu at h;split at h
 ·exact⟨_,h.2,CQ _ _ h.1.get⟩
 ·exact h.elim
theorem LX (a b:List Int) (ha:a.length≤2000000):aF Tryz.prog 223 [.isl (.ints .i64 a) .none,.isl (.ints .i64 b) .none] (.bp (decide (a=b))):=by
 refine av (md:=1) (rf:=[]) mixed ak aD Tryz.func223 (by rfl) (by rfl) (by rfl) ?_
 repeat'((conv=>whnf);first|intro _|apply aI|with_reducible exact vM rfl|exact⟨⟩|apply nM|apply fM)
 all_goals((try apply vM);(try simp only[vq]at*);try omega)
 ·rw[show decide (a=b)=false from by simp;rintro rfl;simp at*];all_goals(refine Sup.via ?_;repeat'((conv=>whnf);first|intro _|apply aI|with_reducible exact vM rfl|exact⟨⟩|apply nM|apply fM);all_goals((try apply vM);(try simp only[vq]at*);try omega);all_goals(try(simp[CL.sub];done)))
 have hl:a.length=b.length:=by omega
 conv=>whnf
 refine aM (X:=Nat) (fun i=>i≤a.length∧∀j,j<i→a.getD j 0=b.getD j 0) (fun i=>[(13,.int .i64 i)]) (fun i=>[]) (fun i=>a.length-i) 0 ⟨aK,mixed,ak,aD,aQ⟩ (by rfl) ⟨by omega,fun j h=>by omega⟩ ?_ ?_
 ·repeat'((conv=>whnf);first|intro _|apply aI|with_reducible exact vM rfl|exact⟨⟩|apply nM|apply fM)
  all_goals((try apply vM);(try simp only[vq]at*);try omega)
 ·rintro i ⟨hi,hok⟩
  by_cases hlt:i<a.length
  ·repeat'((conv=>whnf);first|intro _|apply aI|with_reducible exact vM rfl|exact⟨⟩|apply nM|apply fM)
   all_goals((try apply vM);(try simp only[vq]at*);try omega)
   ·rw[show decide (a=b)=false from by simp;rintro rfl;simp_all];all_goals(refine Sup.via ?_;repeat'((conv=>whnf);first|intro _|apply aI|with_reducible exact vM rfl|exact⟨⟩|apply nM|apply fM);all_goals((try apply vM);(try simp only[vq]at*);try omega);all_goals(try(simp[CL.sub];done)))
   ·refine⟨i+1,[],⟨⟨by omega,fun j hj=>?_⟩,by omega⟩,?_⟩
    ·by_cases e:j=i
     ·subst e;omega
     ·exact hok j (by omega)
    ·repeat'((conv=>whnf);first|intro _|apply aI|with_reducible exact vM rfl|exact⟨⟩|apply nM|apply fM)
     all_goals((try apply vM);(try simp only[vq]at*);try omega)
  ·have:i=a.length:=by omega
   subst this;rw[show decide (a=b)=true from by simp;exact zD hl hok]
   repeat'((conv=>whnf);first|intro _|apply aI|with_reducible exact vM rfl|exact⟨⟩|apply nM|apply fM)
   all_goals((try apply vM);(try simp only[vq]at*);try omega)
   all_goals(refine Sup.via ?_;repeat'((conv=>whnf);first|intro _|apply aI|with_reducible exact vM rfl|exact⟨⟩|apply nM|apply fM);all_goals((try apply vM);(try simp only[vq]at*);try omega);all_goals(try(simp[CL.sub];done)))
def Fv:PSp:=fun xs K=>match xs with
 | [.isl (.ints .i64 a) .none,.isl (.ints .i64 b) .none]=>VC (a.length≤2000000)∧K (.bp (decide (a=b)))
 |_=>False
theorem RI:POK Tryz.prog 223 Fv:=by
 intro xs K h;unfold Fv at h;split at h
 ·exact⟨_,h.2,LX _ _ h.1.get⟩
 ·exact h.elim
noncomputable def acO:CPT:=aA 36 (aB nu) noC
theorem Jp:aW Tryz.prog acO:=aj (au qg) aD
theorem Fx (ls:List (List Int)) (l:List Int) (hl:ls.length≤1000000∧∀x∈ls,x.length≤5000):aF Tryz.prog 165 [.isl (.rows .i64 ls) .none,.isl (.ints .i64 l) .none] (.bp (ls.any fun x=>decide (x=l))):=by
 refine av (md:=1) (rf:=[]) mixed ak Jp Tryz.func165 (by rfl) (by rfl) (by rfl) ?_
 repeat'((conv=>whnf);first|intro _|apply aI|with_reducible exact vM rfl|exact⟨⟩|apply nM|apply fM)
 all_goals((try apply vM);(try simp only[vq]at*);try omega)
 conv=>whnf
 refine aM (X:=Nat) (fun i=>i≤ls.length∧∀j,j<i→ls.getD j []≠l) (fun i=>[(5,.int .i64 i)]) (fun i=>[]) (fun i=>ls.length-i) 0 ⟨aK,mixed,ak,Jp,aQ⟩ (by rfl) ⟨by omega,fun j h=>by omega⟩ ?_ ?_
 ·repeat'((conv=>whnf);first|intro _|apply aI|with_reducible exact vM rfl|exact⟨⟩|apply nM|apply fM)
  all_goals((try apply vM);(try simp only[vq]at*);try omega)
 ·rintro i ⟨hi,hok⟩
  by_cases hlt:i<ls.length
  ·have hm:=hl.2 _ (kR hlt)
   repeat'((conv=>whnf);first|intro _|apply aI|with_reducible exact vM rfl|exact⟨⟩|apply nM|apply fM)
   all_goals((try apply vM);(try simp only[vq]at*);try omega)
   ·rename_i hq
    rw[show(ls.any fun x=>decide (x=l))=true from agC.2 ⟨_,kR hlt,decide_eq_true hq⟩];all_goals(refine Sup.via ?_;repeat'((conv=>whnf);first|intro _|apply aI|with_reducible exact vM rfl|exact⟨⟩|apply nM|apply fM);all_goals((try apply vM);(try simp only[vq]at*);try omega);all_goals(try(simp[CL.sub];done)))
   ·refine⟨i+1,[],⟨⟨by omega,fun j hj=>?_⟩,by omega⟩,?_⟩
    ·by_cases e:j=i
     ·subst e;assumption
     ·exact hok j (by omega)
    ·repeat'((conv=>whnf);first|intro _|apply aI|with_reducible exact vM rfl|exact⟨⟩|apply nM|apply fM)
     all_goals((try apply vM);(try simp only[vq]at*);try omega)
  ·have:i=ls.length:=by omega
   subst this;rw[show(ls.any fun x=>decide (x=l))=false from agD.2 fun x hx=>by
    obtain⟨j,hj,rfl⟩:=aeu hx;have:=hok j hj;rw[aeo,aev hj]at this;simpa using this]
   repeat'((conv=>whnf);first|intro _|apply aI|with_reducible exact vM rfl|exact⟨⟩|apply nM|apply fM)
   all_goals((try apply vM);(try simp only[vq]at*);try omega)
   all_goals(refine Sup.via ?_;repeat'((conv=>whnf);first|intro _|apply aI|with_reducible exact vM rfl|exact⟨⟩|apply nM|apply fM);all_goals((try apply vM);(try simp only[vq]at*);try omega);all_goals(try(simp[CL.sub];done)))
def xX:PSp:=fun xs K=>match xs with
 | [.isl (.rows .i64 ls) .none,.isl (.ints .i64 l) .none]=>VC (ls.length≤1000000∧∀x∈ls,x.length≤5000)∧K (.bp (ls.any fun x=>decide (x=l)))
 |_=>False
theorem LY:POK Tryz.prog 165 xX:=by
 intro xs K h;unfold xX at h;split at h
 ·exact⟨_,h.2,Fx _ _ h.1.get⟩
 ·exact h.elim
def cO (f:Nat→Int) (n:Nat):Int:=match(ael n).find? (fun i=>decide (f i≠0))with
 |some i=>f i
 |none=>0
theorem fO {f:Nat→Int} {n:Nat} (h:∀i,i<n→f i=0):cO f n=0:=by
 unfold cO;rw[uQ (fun i hi=>by simpa using h i hi)]
theorem dY {f:Nat→Int} {n y:Nat} (hy:y<n) (hp:f y≠0) (h:∀i,i<y→f i=0):cO f n=f y:=by
 unfold cO;rw[Cc hy (by simpa using hp) (fun i hi=>by simpa using h i hi)]
theorem fP {f:Nat→Int} {n:Nat} (h:cO f n=0):∀i,i<n→f i=0:=by
 intro i hi;unfold cO at h;cases hf:(ael n).find? (fun i=>decide (f i≠0))with
 |some j=>
  rw[hf]at h;have:=agB hf;simp only[decide_eq_true_eq]at this;exact absurd h this
 |none=>
  rw[agz]at hf;simpa using hf i (by simpa using hi)
def bT (c:Int) (l:List Int) (k:Nat):Int:=if l.getD k 0<0∨c≤l.getD k 0 then 10 else if 0<k∧l.getD k 0≤l.getD (k-1) 0 then 11 else 0
def iW (c:Int) (ls:List (List Int)) (i:Nat):Int:=
 if(ls.getD i []).length=0 then 12 else if cO (bT c (ls.getD i [])) (ls.getD i []).length≠0 then cO (bT c (ls.getD i [])) (ls.getD i []).length
 else if(ls.take i).any (fun x=>decide (x=ls.getD i []))then 9 else 0
def iX (c:Int) (ls:List (List Int)):Int:=if c<1∨256<c then 3 else if 128<ls.length then 5 else cO (iW c ls) ls.length
structure bH (ls:List (List Int)):Prop where
 len:ls.length≤1000000
 all:∀x∈ls,x.length≤5000
theorem bH.at' {ls:List (List Int)} (h:bH ls) (i:Nat):(ls.getD i []).length≤5000:=by
 by_cases hi:i<ls.length
 ·exact h.all _ (kR hi)
 ·rw[aeo,List.getElem?_eq_none (by omega)];simp
theorem Cg {ls:List (List Int)} (h:bH ls) (i:Nat):(ls.take i).length≤1000000∧∀x∈ls.take i,x.length≤5000:=
 ⟨by have:=h.len;rw[ae0];omega,fun x hx=>h.all x (agG hx)⟩
noncomputable def acP:CPT:=aA 165 (aB xX) noC
theorem qB:aW Tryz.prog acP:=aj (au LY) aD
theorem OZ (c:Int) (ls:List (List Int)) (h:bH ls):aF Tryz.prog 120 [.agg [.int .i64 c,.isl (.rows .i64 ls) .none]] (.int .i64 (iX c ls)):=by
 have h2:=h.len;unfold iX;by_cases hc:c<1∨256<c
 ·rw[if_pos hc]
  refine av (md:=1) (rf:=[]) mixed ak qB Tryz.func120 (by rfl) (by rfl) (by rfl) ?_
  repeat'((conv=>whnf);first|(intro hq;(try simp only[vw]at hq);try first|exact absurd hq (by decide)|exfalso;omega)|apply aI|with_reducible exact vM rfl|exact⟨⟩|apply nM|apply fM)
  all_goals((try apply vM);(try simp only[vq]at*);try omega)
  all_goals first|exact Sup.of rfl|(exfalso;omega)
 rw[if_neg hc];by_cases hl:128<ls.length
 ·rw[if_pos hl]
  refine av (md:=1) (rf:=[]) mixed ak qB Tryz.func120 (by rfl) (by rfl) (by rfl) ?_
  repeat'((conv=>whnf);first|(intro hq;(try simp only[vw]at hq);try first|exact absurd hq (by decide)|exfalso;omega)|apply aI|with_reducible exact vM rfl|exact⟨⟩|apply nM|apply fM)
  all_goals((try apply vM);(try simp only[vq]at*);try omega)
  all_goals first|exact Sup.of rfl|(exfalso;omega)
 rw[if_neg hl];refine av (md:=1) (rf:=[]) mixed ak qB Tryz.func120 (by rfl) (by rfl) (by rfl) ?_
 repeat'((conv=>whnf);first|(intro hq;(try simp only[vw]at hq);try first|exact absurd hq (by decide)|exfalso;omega)|apply aI|with_reducible exact vM rfl|exact⟨⟩|apply nM|apply fM)
 all_goals((try apply vM);(try simp only[vq]at*);try omega)
 conv=>whnf
 refine aM (X:=Nat) (fun i=>i≤ls.length∧∀j,j<i→iW c ls j=0) (fun i=>[(3,.int .i64 i)]) (fun i=>[]) (fun i=>ls.length-i) 0 ⟨aK,mixed,ak,qB,aQ⟩ (by rfl) ⟨by omega,fun j hj=>by omega⟩ ?_ ?_
 ·repeat'((conv=>whnf);first|intro _|apply aI|with_reducible exact vM rfl|exact⟨⟩|apply nM|apply fM)
  all_goals((try apply vM);(try simp only[vq]at*);try omega)
 intro i ⟨hi,hok⟩;by_cases hlt:i<ls.length
 ·have e1:=h.at' i
  have e4:=Cg h i;obtain⟨l,hL⟩:∃l,ls.getD i []=l:=⟨_,rfl⟩;have eE:iW c ls i=if l.length=0 then 12 else if cO (bT c l) l.length≠0 then cO (bT c l) l.length else if(ls.take i).any (fun x=>decide (x=l))then 9 else 0:=by unfold iW;rw[hL]
  rw[hL]at e1
  repeat'((conv=>whnf);first|(intro hq;(try simp only[vw]at hq);try first|exact absurd hq (by decide)|exfalso;omega)|apply aI|with_reducible exact vM rfl|exact⟨⟩|apply nM|apply fM)
  all_goals((try apply vM);(try simp only[vq]at*);try omega)
  ·rename_i hq
   rw[hL]at hq;rw[if_pos (by omega)]at eE
   rw[dY hlt (by rw[eE];decide) hok,eE]
   exact Sup.of rfl
  rename_i hq;rw[hL]at hq⊢;rw[if_neg (by omega)]at eE
  conv=>whnf
  refine aM (X:=Nat) (fun k=>k≤l.length∧∀j,j<k→bT c l j=0) (fun k=>[(5,.int .i64 k)]) (fun k=>[]) (fun k=>l.length-k) 0 ⟨aK,mixed,ak,qB,aQ⟩ (by rfl) ⟨by omega,fun j hj=>by omega⟩ ?_ ?_
  ·repeat'((conv=>whnf);first|intro _|apply aI|with_reducible exact vM rfl|exact⟨⟩|apply nM|apply fM)
   all_goals((try apply vM);(try simp only[vq]at*);try omega)
   all_goals first|exact hL|exact hL.symm|skip
  intro k ⟨hk,hok2⟩;by_cases hkl:k<l.length
  ·have eS:bT c l k=if l.getD k 0<0∨c≤l.getD k 0 then 10 else if 0<k∧l.getD k 0≤l.getD (k-1) 0 then 11 else 0:=rfl
   have ek:((k:Int)-1).toNat=k-1:=by omega
   have fin:∀e,bT c l k=e→e≠0→cO (iW c ls) ls.length=e:=fun e a1 a2=>by
    have a3:cO (bT c l) l.length=e:=(dY hkl (by rw[a1];exact a2) hok2).trans a1
    have a4:iW c ls i=e:=by rw[eE,if_pos (by rw[a3];exact a2),a3]
    exact(dY hlt (by rw[a4];exact a2) hok).trans a4
   have nxt:bT c l k=0→∀j,j<k+1→bT c l j=0:=fun a j hj=>by
    by_cases e:j=k
    ·subst e;exact a
    ·exact hok2 j (by omega)
   repeat'((conv=>whnf);first|(intro hq;(try simp only[vw]at hq);try first|exact absurd hq (by decide)|exfalso;omega)|apply aI|with_reducible exact vM rfl|exact⟨⟩|apply nM|apply fM)
   all_goals((try apply vM);(try simp only[vq]at*);try omega)
   ·rw[fin 10 (by rw[eS,if_pos (by omega)]) (by decide)];exact Sup.of rfl
   ·rename_i hq
    rw[ek]at hq;rw[fin 11 (by rw[eS,if_neg (by omega),if_pos (by omega)]) (by decide)];exact Sup.of rfl
   ·rename_i hq
    rw[ek]at hq;refine⟨k+1,[],⟨⟨by omega,nxt (by rw[eS,if_neg (by omega),if_neg (by omega)])⟩,by omega⟩,?_⟩
    repeat'((conv=>whnf);first|(intro hq;(try simp only[vw]at hq);try first|exact absurd hq (by decide)|exfalso;omega)|apply aI|with_reducible exact vM rfl|exact⟨⟩|apply nM|apply fM)
   ·refine⟨k+1,[],⟨⟨by omega,nxt (by rw[eS,if_neg (by omega),if_neg (by omega)])⟩,by omega⟩,?_⟩
    repeat'((conv=>whnf);first|(intro hq;(try simp only[vw]at hq);try first|exact absurd hq (by decide)|exfalso;omega)|apply aI|with_reducible exact vM rfl|exact⟨⟩|apply nM|apply fM)
   ·rw[fin 10 (by rw[eS,if_pos (by omega)]) (by decide)];exact Sup.of rfl
  ·have a3:cO (bT c l) l.length=0:=fO (n:=l.length) (by rw[show l.length=k by omega];exact hok2)
   rw[if_neg (by rw[a3];simp)]at eE
   have et:agH (i-0) (agI 0 ls)=ls.take i:=by rw[agJ,agK]
   repeat'((conv=>whnf);first|(intro hq;(try simp only[vw]at hq);try first|exact absurd hq (by decide)|exfalso;omega)|apply aI|with_reducible exact vM rfl|exact⟨⟩|apply nM|apply fM)
   all_goals((try apply vM);(try simp only[vq]at*);try omega)
   ·rw[et];exact e4
   ·rename_i hq
    rw[et]at hq;rw[if_pos hq]at eE;rw[dY hlt (by rw[eE];decide) hok,eE]
    exact Sup.of rfl
   ·rename_i hq
    rw[et]at hq;rw[if_neg (by rw[hq];decide)]at eE
    refine⟨i+1,[],⟨⟨by omega,fun j hj=>?_⟩,by omega⟩,?_⟩
    ·by_cases e:j=i
     ·subst e;exact eE
     ·exact hok j (by omega)
    repeat'((conv=>whnf);first|(intro hq;(try simp only[vw]at hq);try first|exact absurd hq (by decide)|exfalso;omega)|apply aI|with_reducible exact vM rfl|exact⟨⟩|apply nM|apply fM)
 ·rw[fO (n:=ls.length) (by rw[show ls.length=i by omega];exact hok)]
  repeat'((conv=>whnf);first|(intro hq;(try simp only[vw]at hq);try first|exact absurd hq (by decide)|exfalso;omega)|apply aI|with_reducible exact vM rfl|exact⟨⟩|apply nM|apply fM)
  exact Sup.of rfl
def DC:PSp:=fun xs K=>match xs with
 | [.agg [.int .i64 c,.isl (.rows .i64 ls) .none]]=>VC (bH ls)∧K (.int .i64 (iX c ls))
 |_=>False
theorem Jq:POK Tryz.prog 120 DC:=by
 intro xs K h;unfold DC at h;split at h
 ·exact⟨_,h.2,OZ _ _ h.1.get⟩
 ·exact h.elim
def LZ:PSp:=fun xs K=>match xs with
 | [.isl (.rows .i64 l) .none,.fn (.func f) fs cs]=>VC (l.length≤2000000)∧∃p:List Int→Bool,(∀x∈l,aF Tryz.prog f (fs++[.isl (.ints .i64 x) .none]++cs) (.bp (p x)))∧K (.int .i64 (firstAt (fun i=>p (l.getD i [])) l.length))
 |_=>False
theorem O1 (l:List (List Int)) (hl:l.length≤2000000) (f:Nat) (fs cs:List PV) (p:List Int→Bool) (hp:∀x∈l,aF Tryz.prog f (fs++[.isl (.ints .i64 x) .none]++cs) (.bp (p x))):
 aF Tryz.prog 185 [.isl (.rows .i64 l) .none,.fn (.func f) fs cs] (.int .i64 (firstAt (fun i=>p (l.getD i [])) l.length)):=by
 refine zh 1 (enters' Tryz.func185 (by rfl) (by rfl)) rfl (by simp) fun S0 w0 us vs hu hv=>?_
 have hY:∀r,jY Tryz.prog r (vT S0 w0) (fnY f us vs fun xs K=>match xs with
  | [.isl (.ints .i64 x) .none]=>VC (x∈l)∧K (.bp (p x))
  |_=>False):=fun r=>Og (fs:=fs) (cs:=cs) (fun S w hb=>⟨hu.mono hb.1 (.refl _),hv.mono hb.1 (.refl _)⟩) fun xs K hk=>by
  split at hk
  ·exact⟨_,hk.2,hp _ hk.1.get⟩
  ·exact hk.elim
 have W:Walk Tryz.prog none (vT S0 w0) tab.get noC _:=⟨rF,mixed,ak,aD.up _,hY none⟩;refine uf rF mixed ak (md:=1) (rf:=[]) (aD.up _) (hY none) Tryz.func185 (by rfl) (by rfl) ?_
 repeat'((conv=>whnf);first|intro _|apply aI|with_reducible exact vM rfl|exact⟨⟩|apply nM|apply fM)
 all_goals((try apply vM);(try simp only[vq]at*);try omega)
 conv=>whnf
 refine aM (X:=Nat) (fun i=>i≤l.length∧∀j,j<i→p (l.getD j [])=false) (fun i=>[(8,.int .i64 i)]) (fun i=>[]) (fun i=>l.length-i) 0 W (by rfl) ⟨by omega,fun j hj=>by omega⟩ ?_ ?_
 ·repeat'((conv=>whnf);first|intro _|apply aI|with_reducible exact vM rfl|exact⟨⟩|apply nM|apply fM)
  all_goals((try apply vM);(try simp only[vq]at*);try omega)
 ·rintro i ⟨hi,hok⟩
  by_cases hlt:i<l.length
  ·have hm:l.getD i []∈l:=kR hlt
   repeat'((conv=>whnf);first|intro _|apply aI|with_reducible exact vM rfl|exact⟨⟩|apply nM|apply fM)
   all_goals((try apply vM);(try simp only[vq]at*);try omega)
   ·rw[jG hlt ‹p (l.getD i [])=true› hok];exact Sup.of rfl
   ·refine⟨i+1,[],⟨⟨by omega,fun j hj=>?_⟩,by omega⟩,?_⟩
    ·by_cases e:j=i
     ·subst e;assumption
     ·exact hok j (by omega)
    ·repeat'((conv=>whnf);first|intro _|apply aI|with_reducible exact vM rfl|exact⟨⟩|apply nM|apply fM)
     all_goals((try apply vM);(try simp only[vq]at*);try omega)
  ·have:i=l.length:=by omega
   subst this;rw[jF hok]
   repeat'((conv=>whnf);first|intro _|apply aI|with_reducible exact vM rfl|exact⟨⟩|apply nM|apply fM)
   all_goals((try apply vM);(try simp only[vq]at*);try omega)
   exact Sup.of rfl
theorem X4:POK Tryz.prog 185 LZ:=by
 intro xs K h;unfold LZ at h;split at h
 ·obtain⟨⟨h1⟩,p,h2,hK⟩:=h
  exact⟨_,hK,O1 _ h1 _ _ _ p h2⟩
 ·exact h.elim
def L6:PSp:=fun xs K=>match xs with
 | [.isl (.rows .i64 l) .none,.fn (.func f) fs cs]=>VC (l.length≤2000000∧eF.inlF fs=true∧eF.inlF cs=true)∧∃p:List Int→Bool,(∀x∈l,aF Tryz.prog f (fs++[.isl (.ints .i64 x) .none]++cs) (.bp (p x)))∧K (.bp (l.any p))
 |_=>False
theorem O4 (l:List (List Int)) (hl:l.length≤2000000) (f:Nat) (fs cs:List PV) (hfs:eF.inlF fs=true) (hcs:eF.inlF cs=true) (p:List Int→Bool) (hp:∀x∈l,aF Tryz.prog f (fs++[.isl (.ints .i64 x) .none]++cs) (.bp (p x))):
 aF Tryz.prog 140 [.isl (.rows .i64 l) .none,.fn (.func f) fs cs] (.bp (l.any p)):=by
 have hc:aW Tryz.prog (aA 185 (aB LZ) noC):=aj (au X4) aD;refine av (md:=1) (rf:=[]) mixed ak hc Tryz.func140 (by rfl) (by rfl) (by rfl) ?_
 repeat'((conv=>whnf);first|intro _|apply aI|with_reducible exact vM rfl|exact⟨⟩|apply nM|apply fM)
 conv=>whnf
 simp only[aB,pI,jf,qV,eF,hfs,hcs]
 repeat'((conv=>whnf);first|intro _|apply aI|with_reducible exact vM rfl|exact⟨⟩|apply nM|apply fM)
 all_goals((try apply vM);(try simp only[vq]at*);try omega)
 refine⟨p,hp,?_⟩
 repeat'((conv=>whnf);first|intro _|apply aI|with_reducible exact vM rfl|exact⟨⟩|apply nM|apply fM)
 all_goals((try apply vM);(try simp only[vq]at*);try omega)
 refine Sup.via ?_
 repeat'((conv=>whnf);first|intro _|apply aI|with_reducible exact vM rfl|exact⟨⟩|apply nM|apply fM)
 refine VC.mk ?_;rw[iE,nk]
theorem X5:POK Tryz.prog 140 L6:=by
 intro xs K h;unfold L6 at h;split at h
 ·obtain⟨⟨h1,h3,h4⟩,p,h2,hK⟩:=h
  exact⟨_,hK,O4 _ h1 _ _ _ h3 h4 p h2⟩
 ·exact h.elim
noncomputable def abU:CPT:=aA 223 (aB Fv) noC
theorem RJ:aW Tryz.prog abU:=aj (au RI) aD
theorem O5 (l x:List Int) (hx:x.length≤2000000):aF Tryz.prog 222 ([]++[.isl (.ints .i64 x) .none]++[.ip (.pv [.isl (.ints .i64 l) .none]) 0]) (.bp (decide (x=l))):=by
 refine av (md:=1) (rf:=[]) mixed ak RJ Tryz.func222 (by rfl) (by rfl) (by rfl) ?_
 repeat'((conv=>whnf);first|intro _|apply aI|with_reducible exact vM rfl|exact⟨⟩|apply nM|apply fM)
 all_goals((try apply vM);(try simp only[vq]at*);try omega)
 exact Sup.of rfl
noncomputable def abV:CPT:=aA 193 (aB ow) (aA 195 (aB eO) (aA 140 (uy L6) noC))
theorem Fy:aW Tryz.prog abV:=aj (au pU) (aj (au oW) (aj (uz X5) aD))
theorem Fz (c:Int) (ls:List (List Int)) (i:Nat) (h:bH ls) (hlt:i<ls.length):aF Tryz.prog 196 [.agg [.int .i64 c,.isl (.rows .i64 ls) .none],.int .i64 (i:Int)] (.int .i64 (iW c ls i)):=by
 have h2:=h.len;have e1:=h.at' i;have e4:=Cg h i;obtain⟨l,hL⟩:∃l,ls.getD i []=l:=⟨_,rfl⟩;have eE:iW c ls i=if l.length=0 then 12 else if cO (bT c l) l.length≠0 then cO (bT c l) l.length else if(ls.take i).any (fun x=>decide (x=l))then 9 else 0:=by unfold iW;rw[hL]
 rw[hL]at e1;refine av (md:=1) (rf:=[]) mixed ak Fy Tryz.func196 (by rfl) (by rfl) (by rfl) ?_
 repeat'((conv=>whnf);first|intro _|apply aI|with_reducible exact vM rfl|exact⟨⟩|apply nM|apply fM)
 all_goals((try apply vM);(try simp only[vq]at*);try omega)
 ·rw[hL]at*
  rw[eE,if_pos (by omega)];exact Sup.of rfl
 rename_i h0;rw[hL]at h0⊢;rw[if_neg (by omega)]at eE
 conv=>whnf
 refine aM (X:=Nat) (fun k=>k≤l.length∧∀j,j<k→bT c l j=0) (fun k=>[(19,.int .i64 k)]) (fun k=>[]) (fun k=>l.length-k) 0 ⟨aK,mixed,ak,Fy,aQ⟩ (by rfl) ⟨by omega,fun j hj=>by omega⟩ ?_ ?_
 ·repeat'((conv=>whnf);first|intro _|apply aI|with_reducible exact vM rfl|exact⟨⟩|apply nM|apply fM)
  all_goals((try apply vM);(try simp only[vq]at*);try omega)
  all_goals first|exact hL|exact hL.symm|skip
 intro k ⟨hk,hok2⟩;by_cases hkl:k<l.length
 ·have eS:bT c l k=if l.getD k 0<0∨c≤l.getD k 0 then 10 else if 0<k∧l.getD k 0≤l.getD (k-1) 0 then 11 else 0:=rfl
  have ek:((k:Int)-1).toNat=k-1:=by omega
  have fin:∀e,bT c l k=e→e≠0→iW c ls i=e:=fun e a1 a2=>by
   have a3:cO (bT c l) l.length=e:=(dY hkl (by rw[a1];exact a2) hok2).trans a1
   rw[eE,if_pos (by rw[a3];exact a2),a3]
  have nxt:bT c l k=0→∀j,j<k+1→bT c l j=0:=fun a j hj=>by
   by_cases e:j=k
   ·subst e;exact a
   ·exact hok2 j (by omega)
  repeat'((conv=>whnf);first|intro _|apply aI|with_reducible exact vM rfl|exact⟨⟩|apply nM|apply fM)
  all_goals((try apply vM);(try simp only[vq]at*);try omega)
  ·rename_i hq
   refine Sup.of (congrArg (PV.int .i64) (fin _ ?_ hq).symm)
   (rw[eS];simp only[aG,ek,if_true,if_false,ite_true,ite_false];(repeat' split)<;>(first|rfl|omega))
  ·rename_i hq
   refine⟨k+1,[],⟨⟨by omega,nxt (Eq.trans ?_ (ae2.1 hq))⟩,by omega⟩,?_⟩
   ·(rw[eS];simp only[aG,ek,if_true,if_false,ite_true,ite_false];(repeat' split)<;>(first|rfl|omega))
   repeat'((conv=>whnf);first|intro _|apply aI|with_reducible exact vM rfl|exact⟨⟩|apply nM|apply fM)
  ·rename_i hq
   refine Sup.of (congrArg (PV.int .i64) (fin _ ?_ hq).symm)
   (rw[eS];simp only[aG,ek,if_true,if_false,ite_true,ite_false];(repeat' split)<;>(first|rfl|omega))
  ·rename_i hq
   refine⟨k+1,[],⟨⟨by omega,nxt (Eq.trans ?_ (ae2.1 hq))⟩,by omega⟩,?_⟩
   ·(rw[eS];simp only[aG,ek,if_true,if_false,ite_true,ite_false];(repeat' split)<;>(first|rfl|omega))
   repeat'((conv=>whnf);first|intro _|apply aI|with_reducible exact vM rfl|exact⟨⟩|apply nM|apply fM)
  ·rename_i hq
   refine Sup.of (congrArg (PV.int .i64) (fin _ ?_ hq).symm)
   (rw[eS];simp only[aG,ek,if_true,if_false,ite_true,ite_false];(repeat' split)<;>(first|rfl|omega))
  ·rename_i hq
   refine⟨k+1,[],⟨⟨by omega,nxt (Eq.trans ?_ (ae2.1 hq))⟩,by omega⟩,?_⟩
   ·(rw[eS];simp only[aG,ek,if_true,if_false,ite_true,ite_false];(repeat' split)<;>(first|rfl|omega))
   repeat'((conv=>whnf);first|intro _|apply aI|with_reducible exact vM rfl|exact⟨⟩|apply nM|apply fM)
  ·rename_i hq
   refine Sup.of (congrArg (PV.int .i64) (fin _ ?_ hq).symm)
   (rw[eS];simp only[aG,ek,if_true,if_false,ite_true,ite_false];(repeat' split)<;>(first|rfl|omega))
  ·rename_i hq
   refine⟨k+1,[],⟨⟨by omega,nxt (Eq.trans ?_ (ae2.1 hq))⟩,by omega⟩,?_⟩
   ·(rw[eS];simp only[aG,ek,if_true,if_false,ite_true,ite_false];(repeat' split)<;>(first|rfl|omega))
   repeat'((conv=>whnf);first|intro _|apply aI|with_reducible exact vM rfl|exact⟨⟩|apply nM|apply fM)
 ·have a3:cO (bT c l) l.length=0:=fO (n:=l.length) (by rw[show l.length=k by omega];exact hok2)
  rw[if_neg (by rw[a3];simp)]at eE
  have et:agH (i-0) (agI 0 ls)=ls.take i:=by rw[agJ,agK]
  repeat'((conv=>whnf);first|intro _|apply aI|with_reducible exact vM rfl|exact⟨⟩|apply nM|apply fM)
  all_goals((try apply vM);(try simp only[vq]at*);try omega)
  ·rw[et];exact⟨by omega,rfl,rfl⟩
  rw[et];refine⟨fun x=>decide (x=l),fun x hx=>O5 l x (by have:=e4.2 x hx;omega),?_⟩
  rw[eE]
  repeat'((conv=>whnf);first|intro _|apply aI|with_reducible exact vM rfl|exact⟨⟩|apply nM|apply fM)
  all_goals((try apply vM);(try simp only[vq]at*);try omega)
  exact Sup.of rfl
theorem CU {c:Int} {ls:List (List Int)} {i:Int} (h:bH ls) (h0:0≤i) (hlt:i<ls.length):aF Tryz.prog 196 [.agg [.int .i64 c,.isl (.rows .i64 ls) .none],.int .i64 i] (.int .i64 (iW c ls i.toNat)):=by
 have:=Fz c ls i.toNat h (by omega)
 rwa [Int.toNat_of_nonneg h0]at this
def xY:PSp:=fun xs K=>match xs with
 | [.agg [.int .i64 c,.isl (.rows .i64 ls) .none],.int .i64 i]=>VC (bH ls∧0≤i∧i<ls.length)∧K (.int .i64 (iW c ls i.toNat))
 |_=>False
theorem L8:POK Tryz.prog 196 xY:=by
 intro xs K h;unfold xY at h;split at h
 ·exact⟨_,h.2,CU h.1.get.1 h.1.get.2.1 h.1.get.2.2⟩
 ·exact h.elim
noncomputable def acQ:CPT:=aA 193 (aB ow) (aA 195 (aB eO) (aA 194 (aB Dz) (aA 196 (aB xY) noC)))
theorem Jr:aW Tryz.prog acQ:=aj (au pU) (aj (au oW) (aj (au Jo) (aj (au L8) aD)))
theorem RL (c:Int) (ls:List (List Int)) (h:bH ls):aF Tryz.prog 153 [.agg [.int .i64 c,.isl (.rows .i64 ls) .none]] (.int .i64 (iX c ls)):=by
 have h2:=h.len;have hf:aG [if [c].any (jI 1 256)then 3 else 0,if 128<(ls.length:Int)then 5 else 0]=if c<1∨256<c then 3 else if 128<ls.length then 5 else 0:=by
  simp only[aG,List.any_cons,List.any_nil,Bool.or_false,jI,Bool.or_eq_true,decide_eq_true_eq]
  (repeat' split)<;>(first|rfl|omega)
 unfold iX;refine av (md:=1) (rf:=[]) mixed ak Jr Tryz.func153 (by rfl) (by rfl) (by rfl) ?_
 repeat'((conv=>whnf);first|intro _|apply aI|with_reducible exact vM rfl|exact⟨⟩|apply nM|apply fM)
 all_goals((try apply vM);(try simp only[vq]at*);try omega)
 ·rename_i hq
  rw[hf]at hq⊢;by_cases hc:c<1∨256<c
  ·rw[if_pos hc,if_pos hc];exact Sup.of rfl
  rw[if_neg hc]at hq⊢;by_cases hl:128<ls.length
  ·rw[if_neg hc,if_pos hl,if_pos hl];exact Sup.of rfl
  ·rw[if_neg hl]at hq;exact absurd rfl hq
 rename_i hq;have hq:=ae2.1 hq;rw[hf]at hq;have hc:¬(c<1∨256<c):=fun hc=>by rw[if_pos hc]at hq;cases hq
 rw[if_neg hc]at hq⊢;have hl:¬128<ls.length:=fun hl=>by rw[if_pos hl]at hq;cases hq
 rw[if_neg hl];conv=>whnf
 refine aM (X:=Nat) (fun i=>i≤ls.length∧∀j,j<i→iW c ls j=0) (fun i=>[(23,.int .i64 i)]) (fun i=>[]) (fun i=>ls.length-i) 0 ⟨aK,mixed,ak,Jr,aQ⟩ (by rfl) ⟨by omega,fun j hj=>by omega⟩ ?_ ?_
 ·repeat'((conv=>whnf);first|intro _|apply aI|with_reducible exact vM rfl|exact⟨⟩|apply nM|apply fM)
  all_goals((try apply vM);(try simp only[vq]at*);try omega)
 intro i ⟨hi,hok⟩;by_cases hlt:i<ls.length
 ·repeat'((conv=>whnf);first|intro _|apply aI|with_reducible exact vM rfl|exact⟨⟩|apply nM|apply fM)
  all_goals((try apply vM);(try simp only[vq]at*);try omega)
  ·exact⟨h,by omega,by omega⟩
  ·rename_i hq
   rw[dY hlt hq hok];exact Sup.of rfl
  ·rename_i hq
   refine⟨i+1,[],⟨⟨by omega,fun j hj=>?_⟩,by omega⟩,?_⟩
   ·by_cases e:j=i
    ·subst e;exact ae2.1 hq
    ·exact hok j (by omega)
   repeat'((conv=>whnf);first|intro _|apply aI|with_reducible exact vM rfl|exact⟨⟩|apply nM|apply fM)
   all_goals((try apply vM);(try simp only[vq]at*);try omega)
 ·rw[fO (n:=ls.length) (by rw[show ls.length=i by omega];exact hok)]
  repeat'((conv=>whnf);first|intro _|apply aI|with_reducible exact vM rfl|exact⟨⟩|apply nM|apply fM)
  all_goals((try apply vM);(try simp only[vq]at*);try omega)
  exact Sup.of rfl
def Md:PSp:=fun xs K=>match xs with
 | [.agg [.int .i64 c,.isl (.rows .i64 ls) .none]]=>VC (bH ls)∧K (.int .i64 (iX c ls))
 |_=>False
theorem O6:POK Tryz.prog 153 Md:=by
 intro xs K h;unfold Md at h;split at h
 ·exact⟨_,h.2,RL _ _ h.1.get⟩
 ·exact h.elim
def rV (c:Int) (ls:List (List Int)) (f:List Int):Int:=aG [iX c ls,if(f.length:Int)≠c then 2 else 0,rT f]
noncomputable def acR:CPT:=aA 193 (aB ow) (aA 195 (aB eO) (aA 153 (aB Md) (aA 203 (aB rU) noC)))
theorem X6:aW Tryz.prog acR:=aj (au pU) (aj (au oW) (aj (au O6) (aj (au zC) aD)))
theorem Me (c:Int) (ls:List (List Int)) (f:List Int) (h:bH ls) (hf:f.length≤2000000):aF Tryz.prog 168 [.agg [.int .i64 c,.isl (.rows .i64 ls) .none],.isl (.ints .i64 f) .none] (.int .i64 (rV c ls f)):=by
 unfold rV;refine av (md:=1) (rf:=[]) mixed ak X6 Tryz.func168 (by rfl) (by rfl) (by rfl) ?_
 repeat'((conv=>whnf);first|intro _|apply aI|with_reducible exact vM rfl|exact⟨⟩|apply nM|apply fM)
 all_goals((try apply vM);(try simp only[vq]at*);try omega)
 all_goals first|exact h|exact Sup.of rfl
def FB:PSp:=fun xs K=>match xs with
 | [.agg [.int .i64 c,.isl (.rows .i64 ls) .none],.isl (.ints .i64 f) .none]=>VC (bH ls∧f.length≤2000000)∧K (.int .i64 (rV c ls f))
 |_=>False
theorem RN:POK Tryz.prog 168 FB:=by
 intro xs K h;unfold FB at h;split at h
 ·exact⟨_,h.2,Me _ _ _ h.1.get.1 h.1.get.2⟩
 ·exact h.elim
noncomputable def acS:CPT:=aA 168 (aB FB) (aA 169 (aB xW) noC)
theorem X7:aW Tryz.prog acS:=aj (au RN) (aj (au LW) aD)
theorem CV (c:Int) (ls:List (List Int)) (f:List Int) (h:bH ls) (hf:f.length≤2000000) (he:rV c ls f=0) (hs:qA f ls):aF Tryz.prog 122 [.agg [.int .i64 c,.isl (.rows .i64 ls) .none],.isl (.ints .i64 f) .none] (.tup [.bp (decide (nX (gY f ls ls.length)<0)),.int .i64 0]):=by
 refine av (md:=1) (rf:=[]) mixed ak X7 Tryz.func122 (by rfl) (by rfl) (by rfl) ?_
 repeat'((conv=>whnf);first|intro _|apply aI|with_reducible exact vM rfl|exact⟨⟩|apply nM|apply fM)
 all_goals((try apply vM);(try simp only[vq]at*);try omega)
 all_goals first|exact⟨h,by omega⟩|exact hs|exact Sup.of rfl|skip
theorem Mf (h:Bool) (e:Int):aF Tryz.prog 89 [.bp h,.int .i64 e] (.int .i64 (if h then e else 0)):=by
 refine av (md:=0) (rf:=[]) mixed ak aD Tryz.func89 (by rfl) (by rfl) (by rfl) ?_
 repeat'((conv=>whnf);first|intro _|apply aI|with_reducible exact vM rfl|exact⟨⟩|apply nM|apply fM)
 all_goals all_goals(first|(refine Sup.of ?_;first|rfl|(simp[*,bF];done))|(refine Sup.via ?_;repeat'((conv=>whnf);first|intro _|apply aI|with_reducible exact vM rfl|exact⟨⟩|apply nM|apply fM);all_goals((try apply vM);(try simp only[vq]at*);try omega);all_goals(try(simp[CL.sub];done))))
theorem Ih (h:Bool) (e:Int):aF Tryz.prog 89 [.bool h,.int .i64 e] (.int .i64 (if h then e else 0)):=by
 cases h
 all_goals
  refine av (md:=0) (rf:=[]) mixed ak aD Tryz.func89 (by rfl) (by rfl) (by rfl) ?_
  repeat'((conv=>whnf);first|intro _|apply aI|with_reducible exact vM rfl|exact⟨⟩|apply nM|apply fM)
  all_goals all_goals(first|(refine Sup.of ?_;first|rfl|(simp[*,bF];done))|(refine Sup.via ?_;repeat'((conv=>whnf);first|intro _|apply aI|with_reducible exact vM rfl|exact⟨⟩|apply nM|apply fM);all_goals((try apply vM);(try simp only[vq]at*);try omega);all_goals(try(simp[CL.sub];done))))
theorem eY:POK Tryz.prog 89 eO:=by
 intro xs K h;unfold eO at h;split at h
 ·exact⟨_,h,Mf _ _⟩
 ·exact⟨_,h,Ih _ _⟩
 ·exact h.elim
theorem Ii (l:List Int) (hl:l.length<1000000):aF Tryz.prog 88 [.isl (.ints .i64 l) .none] (.int .i64 (aG l)):=by
 refine av (md:=1) (rf:=[]) mixed ak aD Tryz.func88 (by rfl) (by rfl) (by rfl) ?_
 repeat'((conv=>whnf);first|intro _|apply aI|with_reducible exact vM rfl|exact⟨⟩|apply nM|apply fM)
 all_goals((try apply vM);(try simp only[vq]at*);try omega)
 conv=>whnf
 refine aM (X:=Nat) (fun i=>i≤l.length∧∀j,j<i→l.getD j 0=0) (fun i=>[(7,.int .i64 i)]) (fun _=>[]) (fun i=>l.length-i) 0 ⟨aK,mixed,ak,aD,aQ⟩ (by rfl) ⟨by omega,fun j hj=>by omega⟩ ?_ ?_
 ·repeat'((conv=>whnf);first|intro _|apply aI|with_reducible exact vM rfl|exact⟨⟩|apply nM|apply fM)
  all_goals((try apply vM);(try simp only[vq]at*);try omega)
 ·intro i hi
  obtain⟨hi,hz⟩:=hi
  repeat'((conv=>whnf);first|intro _|apply aI|with_reducible exact vM rfl|exact⟨⟩|apply nM|apply fM)
  all_goals((try apply vM);(try simp only[vq]at*);try omega)
  ·rename_i hne
   have:=gN l i (by omega) hz (by simpa using hne)
   rw[this];exact Sup.of rfl
  ·rename_i hne
   have hne:l.getD i 0=0:=by simpa using hne
   refine⟨i+1,[],⟨⟨by omega,fun j hj=>?_⟩,by omega⟩,?_⟩
   ·by_cases e:j=i
    ·subst e;exact hne
    ·exact hz j (by omega)
   ·repeat'((conv=>whnf);first|intro _|apply aI|with_reducible exact vM rfl|exact⟨⟩|apply nM|apply fM)
    all_goals((try apply vM);(try simp only[vq]at*);try omega)
  ·have:i=l.length:=by omega
   subst this;rw[uM l hz];exact Sup.of rfl
def fZ:PSp:=fun xs K=>match xs with
 | [.isl (.ints .i64 l) .none]=>VC (l.length<1000000)∧K (.int .i64 (aG l))
 |_=>False
theorem fA:POK Tryz.prog 88 fZ:=by
 intro xs K h;unfold fZ at h;split at h
 ·exact⟨_,h.2,Ii _ h.1.get⟩
 ·exact h.elim
theorem iG (l:List Int) (b:Int):b∈l↔∃i,i<l.length∧l.getD i 0=b:=by
 rw[List.mem_iff_getElem];constructor
 ·rintro⟨i,hi,e⟩;exact⟨i,hi,by rw[aeo,aev hi];exact e⟩
 ·rintro⟨i,hi,e⟩;exact⟨i,hi,by rw[aeo,aev hi]at e;exact e⟩
theorem nJ (l:List Int) (b:Int) (i:Nat) (hi:i<l.length):b∈l.take (i+1)↔b∈l.take i∨b=l.getD i 0:=by
 have e:l.take (i+1)=l.take i++[l.getD i 0]:=by rw[af3,aeo,aev hi];rfl
 rw[e,aep,agL]
theorem O7 (l:List Int) (hl:l.length≤2000000) (b:Int):aF Tryz.prog 154 [.isl (.ints .i64 l) .none,.int .i64 b] (.int .i64 (firstAt (fun i=>decide (b=l.getD i 0)) l.length)):=by
 refine av (md:=1) (rf:=[]) mixed ak aD Tryz.func154 (by rfl) (by rfl) (by rfl) ?_
 repeat'((conv=>whnf);first|intro _|apply aI|with_reducible exact vM rfl|exact⟨⟩|apply nM|apply fM)
 all_goals((try apply vM);(try simp only[vq]at*);try omega)
 conv=>whnf
 refine aM (X:=Nat) (fun i=>i≤l.length∧∀j,j<i→decide (b=l.getD j 0)=false) (fun i=>[(8,.int .i64 i)]) (fun i=>[]) (fun i=>l.length-i) 0 ⟨aK,mixed,ak,aD,aQ⟩ (by rfl) ⟨by omega,fun j hj=>by omega⟩ ?_ ?_
 ·repeat'((conv=>whnf);first|intro _|apply aI|with_reducible exact vM rfl|exact⟨⟩|apply nM|apply fM)
  all_goals((try apply vM);(try simp only[vq]at*);try omega)
 ·rintro i ⟨hi,hok⟩
  by_cases hlt:i<l.length
  ·repeat'((conv=>whnf);first|intro _|apply aI|with_reducible exact vM rfl|exact⟨⟩|apply nM|apply fM)
   all_goals((try apply vM);(try simp only[vq]at*);try omega)
   ·rename_i hq
    rw[jG (p:=fun i=>decide (b=l.getD i 0)) hlt (decide_eq_true hq) (fun j hj=>decide_eq_false (hok j hj))];exact Sup.of rfl
   ·refine⟨i+1,[],⟨⟨by omega,fun j hj=>?_⟩,by omega⟩,?_⟩
    ·by_cases e:j=i
     ·subst e;first|assumption|(apply decide_eq_false;assumption)
     ·first|exact hok j (by omega)|exact decide_eq_false (hok j (by omega))
    ·repeat'((conv=>whnf);first|intro _|apply aI|with_reducible exact vM rfl|exact⟨⟩|apply nM|apply fM)
     all_goals((try apply vM);(try simp only[vq]at*);try omega)
  ·have:i=l.length:=by omega
   subst this;rw[jF hok]
   repeat'((conv=>whnf);first|intro _|apply aI|with_reducible exact vM rfl|exact⟨⟩|apply nM|apply fM)
   all_goals((try apply vM);(try simp only[vq]at*);try omega)
   exact Sup.of rfl
def Mg:PSp:=fun xs K=>match xs with
 | [.isl (.ints .i64 l) .none,.int .i64 b]=>VC (l.length≤2000000)∧K (.int .i64 (firstAt (fun i=>decide (b=l.getD i 0)) l.length))
 |_=>False
theorem X8:POK Tryz.prog 154 Mg:=by
 intro xs K h;unfold Mg at h;split at h
 ·exact⟨_,h.2,O7 _ h.1.get _⟩
 ·exact h.elim
noncomputable def acT:CPT:=aA 154 (aB Mg) noC
theorem X9:aW Tryz.prog acT:=aj (au X8) aD
theorem O8 (l:List Int) (hl:l.length≤2000000) (b:Int):aF Tryz.prog 94 [.isl (.ints .i64 l) .none,.int .i64 b] (.bp (decide (b∈l))):=by
 refine av (md:=1) (rf:=[]) mixed ak X9 Tryz.func94 (by rfl) (by rfl) (by rfl) ?_
 repeat'((conv=>whnf);first|intro _|apply aI|with_reducible exact vM rfl|exact⟨⟩|apply nM|apply fM)
 all_goals((try apply vM);(try simp only[vq]at*);try omega)
 refine Sup.via ?_
 repeat'((conv=>whnf);first|intro _|apply aI|with_reducible exact vM rfl|exact⟨⟩|apply nM|apply fM)
 refine VC.mk ?_;rw[iE,nk (fun y=>decide (b=y))];rw[af7];simp[agC]
def zF:PSp:=fun xs K=>match xs with
 | [.isl (.ints .i64 l) .none,.int .i64 b]=>VC (l.length≤2000000)∧K (.bp (decide (b∈l)))
 |_=>False
theorem Ar:POK Tryz.prog 94 zF:=by
 intro xs K h;unfold zF at h;split at h
 ·exact⟨_,h.2,O8 _ h.1.get _⟩
 ·exact h.elim
theorem Pb (l:List Int) (hl:l.length≤2000000) (b:Int):aF Tryz.prog 95 [.isl (.ints .i64 l) .none,.int .i64 b] (.bp (decide (b∈l))):=by
 refine av (md:=1) (rf:=[]) mixed ak aD Tryz.func95 (by rfl) (by rfl) (by rfl) ?_
 repeat'((conv=>whnf);first|intro _|apply aI|with_reducible exact vM rfl|exact⟨⟩|apply nM|apply fM)
 all_goals((try apply vM);(try simp only[vq]at*);try omega)
 conv=>whnf
 refine aM (X:=Nat) (fun i=>i≤l.length∧b∉l.take i) (fun i=>[(5,.int .i64 i)]) (fun i=>[]) (fun i=>l.length-i) 0 ⟨aK,mixed,ak,aD,aQ⟩ (by rfl) ⟨by omega,by simp⟩ ?_ ?_
 ·repeat'((conv=>whnf);first|intro _|apply aI|with_reducible exact vM rfl|exact⟨⟩|apply nM|apply fM)
  all_goals((try apply vM);(try simp only[vq]at*);try omega)
 ·rintro i ⟨hi,hok⟩
  by_cases hlt:i<l.length
  ·repeat'((conv=>whnf);first|(intro hq;(try simp only[vw]at hq);try first|exact absurd hq (by decide)|exfalso;omega)|apply aI|with_reducible exact vM rfl|exact⟨⟩|apply nM|apply fM)
   all_goals((try apply vM);(try simp only[vq]at*);try omega)
   ·rename_i hq
    rw[show decide (b∈l)=true by rw[decide_eq_true_eq,←hq];exact bL hlt]
    all_goals(refine Sup.via ?_;repeat'((conv=>whnf);first|intro _|apply aI|with_reducible exact vM rfl|exact⟨⟩|apply nM|apply fM);all_goals((try apply vM);(try simp only[vq]at*);try omega);all_goals(try(simp[CL.sub];done)))
   ·rename_i hq
    refine⟨i+1,[],⟨⟨by omega,fun hm=>?_⟩,by omega⟩,?_⟩
    ·rcases(nJ l b i hlt).1 hm with h|h
     ·exact hok h
     ·exact hq h.symm
    ·repeat'((conv=>whnf);first|intro _|apply aI|with_reducible exact vM rfl|exact⟨⟩|apply nM|apply fM)
     all_goals((try apply vM);(try simp only[vq]at*);try omega)
  ·have:i=l.length:=by omega
   subst this;rw[af5]at hok;rw[decide_eq_false hok]
   repeat'((conv=>whnf);first|(intro hq;(try simp only[vw]at hq);try first|exact absurd hq (by decide)|exfalso;omega)|apply aI|with_reducible exact vM rfl|exact⟨⟩|apply nM|apply fM)
   all_goals((try apply vM);(try simp only[vq]at*);try omega)
   all_goals(refine Sup.via ?_;repeat'((conv=>whnf);first|intro _|apply aI|with_reducible exact vM rfl|exact⟨⟩|apply nM|apply fM);all_goals((try apply vM);(try simp only[vq]at*);try omega);all_goals(try(simp[CL.sub];done)))
def Vv:PSp:=fun xs K=>match xs with
 | [.isl (.ints .i64 l) .none,.int .i64 b]=>VC (l.length≤2000000)∧K (.bp (decide (b∈l)))
 |_=>False
theorem adP:POK Tryz.prog 95 Vv:=by
 intro xs K h;unfold Vv at h;split at h
 ·exact⟨_,h.2,Pb _ h.1.get _⟩
 ·exact h.elim
noncomputable def cpG:CPT:=aA 89 (aB eO) noC
theorem aaS:aW Tryz.prog cpG:=aj (au eY) aD
def fH (g:Int):Int:=if g<1∨5<g then 3 else 0
theorem CW (g:Int):aF Tryz.prog 98 [.int .i64 g] (.int .i64 (fH g)):=by
 unfold fH;refine av (md:=1) (rf:=[]) mixed ak aaS Tryz.func98 (by rfl) (by rfl) (by rfl) ?_
 repeat'((conv=>whnf);first|intro _|apply aI|with_reducible exact vM rfl|exact⟨⟩|apply nM|apply fM)
 all_goals refine Sup.of ?_
 all_goals simp_all[bF]
 all_goals(split<;>split<;>omega)
def ny:PSp:=fun xs K=>match xs with
 | [.int .i64 g]=>VC (True)∧K (.int .i64 (fH g))
 |_=>False
theorem qj:POK Tryz.prog 98 ny:=by
 intro xs K h;unfold ny at h;split at h
 ·exact⟨_,h.2,CW _⟩
 ·exact h.elim
def gG (c:Int) (ls:List (List Int)):Int:=aG [iX c ls,if 16<c then 20 else 0,if ls.length=0 then 12 else 0]
noncomputable def acU:CPT:=aA 88 (aB fZ) (aA 89 (aB eO) (aA 153 (aB Md) noC))
theorem Ya:aW Tryz.prog acU:=aj (au fA) (aj (au eY) (aj (au O6) aD))
theorem Mh (c:Int) (ls:List (List Int)) (h:bH ls):aF Tryz.prog 93 [.agg [.int .i64 c,.isl (.rows .i64 ls) .none]] (.int .i64 (gG c ls)):=by
 unfold gG;refine av (md:=1) (rf:=[]) mixed ak Ya Tryz.func93 (by rfl) (by rfl) (by rfl) ?_
 repeat'((conv=>whnf);first|intro _|apply aI|with_reducible exact vM rfl|exact⟨⟩|apply nM|apply fM)
 all_goals((try apply vM);(try simp only[vq]at*);try omega)
 all_goals first|exact h|skip
 refine Sup.of (congrArg (PV.int .i64) ?_);simp only[decide_eq_true_eq,Int.natCast_eq_zero]
def zG:PSp:=fun xs K=>match xs with
 | [.agg [.int .i64 c,.isl (.rows .i64 ls) .none]]=>VC (bH ls)∧K (.int .i64 (gG c ls))
 |_=>False
theorem FC:POK Tryz.prog 93 zG:=by
 intro xs K h;unfold zG at h;split at h
 ·exact⟨_,h.2,Mh _ _ h.1.get⟩
 ·exact h.elim
noncomputable def acV:CPT:=aA 120 (aB DC) noC
theorem Yb:aW Tryz.prog acV:=aj (au Jq) aD
theorem Ij (c:Int) (ls:List (List Int)) (h:bH ls):aF Tryz.prog 51 [.agg [.int .i64 c,.isl (.rows .i64 ls) .none]] (.int .i64 (gG c ls)):=by
 unfold gG aG aG aG aG;refine av (md:=1) (rf:=[]) mixed ak Yb Tryz.func51 (by rfl) (by rfl) (by rfl) ?_
 repeat'((conv=>whnf);first|(intro hq;(try simp only[vw]at hq);try first|exact absurd hq (by decide)|exfalso;omega)|apply aI|with_reducible exact vM rfl|exact⟨⟩|apply nM|apply fM)
 all_goals((try apply vM);(try simp only[vq]at*);try omega)
 all_goals first|exact h|(refine Sup.of (congrArg (PV.int .i64) ?_);(repeat' split)<;>simp_all<;>omega)
def Au:PSp:=fun xs K=>match xs with
 | [.agg [.int .i64 c,.isl (.rows .i64 ls) .none]]=>VC (bH ls)∧K (.int .i64 (gG c ls))
 |_=>False
theorem Pd:POK Tryz.prog 51 Au:=by
 intro xs K h;unfold Au at h;split at h
 ·exact⟨_,h.2,Ij _ _ h.1.get⟩
 ·exact h.elim
def gvE (c:Int) (gv:List Int) (i:Nat):Int:=if gv.getD i 0<0∨c<gv.getD i 0 then 3 else if 0<gv.getD i 0∧gv.getD i 0∈gv.take i then 9 else 0
def rX (c:Int) (ls:List (List Int)) (sum:Int) (gv:List Int):Int:=aG [gG c ls,if sum< -999999999∨999999999<sum then 3 else 0,if(gv.length:Int)≠c then 2 else 0]
def pzE (c:Int) (ls:List (List Int)) (sum:Int) (gv:List Int):Int:=if rX c ls sum gv≠0 then rX c ls sum gv else cO (gvE c gv) gv.length
abbrev pzV (c:Int) (ls:List (List Int)) (sum:Int) (gv:List Int):PV:=.agg [.int .i64 c,.isl (.rows .i64 ls) .none,.int .i64 sum,.isl (.ints .i64 gv) .none]
noncomputable def acW:CPT:=aA 88 (aB fZ) (aA 89 (aB eO) (aA 93 (aB zG) (aA 94 (aB zF) noC)))
theorem Js:aW Tryz.prog acW:=aj (au fA) (aj (au eY) (aj (au FC) (aj (au Ar) aD)))
theorem Mj (c:Int) (ls:List (List Int)) (sum:Int) (gv:List Int) (h:bH ls) (hg:gv.length≤5000):aF Tryz.prog 22 [pzV c ls sum gv] (.int .i64 (pzE c ls sum gv)):=by
 obtain⟨B,hB⟩:∃B,gG c ls=B:=⟨_,rfl⟩;have hE0:∀x,(x=if sum< -999999999∨999999999<sum then 3 else 0)→rX c ls sum gv=aG [B,x,if(gv.length:Int)≠c then 2 else 0]:=fun x hx=>by rw[hx,←hB];rfl
 obtain⟨E,hE⟩:∃E,rX c ls sum gv=E:=⟨_,rfl⟩;unfold pzE;rw[hE]at hE0⊢;refine av (md:=1) (rf:=[]) mixed ak Js Tryz.func22 (by rfl) (by rfl) (by rfl) ?_
 repeat'((conv=>whnf);first|(intro hq;(try simp only[vw]at hq);try first|exact absurd hq (by decide)|exfalso;omega)|apply aI|with_reducible exact vM rfl|exact⟨⟩|apply nM|apply fM)
 all_goals((try apply vM);(try simp only[vq]at*);try omega)
 all_goals first|exact h|skip
 ·rename_i h1
  have e:=hE0 (if 999999999<sum then 3 else 0) (by simp[h1])
  rw[hB]at hq⊢;rw[←e]at hq⊢;rw[if_pos hq];exact Sup.of rfl
 rotate_left
 ·rename_i h1
  have e:=hE0 3 (by simp[h1])
  rw[hB]at hq⊢;rw[←e]at hq;rw[if_pos hq,e];exact Sup.of (by simp[bF])
 ·rename_i h1
  exfalso
  have hq:=ae2.1 hq;by_cases h2:gG c ls=0
  ·simp[aG,h2]at hq
  ·simp[aG,h2]at hq
 rename_i h1;have e:=hE0 (if 999999999<sum then 3 else 0) (by simp[h1])
 rw[hB,←e]at hq;rw[if_neg hq];conv=>whnf
 refine aM (X:=Nat) (fun i=>i≤gv.length∧∀j,j<i→gvE c gv j=0) (fun i=>[(39,.int .i64 i)]) (fun i=>[]) (fun i=>gv.length-i) 0 ⟨aK,mixed,ak,Js,aQ⟩ (by rfl) ⟨by omega,fun j hj=>by omega⟩ ?_ ?_
 ·repeat'((conv=>whnf);first|intro _|apply aI|with_reducible exact vM rfl|exact⟨⟩|apply nM|apply fM)
  all_goals((try apply vM);(try simp only[vq]at*);try omega)
 intro i ⟨hi,hok⟩;by_cases hlt:i<gv.length
 ·have eS:gvE c gv i=if gv.getD i 0<0∨c<gv.getD i 0 then 3 else if 0<gv.getD i 0∧gv.getD i 0∈gv.take i then 9 else 0:=rfl
  have et:agH (i-0) (agI 0 gv)=gv.take i:=by rw[agJ,agK]
  have fin:∀e,gvE c gv i=e→e≠0→cO (gvE c gv) gv.length=e:=fun e a1 a2=>(dY hlt (by rw[a1];exact a2) hok).trans a1
  have nxt:gvE c gv i=0→∀j,j<i+1→gvE c gv j=0:=fun a j hj=>by
   by_cases e:j=i
   ·subst e;exact a
   ·exact hok j (by omega)
  repeat'((conv=>whnf);first|(intro hq;(try simp only[vw]at hq);try first|exact absurd hq (by decide)|exfalso;omega)|apply aI|with_reducible exact vM rfl|exact⟨⟩|apply nM|apply fM)
  all_goals((try apply vM);(try simp only[vq]at*);try omega)
  all_goals first
   |(rw[et,ae0];omega)
   |(rw[ae0,List.length_drop];omega)
   |skip
  all_goals(try rw[et]at*)
  ·refine Sup.of (congrArg (PV.int .i64) (fin _ ?_ ?_).symm)
   ·clear fin nxt hok hE0
    rw[eS];simp only[aG];(repeat' split)<;>simp_all<;>omega
   ·exact hq
  ·refine⟨i+1,[],⟨⟨by omega,nxt ?_⟩,by omega⟩,?_⟩
   ·refine Eq.trans ?_ (ae2.1 hq)
    clear fin nxt hok hE0;rw[eS];simp only[aG];(repeat' split)<;>simp_all<;>omega
   ·repeat'((conv=>whnf);first|intro _|apply aI|with_reducible exact vM rfl|exact⟨⟩|apply nM|apply fM)
    all_goals((try apply vM);(try simp only[vq]at*);try omega)
  ·refine Sup.of (congrArg (PV.int .i64) (fin _ ?_ ?_).symm)
   ·clear fin nxt hok hE0
    rw[eS];simp only[aG];(repeat' split)<;>simp_all<;>omega
   ·exact hq
  ·refine⟨i+1,[],⟨⟨by omega,nxt ?_⟩,by omega⟩,?_⟩
   ·refine Eq.trans ?_ (ae2.1 hq)
    clear fin nxt hok hE0;rw[eS];simp only[aG];(repeat' split)<;>simp_all<;>omega
   ·repeat'((conv=>whnf);first|intro _|apply aI|with_reducible exact vM rfl|exact⟨⟩|apply nM|apply fM)
    all_goals((try apply vM);(try simp only[vq]at*);try omega)
  ·refine Sup.of (congrArg (PV.int .i64) (fin _ ?_ ?_).symm)
   ·rw[eS,if_pos (.inl (by assumption))];simp[aG]
   ·simp[aG]
 ·have:gv.length=i:=by omega
  rw[fO (n:=gv.length) (by rw[this];exact hok)]
  repeat'((conv=>whnf);first|intro _|apply aI|with_reducible exact vM rfl|exact⟨⟩|apply nM|apply fM)
  all_goals((try apply vM);(try simp only[vq]at*);try omega)
  exact Sup.of rfl
def kC:PSp:=fun xs K=>match xs with
 | [.agg [.int .i64 c,.isl (.rows .i64 ls) .none,.int .i64 sum,.isl (.ints .i64 gv) .none]]=>VC (bH ls∧gv.length≤5000)∧K (.int .i64 (pzE c ls sum gv))
 |_=>False
theorem jJ:POK Tryz.prog 22 kC:=by
 intro xs K h;unfold kC at h;split at h
 ·exact⟨_,h.2,Mj _ _ _ _ h.1.get.1 h.1.get.2⟩
 ·exact h.elim
abbrev bdV (c:Int) (ls:List (List Int)) (sum:Int) (gv:List Int) (s:St):PV:=.ip (.pv [.int .i64 c,.isl (.rows .i64 ls) .none,.int .i64 sum,.isl (.ints .i64 gv) .none,.isl (.ints .u32 (ms s.cs)) .none,.isl (.bools s.ds) .none]) 0
noncomputable def acX:CPT:=aA 190 (aB uO) noC
theorem Jt:aW Tryz.prog acX:=aj (au xV) aD
theorem Ju {l:List Int} (h:Asc l) (hl:1≤l.length):oV (mk l)=hd0 l:=by
 cases l with
 |nil=>simp at hl
 |cons x l=>exact Ji h
theorem Pe (c:Int) (ls:List (List Int)) (sum:Int) (gv:List Int) (s:St) (h:bO c ls sum s) (k b:Int) (hk:0≤k∧k<ls.length):
 aF Tryz.prog 151 [bdV c ls sum gv s,.int .i64 k,.int .i64 b] (.tup [.isl (.ints .i64 (opn s (ls.getD k.toNat []) b)) .none,.int .i64 (rst s sum (ls.getD k.toNat []))]):=by
 have hln:=h.ln k.toNat (by omega)
 have hsm:=h.sm;have hll:=hln.len;have hlen:=bQ s.cs;have hcl:=h.cl;have hdl:=h.dl;have hb:=Fh h hln.rng;refine av (md:=1) (rf:=[]) mixed ak Jt Tryz.func151 (by rfl) (by rfl) (by rfl) ?_
 repeat'((conv=>whnf);first|intro _|apply aI|with_reducible exact vM rfl|exact⟨⟩|apply nM|apply fM)
 all_goals((try apply vM);(try simp only[vq]at*);try omega)
 conv=>whnf
 refine aM (X:=Nat) (fun i=>i≤(ls.getD k.toNat []).length) (fun i=>[(27,.int .i64 i),(8,.isl (.ints .i64 (opn s ((ls.getD k.toNat []).take i) b)) (.own 3)),(9,.int .i64 (rst s sum ((ls.getD k.toNat []).take i)))]) (fun i=>[(3,.tok 1 (opn s ((ls.getD k.toNat []).take i) b).length)]) (fun i=>(ls.getD k.toNat []).length-i) 0 ⟨aK,mixed,ak,Jt,aQ⟩ (by rfl) (by omega) ?_ ?_
 ·repeat'((conv=>whnf);first|intro _|apply aI|with_reducible exact vM rfl|exact⟨⟩|apply nM|apply fM)
  all_goals((try apply vM);(try simp only[vq]at*);try omega)
  all_goals rfl
 intro i hi;by_cases hlt:i<(ls.getD k.toNat []).length
 ·have hx:=hln.rng ((ls.getD k.toNat []).getD i 0) (bL hlt)
  have hxs:=h.at hx;have hbi:=hb i (by omega)
  have ho:(opn s ((ls.getD k.toNat []).take i) b).length≤16:=afW (agM _ _) (by rw[ae0];omega)
  have hm:(ms s.cs).getD ((ls.getD k.toNat []).getD i 0).toNat 0=(mk (s.cd ((ls.getD k.toNat []).getD i 0).toNat):Nat):=eP hxs.1;have hA:=h.asc _ hxs.1;have hr:=ng hA.1;have e1:=XF s ((ls.getD k.toNat []).take i) ((ls.getD k.toNat []).getD i 0) b;have e2:=Je s sum ((ls.getD k.toNat []).take i) ((ls.getD k.toNat []).getD i 0);rw[←dF hlt]at e1 e2;have hlo:s.dc ((ls.getD k.toNat []).getD i 0).toNat=true→oV (mk (s.cd ((ls.getD k.toNat []).getD i 0).toNat):Nat)=hd0 (s.cd ((ls.getD k.toNat []).getD i 0).toNat):=fun hd=>Ju hA.1 (by rw[h.dec _ hxs.1 hd];omega)
  repeat'((conv=>whnf);first|(intro hq;(try simp only[vw]at hq);try first|exact absurd hq (by decide)|exfalso;omega)|apply aI|with_reducible exact vM rfl|exact⟨⟩|apply nM|apply fM)
  all_goals(try rw[hm])
  all_goals((try apply vM);(try simp only[vq]at*);try omega)
  all_goals(try rw[hm])
  all_goals(try(first|omega|(have h9:=h.num hx ‹_›;rw[hlo ‹_›];omega)|(rw[afu,ad4,adY];omega)))
  ·have hd:s.dc ((ls.getD k.toNat []).getD i 0).toNat=true:=hq
   rw[hd]at e1 e2;rw[if_pos rfl]at e2;rw[if_neg (by simp),agN]at e1
   refine⟨i+1,[],⟨by omega,by omega⟩,?_⟩
   rw[e1,e2]
   repeat'((conv=>whnf);first|intro _|apply aI|with_reducible exact vM rfl|exact⟨⟩|apply nM|apply fM)
   all_goals((try apply vM);(try simp only[vq]at*);try omega)
   all_goals((try rw[hm]);rw[hlo hd])
  ·rename_i hd
   have hd:s.dc ((ls.getD k.toNat []).getD i 0).toNat=false:=hd;rw[hd]at e1 e2;rw[if_neg (by simp)]at e2
   rw[if_pos (by simpa using hq)]at e1
   refine⟨i+1,[],⟨by omega,by omega⟩,?_⟩
   rw[e1,e2,afu]
   repeat'((conv=>whnf);first|intro _|apply aI|with_reducible exact vM rfl|exact⟨⟩|apply nM|apply fM)
   all_goals((try apply vM);(try simp only[vq]at*);try omega)
  ·rename_i hd
   have hd:s.dc ((ls.getD k.toNat []).getD i 0).toNat=false:=hd;rw[hd]at e1 e2;rw[if_neg (by simp)]at e2
   rw[if_neg (by simpa using hq),agN]at e1
   refine⟨i+1,[],⟨by omega,by omega⟩,?_⟩
   rw[e1,e2]
   repeat'((conv=>whnf);first|intro _|apply aI|with_reducible exact vM rfl|exact⟨⟩|apply nM|apply fM)
   all_goals((try apply vM);(try simp only[vq]at*);try omega)
 ·have:i=(ls.getD k.toNat []).length:=by omega
  subst this;rw[af5]
  repeat'((conv=>whnf);first|intro _|apply aI|with_reducible exact vM rfl|exact⟨⟩|apply nM|apply fM)
  all_goals((try apply vM);(try simp only[vq]at*);try omega)
  exact Sup.of rfl
def zH:PSp:=fun xs K=>match xs with
 | [.ip (.pv [.int .i64 c,.isl (.rows .i64 ls) .none,.int .i64 sum,.isl (.ints .i64 gv) .none,.isl (.ints .u32 M) .none,.isl (.bools D) .none]) 0,.int .i64 k,.int .i64 b]=>∃s:St,VC (M=ms s.cs∧D=s.ds∧bO c ls sum s∧0≤k∧k<ls.length)∧K (.tup [.isl (.ints .i64 (opn s (ls.getD k.toNat []) b)) .none,.int .i64 (rst s sum (ls.getD k.toNat []))])
 |_=>False
theorem Av:POK Tryz.prog 151 zH:=by
 intro xs K hk;unfold zH at hk;split at hk
 ·obtain⟨s,⟨rfl,rfl,h,h1⟩,hk⟩:=hk
  exact⟨_,hk,Pe _ _ _ _ s h _ _ h1⟩
 ·exact hk.elim
abbrev ddV (r:ByteArray) (c x k:Int):PV:=.agg [.str r,.int .i64 c,.int .i64 x,.int .i64 k]
noncomputable def acY:CPT:=aA 151 (aB zH) (aA 156 (aB zy) (aA 190 (aB uO) (aA 210 (aB LC) (aA 211 (aB uP) noC))))
theorem oz:aW Tryz.prog acY:=aj (au Av) (aj (au Am) (aj (au xV) (aj (au XL) (aj (au Ic) aD))))
theorem Pf (c:Int) (ls:List (List Int)) (sum:Int) (gv:List Int) (s:St) (h:bO c ls sum s) (r:ByteArray) (y x k:Int) (hk:0≤k∧k<ls.length):
 aF Tryz.prog 172 [bdV c ls sum gv s,ddV r y x k] (.bp (xO s sum (ls.getD k.toNat []) y x)):=by
 unfold xO;refine av (md:=1) (rf:=[]) mixed ak oz Tryz.func172 (by rfl) (by rfl) (by rfl) ?_
 repeat'((conv=>whnf);first|apply Exists.intro (s)|(intro hq;(try simp only[vw]at hq);try first|exact absurd hq (by decide)|exfalso;omega)|apply aI|with_reducible exact vM rfl|exact⟨⟩|apply nM|apply fM)
 all_goals((try apply vM);(try simp only[vq]at*);try omega)
 ·exact⟨h,hk⟩
 ·rw[decide_eq_true (p:=(opn s (ls.getD k.toNat []) y).length=0) (by omega),Bool.true_and];exact Sup.of rfl
 ·rw[decide_eq_false (p:=(opn s (ls.getD k.toNat []) y).length=0) (by omega),agn];all_goals(refine Sup.via ?_;repeat'((conv=>whnf);first|intro _|apply aI|with_reducible exact vM rfl|exact⟨⟩|apply nM|apply fM);all_goals((try apply vM);(try simp only[vq]at*);try omega);all_goals(try(simp[CL.sub];done)))
theorem Pg (c:Int) (ls:List (List Int)) (sum:Int) (gv:List Int) (s:St) (h:bO c ls sum s) (r:ByteArray) (y x k:Int) (hy:0≤y∧y<c):
 aF Tryz.prog 173 [bdV c ls sum gv s,ddV r y x k] (.bp (xP s y)):=by
 have hxs:=h.at hy;have hm:(ms s.cs).getD y.toNat 0=(mk (s.cd y.toNat):Nat):=eP hxs.1;have hA:=(h.asc _ hxs.1).1;have hr:=ng hA;have hlen:=bQ s.cs;unfold xP;refine av (md:=1) (rf:=[]) mixed ak oz Tryz.func173 (by rfl) (by rfl) (by rfl) ?_
 repeat'((conv=>whnf);first|apply Exists.intro (s)|(intro hq;(try simp only[vw]at hq);try first|exact absurd hq (by decide)|exfalso;omega)|apply aI|with_reducible exact vM rfl|exact⟨⟩|apply nM|apply fM)
 all_goals((try apply vM);(try simp only[vq]at*);try omega)
 all_goals(try rw[hm])
 all_goals(try omega)
 rw[pop_mk hA];refine Sup.of (congrArg PV.bp ?_);rw[decide_eq_decide];omega
theorem Mk (c:Int) (ls:List (List Int)) (sum:Int) (gv:List Int) (s:St) (h:bO c ls sum s) (r:ByteArray) (y x k:Int) (hx:1≤x∧x≤c):
 aF Tryz.prog 174 [bdV c ls sum gv s,ddV r y x k] (.bp (qd s y x)):=by
 have hlen:=bQ s.cs;have hc:=h.c1;have hcl:=h.cl;refine av (md:=1) (rf:=[]) mixed ak oz Tryz.func174 (by rfl) (by rfl) (by rfl) ?_
 repeat'((conv=>whnf);first|apply Exists.intro (s)|(intro hq;(try simp only[vw]at hq);try first|exact absurd hq (by decide)|exfalso;omega)|apply aI|with_reducible exact vM rfl|exact⟨⟩|apply nM|apply fM)
 all_goals((try apply vM);(try simp only[vq]at*);try omega)
 conv=>whnf
 refine aM (X:=Nat) (fun i=>i≤s.cs.length∧∀j,j<i→(decide ((j:Int)=y)||!decide (x∈s.cd j))=true) (fun i=>[(12,.int .i64 i)]) (fun i=>[]) (fun i=>s.cs.length-i) 0 ⟨aK,mixed,ak,oz,aQ⟩ (by rfl) ⟨by omega,fun j hj=>by omega⟩ ?_ ?_
 ·repeat'((conv=>whnf);first|intro _|apply aI|with_reducible exact vM rfl|exact⟨⟩|apply nM|apply fM)
  all_goals((try apply vM);(try simp only[vq]at*);try omega)
 intro i ⟨hi,hok⟩;have nxt:(decide ((i:Int)=y)||!decide (x∈s.cd i))=true→∀j,j<i+1→(decide ((j:Int)=y)||!decide (x∈s.cd j))=true:=fun a j hj=>by
  by_cases e:j=i
  ·subst e;exact a
  ·exact hok j (by omega)
 by_cases hlt:i<s.cs.length
 ·have hm:(ms s.cs).getD i 0=(mk (s.cd i):Nat):=eP hlt
  have hA:=(h.asc _ hlt).1;have hr:=ng hA
  repeat'((conv=>whnf);first|apply Exists.intro (s)|(intro hq;(try simp only[vw]at hq);try first|exact absurd hq (by decide)|exfalso;omega)|apply aI|with_reducible exact vM rfl|exact⟨⟩|apply nM|apply fM)
  all_goals((try apply vM);(try simp only[vq]at*);try omega)
  all_goals(try rw[hm]at hq)
  all_goals(try rw[hm])
  all_goals(try omega)
  ·rename_i h1
   rw[Ao hA (by omega),decide_eq_true_eq]at hq
   have:qd s y x=false:=by
    unfold qd;rw[List.all_eq_false];exact⟨i,afY.2 hlt,by simp[hq];exact h1⟩
   rw[this];all_goals(refine Sup.via ?_;repeat'((conv=>whnf);first|intro _|apply aI|with_reducible exact vM rfl|exact⟨⟩|apply nM|apply fM);all_goals((try apply vM);(try simp only[vq]at*);try omega);all_goals(try(simp[CL.sub];done)))
  ·rw[Ao hA (by omega),decide_eq_false_iff_not]at hq
   refine⟨i+1,[],⟨⟨by omega,nxt (by simp[hq])⟩,by omega⟩,?_⟩
   repeat'((conv=>whnf);first|intro _|apply aI|with_reducible exact vM rfl|exact⟨⟩|apply nM|apply fM)
   all_goals((try apply vM);(try simp only[vq]at*);try omega)
  ·refine⟨i+1,[],⟨⟨by omega,nxt (by simp[ae2.1 hq])⟩,by omega⟩,?_⟩
   repeat'((conv=>whnf);first|intro _|apply aI|with_reducible exact vM rfl|exact⟨⟩|apply nM|apply fM)
   all_goals((try apply vM);(try simp only[vq]at*);try omega)
 ·have:qd s y x=true:=by
   unfold qd;rw[List.all_eq_true];exact fun j hj=>hok j (by have:=afY.1 hj;omega)
  rw[this]
  repeat'((conv=>whnf);first|apply Exists.intro (s)|(intro hq;(try simp only[vw]at hq);try first|exact absurd hq (by decide)|exfalso;omega)|apply aI|with_reducible exact vM rfl|exact⟨⟩|apply nM|apply fM)
  all_goals((try apply vM);(try simp only[vq]at*);try omega)
  all_goals(refine Sup.via ?_;repeat'((conv=>whnf);first|intro _|apply aI|with_reducible exact vM rfl|exact⟨⟩|apply nM|apply fM);all_goals((try apply vM);(try simp only[vq]at*);try omega);all_goals(try(simp[CL.sub];done)))
theorem Jv {s:St} {l:List Int} {b x:Int} (h:x∈opn s l b):x∈l:=(agh.1 h).1
theorem Jw {c:Int} {ls:List (List Int)} {sum:Int} {s:St} (h:bO c ls sum s) (f:List Int→Int) (hf:∀l,f l=hd0 l∨f l=ls0 l) {o:List Int} (ho:∀y∈o,0≤y∧y<c) (hn:∀y∈o,s.cd y.toNat≠[]):
 ∀i,i≤o.length→0≤(o.take i).foldl (fun a y=>a+f (s.cd y.toNat)) 0∧(o.take i).foldl (fun a y=>a+f (s.cd y.toNat)) 0≤16*i:=by
 intro i;induction i with
 |zero=>intro _;simp
 |succ i ih=>
  intro hi;have ih:=ih (by omega)
  have hy:=bL (show i<o.length by omega)
  have hxs:=h.at (ho _ hy);have hl:1≤(s.cd (o.getD i 0).toNat).length:=by
   rcases aee (s.cd (o.getD i 0).toNat).length with h0|h0
   ·exact absurd (aft.1 h0) (hn _ hy)
   ·exact h0
  have hA:=(h.asc _ hxs.1).1;have h1:=hA.rng _ (vZ hl);have h2:=hA.rng _ (Ag hl);rw[dF (by omega),agq]
  simp only[List.foldl_cons,List.foldl_nil];rcases hf (s.cd (o.getD i 0).toNat)with e|e<;>rw[e]<;>omega
theorem Yc {l:List Int} (h:Asc l) (hl:1≤l.length):eX (mk l)-1=ls0 l:=by
 rw[XM h (Ag hl) (aaN h.pw)];omega
theorem FD (c:Int) (ls:List (List Int)) (sum:Int) (gv:List Int) (s:St) (h:bO c ls sum s) (r:ByteArray) (y x k:Int) (hk:0≤k∧k<ls.length) (hx:1≤x∧x≤c):
 aF Tryz.prog 175 [bdV c ls sum gv s,ddV r y x k] (.bp (xS s sum (ls.getD k.toNat []) y x)):=by
 obtain⟨o,hO⟩:∃o,opn s (ls.getD k.toNat []) y=o:=⟨_,rfl⟩;obtain⟨R,hR⟩:∃R,rst s sum (ls.getD k.toNat [])=R:=⟨_,rfl⟩;have hlen:=bQ s.cs;have hc:=h.c1;have hcl:=h.cl;have hln:=h.ln k.toNat (by omega)
 have hll:=hln.len;have hsm:=h.sm;have hRb:=Fh h hln.rng _ (aea _);rw[af5,hR]at hRb;have ho:∀z∈o,0≤z∧z<c:=fun z hz=>hln.rng z (by rw[←hO]at hz;exact Jv hz)
 have hol:o.length≤16:=by rw[←hO];exact afW (agM _ _) hll
 unfold xS;rw[hO,hR];refine av (md:=1) (rf:=[]) mixed ak oz Tryz.func175 (by rfl) (by rfl) (by rfl) ?_
 repeat'((conv=>whnf);first|apply Exists.intro (s)|(intro hq;(try simp only[vw]at hq);try first|exact absurd hq (by decide)|exfalso;omega)|apply aI|with_reducible exact vM rfl|exact⟨⟩|apply nM|apply fM)
 all_goals((try apply vM);(try simp only[vq]at*);try omega)
 ·exact⟨h,hk⟩
 rw[hO,hR];conv=>whnf
 refine aM (X:=Nat) (fun i=>i≤o.length∧∀z∈o.take i,s.cd z.toNat≠[]) (fun i=>[(25,.int .i64 i),(7,.int .i64 (xQ s (o.take i))),(8,.int .i64 (xR s (o.take i)))]) (fun i=>[]) (fun i=>o.length-i) 0 ⟨aK,mixed,ak,oz,aQ⟩ (by rfl) ⟨by omega,by simp⟩ ?_ ?_
 ·repeat'((conv=>whnf);first|intro _|apply aI|with_reducible exact vM rfl|exact⟨⟩|apply nM|apply fM)
  all_goals((try apply vM);(try simp only[vq]at*);try omega)
  all_goals rfl
 intro i ⟨hi,hok⟩;have hoi:∀z∈o.take i,0≤z∧z<c:=fun z hz=>ho z (agG hz);have b1:0≤xQ s (o.take i)∧xQ s (o.take i)≤16*i:=by
  have:=Jw h hd0 (fun _=>.inl rfl) hoi hok (o.take i).length (aea _);rw[af5,show(o.take i).length=i by rw[ae0];omega]at this
  exact this
 have b2:0≤xR s (o.take i)∧xR s (o.take i)≤16*i:=by
  have:=Jw h ls0 (fun _=>.inr rfl) hoi hok (o.take i).length (aea _);rw[af5,show(o.take i).length=i by rw[ae0];omega]at this
  exact this
 by_cases hlt:i<o.length
 ·have hy:=ho _ (bL hlt)
  have hxs:=h.at hy;have hm:(ms s.cs).getD (o.getD i 0).toNat 0=(mk (s.cd (o.getD i 0).toNat):Nat):=eP hxs.1;have hA:=(h.asc _ hxs.1).1;have hr:=ng hA;have t1:=dF hlt;have e1:xQ s (o.take (i+1))=xQ s (o.take i)+hd0 (s.cd (o.getD i 0).toNat):=by rw[t1];unfold xQ;rw[agq];rfl
  have e2:xR s (o.take (i+1))=xR s (o.take i)+ls0 (s.cd (o.getD i 0).toNat):=by rw[t1];unfold xR;rw[agq];rfl
  have hne:s.cd (o.getD i 0).toNat≠[]→1≤(s.cd (o.getD i 0).toNat).length:=fun h0=>by
   rcases aee (s.cd (o.getD i 0).toNat).length with h1|h1
   ·exact absurd (aft.1 h1) h0
   ·exact h1
  have hz:(mk (s.cd (o.getD i 0).toNat):Int)=0↔s.cd (o.getD i 0).toNat=[]:=by rw[←mk_zero hA.inM];omega
  repeat'((conv=>whnf);first|apply Exists.intro (s)|(intro hq;(try simp only[vw]at hq);try first|exact absurd hq (by decide)|exfalso;omega)|apply aI|with_reducible exact vM rfl|exact⟨⟩|apply nM|apply fM)
  all_goals((try apply vM);(try simp only[vq]at*);try omega)
  all_goals(try rw[hm]at hq)
  all_goals(try rw[hm])
  ·have:(o.any fun y=>decide (s.cd y.toNat=[]))=true:=agC.2 ⟨_,bL hlt,by rw[decide_eq_true_eq];exact hz.1 hq⟩
   rw[this,agF];all_goals(refine Sup.via ?_;repeat'((conv=>whnf);first|intro _|apply aI|with_reducible exact vM rfl|exact⟨⟩|apply nM|apply fM);all_goals((try apply vM);(try simp only[vq]at*);try omega);all_goals(try(simp[CL.sub];done)))
  all_goals(have h1:=hne (fun h0=>hq (hz.2 h0));have q1:=Ju hA h1;have q2:=Yc hA h1;have q3:=hA.rng _ (vZ h1);have q4:=hA.rng _ (Ag h1))
  all_goals(try(first|omega|(rw[hm];omega)))
  refine⟨i+1,[],⟨⟨by omega,fun z hz2=>?_⟩,by omega⟩,?_⟩
  ·rw[t1]at hz2
   rcases aep.1 hz2 with h2|h2
   ·exact hok z h2
   ·rw[agL.1 h2];exact fun h0=>hq (hz.2 h0)
  ·rw[e1,e2]
   repeat'((conv=>whnf);first|intro _|apply aI|with_reducible exact vM rfl|exact⟨⟩|apply nM|apply fM)
   all_goals((try apply vM);(try simp only[vq]at*);try omega)
   all_goals(try rw[hm])
   all_goals(try omega)
 ·have:i=o.length:=by omega
  subst this;rw[af5]at*;have hn:(o.any fun y=>decide (s.cd y.toNat=[]))=false:=by
   rw[agD];intro z hz h0;exact hok z hz (of_decide_eq_true h0)
  rw[hn,agE]
  repeat'((conv=>whnf);first|apply Exists.intro (s)|(intro hq;(try simp only[vw]at hq);try first|exact absurd hq (by decide)|exfalso;omega)|apply aI|with_reducible exact vM rfl|exact⟨⟩|apply nM|apply fM)
  all_goals((try apply vM);(try simp only[vq]at*);try omega)
  all_goals(try omega)
  ·rename_i h9
   rw[decide_eq_false hq,agE];exact Sup.of rfl
  ·rw[decide_eq_true hq,agF];all_goals(refine Sup.via ?_;repeat'((conv=>whnf);first|intro _|apply aI|with_reducible exact vM rfl|exact⟨⟩|apply nM|apply fM);all_goals((try apply vM);(try simp only[vq]at*);try omega);all_goals(try(simp[CL.sub];done)))
def jK (f:St→Int→List Int→Int→Int→Bool):PSp:=fun xs K=>match xs with
 | [.ip (.pv [.int .i64 c,.isl (.rows .i64 ls) .none,.int .i64 sum,.isl (.ints .i64 gv) .none,.isl (.ints .u32 M) .none,.isl (.bools D) .none]) 0,.agg [.str r,.int .i64 y,.int .i64 x,.int .i64 k]]=>∃s:St,VC (M=ms s.cs∧D=s.ds∧bO c ls sum s∧(0≤k∧k<ls.length)∧(0≤y∧y<c)∧1≤x∧x≤c)∧K (.bp (f s sum (ls.getD k.toNat []) y x))
 |_=>False
def nA (f:St→Int→Int→Bool):PSp:=fun xs K=>match xs with
 | [.ip (.pv [.int .i64 c,.isl (.rows .i64 ls) .none,.int .i64 sum,.isl (.ints .i64 gv) .none,.isl (.ints .u32 M) .none,.isl (.bools D) .none]) 0,.agg [.str r,.int .i64 y,.int .i64 x,.int .i64 k]]=>∃s:St,VC (M=ms s.cs∧D=s.ds∧bO c ls sum s∧(0≤y∧y<c)∧1≤x∧x≤c)∧K (.bp (f s y x))
 |_=>False
theorem xZ {g:Nat} {f:St→Int→List Int→Int→Int→Bool} (hf:∀(c:Int) (ls:List (List Int)) (sum:Int) (gv:List Int) (s:St) (h:bO c ls sum s) (r:ByteArray) (y x k:Int) (hk:0≤k∧k<ls.length) (hy:0≤y∧y<c) (hx:1≤x∧x≤c),aF Tryz.prog g [bdV c ls sum gv s,ddV r y x k] (.bp (f s sum (ls.getD k.toNat []) y x))):POK Tryz.prog g (jK f):=by
 intro xs K hk;unfold jK at hk;split at hk
 ·obtain⟨s,⟨rfl,rfl,h,h1,h2,h3⟩,hk⟩:=hk
  exact⟨_,hk,hf _ _ _ _ s h _ _ _ _ h1 h2 h3⟩
 ·exact hk.elim
theorem FE {g:Nat} {f:St→Int→Int→Bool} (hf:∀(c:Int) (ls:List (List Int)) (sum:Int) (gv:List Int) (s:St) (h:bO c ls sum s) (r:ByteArray) (y x k:Int) (hy:0≤y∧y<c) (hx:1≤x∧x≤c),aF Tryz.prog g [bdV c ls sum gv s,ddV r y x k] (.bp (f s y x))):POK Tryz.prog g (nA f):=by
 intro xs K hk;unfold nA at hk;split at hk
 ·obtain⟨s,⟨rfl,rfl,h,h2,h3⟩,hk⟩:=hk
  exact⟨_,hk,hf _ _ _ _ s h _ _ _ _ h2 h3⟩
 ·exact hk.elim
theorem Jy:POK Tryz.prog 172 (jK xO):=xZ fun c ls sum gv s h r y x k hk hy hx=>Pf c ls sum gv s h r y x k hk
theorem Jz:POK Tryz.prog 173 (nA fun s y x=>xP s y):=FE fun c ls sum gv s h r y x k hy hx=>Pg c ls sum gv s h r y x k hy
theorem FH:POK Tryz.prog 174 (nA qd):=FE fun c ls sum gv s h r y x k hy hx=>Mk c ls sum gv s h r y x k hx
theorem zI:POK Tryz.prog 175 (jK xS):=xZ fun c ls sum gv s h r y x k hk hy hx=>FD c ls sum gv s h r y x k hk hx
end Go.Eng.YtcechbdgokjmgaaGreatDoor
