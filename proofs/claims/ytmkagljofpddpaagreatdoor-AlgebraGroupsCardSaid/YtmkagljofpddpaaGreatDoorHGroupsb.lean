/- Contracts of functions of the program: what each returns. Their conditions stand in them. -/
import Derived.Shelf.Strings.Builder1
import Derived.Shelf.Strings.Builder2
import Derived.Shelf.Strings.Trim
import Derived.Shelf.Small.Utf8
import Derived.Shelf.Small.Strs
import Derived.Shelf.Small.Wraps
import Derived.Shelf.Strings.BuilderF
import Derived.Shelf.Strconv.Atoi
import Derived.Shelf.Strconv.Itoa0
import Derived.Shelf.Strconv.Itoa1
import Derived.Shelf.LaysM
import Derived.Shelf.Strconv.Itoa2
import Derived.Shelf.Strconv.Itoa3
import Derived.Shelf.Strings.Search1
import Derived.Shelf.Strings.Search2
import Derived.Shelf.Strings.Cut
import Derived.Shelf.Strings.Shaped
import Derived.Shelf.Strings.Prefix
import Derived.Shelf.Strings.Runes
import Derived.Shelf.Strings.AsciiSet
import Derived.Shelf.Bits.Mul64
import Derived.Shelf.Strings.Repeat
import Derived.Shelf.Unicode.DecodeSlow
import Derived.Shelf.Slices.Turned
import Derived.Ground.Names2Prog
import Derived.Shelf.Slices.Delete
import Derived.Shelf.Slices.Cells
import Derived.Lib.ItoaNum
import Derived.Lib.Atoi
import Derived.Lib.Repeat
import Derived.Lib.Walk
import Derived.Lib.ItoaMem
import Derived.WalkKit
import Derived.BigCall
import Derived.BigGuard
import Derived.Lib.AppendIntMem
import Derived.Lib.ItoaLen
import Derived.Shelf.Strings.SlTrimAscii
import Derived.Test.YtmkagljofpddpaaGreatDoorProg
import Derived.Test.YtmkagljofpddpaaGreatDoorHGroupsa
open Array renaming replicate→ami,size_replicate→anR,getElem?_modify→akB,length_toList→ak2,getElem?_eq_none→akx,getD_eq_getD_getElem?→akD
open Bool renaming false_eq_true→als,and_eq_true→akQ,eq_iff_iff→aon,or_false→aoy,not_eq_true'→ale,not_eq_true→aoA,or_eq_true→alX,not_eq_false'→aoB
open Classical renaming em→aoq
open Int renaming eq_ofNat_of_zero_le→am4,toNat→ana,toNat_natCast→amI,ofNat_dvd_left→an1,natAbs_mul→an3,natAbs_natCast→an4,natAbs_neg→anl,lt_or_gt_of_ne→an5,sign_eq_one_of_pos→an6,one_mul→an7,gcd→an8,dvd_neg→aoc,mul_pos→aod,mul_le_mul_of_nonneg_left→aof,mul_nonpos_of_nonpos_of_nonneg→aog,mul_nonneg→aoh,emod_nonneg→aoi,emod_lt_of_pos→aoj,tmod_eq_emod_of_nonneg→aok,mul_le_mul→aol
open List renaming replicate→akP,append_assoc→anN,length_append→alQ,foldl_cons→anO,length_cons→akq,mem_append→akH,mem_singleton→anQ,mem_cons_of_mem→amm,map_append→anS,getD_eq_getElem?_getD→akG,toArray→anT,size_toArray→anU,range→akE,range_succ→anX,length_eq_zero_iff→alY,drop_drop→anY,take_of_length_le→anZ,length_drop→alO,drop_zero→an0,length_take→alm,take_length→amJ,isPrefixOf→aoa,length_pos_iff→anj,findIdx_cons→aoe,dropWhile_cons→aoo,findIdx_eq_length→aop,find?_eq_none→am3,mem_range→amn,range_eq_range'→amg,range'_append_1→aor,find?_some→aos,getElem?_eq_getElem→akL,ext_getElem→amC,getElem_set→amF,getElem_map→amG,getElem_range→amH,getElem?_take→aln,mem_of_find?_eq_some→am0,find?_eq_some_iff_getElem→am2,any_append→aov,any_cons→aow,any_nil→aox,any_eq_true→aoz,range_zero→aoC
open Nat renaming pow_succ→amx,mul_le_mul→alE,mul_assoc→amY,mod_eq_of_lt→akX,div_eq_of_lt→akV,zero_mul→alu,zero_add→akS,add_mul→ak7,mul_comm→akT,strongRecOn→anP,mod_lt→alc,le_refl→aku,beq→akM,eq_of_beq_eq_true→akR,div_add_mod→alb,pos_of_ne_zero→ak9,pow_mul→anV,pow_le_pow_left→anW,pow_le_pow_right→amN,div_eq_zero_iff_lt→ane,pow_zero→ang,div_one→alf,le_trans→aky,div_le_self→anr,zero_le→alq,lt_of_lt_of_le→akv,gcd_dvd_left→an2,gcd_comm→anM,gcd_one_right→an9,gcd→anL,gcd_dvd_right→aob,lt_of_not_le→aom,lt_trichotomy→aot,sub_add_cancel→aou,mul_one→akZ
namespace Go.Proofs
open Go.Shelf
def Tryz.lays160_ren:Go.Shelf.Ren:=⟨fun|160=>224|232=>251|231=>250|227=>252|234=>254|233=>253|236=>256|235=>255|228=>271|271=>274|151=>273|197=>272|120=>289|152=>288|260=>287|137=>300|119=>301|224=>269|225=>268|217=>267|266=>285|n=>n,fun|9=>9|4=>4|3=>3|5=>5|117=>260|116=>259|0=>0|124=>263|21=>21|105=>275|46=>229|119=>301|139=>304|138=>303|n=>n,fun|3=>5|4=>6|n=>n⟩
theorem Tryz.lays160:Go.Proofs.Lays.n160 Tryz.prog Tryz.lays160_ren:={
 mixed:=by kernel_rfl
 f119:=Tryz.func301.trans (congrArg some (by kernel_rfl))
 f120:=Tryz.func289.trans (congrArg some (by kernel_rfl))
 f137:=Tryz.func300.trans (congrArg some (by kernel_rfl))
 f151:=Tryz.func273.trans (congrArg some (by kernel_rfl))
 f152:=Tryz.func288.trans (congrArg some (by kernel_rfl))
 f160:=Tryz.func224.trans (congrArg some (by kernel_rfl))
 f197:=Tryz.func272.trans (congrArg some (by kernel_rfl))
 f217:=Tryz.func267.trans (congrArg some (by kernel_rfl))
 f224:=Tryz.func269.trans (congrArg some (by kernel_rfl))
 f225:=Tryz.func268.trans (congrArg some (by kernel_rfl))
 f227:=Tryz.func252.trans (congrArg some (by kernel_rfl))
 f228:=Tryz.func271.trans (congrArg some (by kernel_rfl))
 f231:=Tryz.func250.trans (congrArg some (by kernel_rfl))
 f232:=Tryz.func251.trans (congrArg some (by kernel_rfl))
 f233:=Tryz.func253.trans (congrArg some (by kernel_rfl))
 f234:=Tryz.func254.trans (congrArg some (by kernel_rfl))
 f235:=Tryz.func255.trans (congrArg some (by kernel_rfl))
 f236:=Tryz.func256.trans (congrArg some (by kernel_rfl))
 f260:=Tryz.func287.trans (congrArg some (by kernel_rfl))
 f266:=Tryz.func285.trans (congrArg some (by kernel_rfl))
 f271:=Tryz.func274.trans (congrArg some (by kernel_rfl))
 t0:=Tryz.underlying0
 a0:=Tryz.isAgg0
 z0:=Tryz.sizeOf0
 v0:=Tryz.zeroValue0
 t3:=Tryz.underlying3
 a3:=Tryz.isAgg3
 z3:=Tryz.sizeOf3
 v3:=Tryz.zeroValue3
 t4:=Tryz.underlying4
 a4:=Tryz.isAgg4
 z4:=Tryz.sizeOf4
 v4:=Tryz.zeroValue4
 t5:=Tryz.underlying5
 a5:=Tryz.isAgg5
 z5:=Tryz.sizeOf5
 v5:=Tryz.zeroValue5
 t9:=Tryz.underlying9
 a9:=Tryz.isAgg9
 z9:=Tryz.sizeOf9
 v9:=Tryz.zeroValue9
 t21:=Tryz.underlying21
 a21:=Tryz.isAgg21
 z21:=Tryz.sizeOf21
 v21:=Tryz.zeroValue21
 t46:=Tryz.underlying229
 a46:=Tryz.isAgg229
 z46:=Tryz.sizeOf229
 v46:=Tryz.zeroValue229
 t105:=Tryz.underlying275
 a105:=Tryz.isAgg275
 z105:=Tryz.sizeOf275
 v105:=Tryz.zeroValue275
 t116:=Tryz.underlying259
 a116:=Tryz.isAgg259
 z116:=Tryz.sizeOf259
 t117:=Tryz.underlying260
 a117:=Tryz.isAgg260
 z117:=Tryz.sizeOf260
 v117:=Tryz.zeroValue260
 t119:=Tryz.underlying301
 a119:=Tryz.isAgg301
 z119:=Tryz.sizeOf301
 t124:=Tryz.underlying263
 a124:=Tryz.isAgg263
 z124:=Tryz.sizeOf263
 v124:=Tryz.zeroValue263
 t138:=Tryz.underlying303
 a138:=Tryz.isAgg303
 z138:=Tryz.sizeOf303
 v138:=Tryz.zeroValue303
 t139:=Tryz.underlying304
 a139:=Tryz.isAgg304
 z139:=Tryz.sizeOf304
 v139:=Tryz.zeroValue304
 g3:=by kernel_rfl
 g4:=by kernel_rfl}
def Tryz.lays103_ren:Go.Shelf.Ren:=⟨fun|103=>175|210=>222|206=>248|n=>n,fun|9=>9|4=>4|24=>197|3=>3|n=>n,fun|n=>n⟩
theorem Tryz.lays103:Go.Proofs.Lays.n103 Tryz.prog Tryz.lays103_ren:={
 mixed:=by kernel_rfl
 f103:=Tryz.func175.trans (congrArg some (by kernel_rfl))
 f206:=Tryz.func248.trans (congrArg some (by kernel_rfl))
 f210:=Tryz.func222.trans (congrArg some (by kernel_rfl))
 t3:=Tryz.underlying3
 a3:=Tryz.isAgg3
 z3:=Tryz.sizeOf3
 v3:=Tryz.zeroValue3
 t4:=Tryz.underlying4
 a4:=Tryz.isAgg4
 z4:=Tryz.sizeOf4
 v4:=Tryz.zeroValue4
 t9:=Tryz.underlying9
 a9:=Tryz.isAgg9
 z9:=Tryz.sizeOf9
 v9:=Tryz.zeroValue9
 t24:=Tryz.underlying197
 a24:=Tryz.isAgg197
 z24:=Tryz.sizeOf197
 v24:=Tryz.zeroValue197}
open Go.RowKit in
theorem Tryz.strings_CutPrefix (s p:ByteArray) (w:World):
 Calls Tryz.prog 175 #[.string s,.string p] w fun e w'=>e=.returned (.tuple #[.string ⟨(Lib.trimPrefix s.data.toList p.data.toList).toArray⟩,.bool (Lib.hasPrefix s.data.toList p.data.toList)])∧w'=w:=Any.strings_CutPrefix Tryz.lays103 s p w
def Tryz.lays172_ren:Go.Shelf.Ren:=⟨fun|172=>228|244=>258|245=>259|247=>275|279=>276|280=>277|281=>278|282=>279|287=>290|316=>291|171=>261|205=>292|321=>302|322=>303|243=>280|246=>293|283=>294|284=>295|285=>296|286=>297|129=>266|317=>304|318=>305|319=>306|320=>307|337=>309|338=>310|n=>n,fun|9=>9|3=>3|75=>237|76=>238|4=>4|5=>5|167=>278|37=>270|0=>0|85=>279|2=>2|168=>281|53=>210|175=>288|46=>229|210=>292|127=>285|145=>309|143=>307|21=>21|171=>295|173=>297|212=>311|51=>252|20=>20|213=>312|232=>316|233=>317|80=>243|n=>n,fun|15=>3|16=>4|17=>7|18=>8|19=>9|n=>n⟩
theorem Tryz.lays172:Go.Proofs.Lays.n172 Tryz.prog Tryz.lays172_ren:={
 mixed:=by kernel_rfl
 f129:=Tryz.func266.trans (congrArg some (by kernel_rfl))
 f171:=Tryz.func261.trans (congrArg some (by kernel_rfl))
 f172:=Tryz.func228.trans (congrArg some (by kernel_rfl))
 f205:=Tryz.func292.trans (congrArg some (by kernel_rfl))
 f243:=Tryz.func280.trans (congrArg some (by kernel_rfl))
 f244:=Tryz.func258.trans (congrArg some (by kernel_rfl))
 f245:=Tryz.func259.trans (congrArg some (by kernel_rfl))
 f246:=Tryz.func293.trans (congrArg some (by kernel_rfl))
 f247:=Tryz.func275.trans (congrArg some (by kernel_rfl))
 f279:=Tryz.func276.trans (congrArg some (by kernel_rfl))
 f280:=Tryz.func277.trans (congrArg some (by kernel_rfl))
 f281:=Tryz.func278.trans (congrArg some (by kernel_rfl))
 f282:=Tryz.func279.trans (congrArg some (by kernel_rfl))
 f283:=Tryz.func294.trans (congrArg some (by kernel_rfl))
 f284:=Tryz.func295.trans (congrArg some (by kernel_rfl))
 f285:=Tryz.func296.trans (congrArg some (by kernel_rfl))
 f286:=Tryz.func297.trans (congrArg some (by kernel_rfl))
 f287:=Tryz.func290.trans (congrArg some (by kernel_rfl))
 f316:=Tryz.func291.trans (congrArg some (by kernel_rfl))
 f317:=Tryz.func304.trans (congrArg some (by kernel_rfl))
 f318:=Tryz.func305.trans (congrArg some (by kernel_rfl))
 f319:=Tryz.func306.trans (congrArg some (by kernel_rfl))
 f320:=Tryz.func307.trans (congrArg some (by kernel_rfl))
 f321:=Tryz.func302.trans (congrArg some (by kernel_rfl))
 f322:=Tryz.func303.trans (congrArg some (by kernel_rfl))
 f337:=Tryz.func309.trans (congrArg some (by kernel_rfl))
 f338:=Tryz.func310.trans (congrArg some (by kernel_rfl))
 t0:=Tryz.underlying0
 a0:=Tryz.isAgg0
 z0:=Tryz.sizeOf0
 v0:=Tryz.zeroValue0
 t2:=Tryz.underlying2
 a2:=Tryz.isAgg2
 z2:=Tryz.sizeOf2
 v2:=Tryz.zeroValue2
 t3:=Tryz.underlying3
 a3:=Tryz.isAgg3
 z3:=Tryz.sizeOf3
 v3:=Tryz.zeroValue3
 t4:=Tryz.underlying4
 a4:=Tryz.isAgg4
 z4:=Tryz.sizeOf4
 v4:=Tryz.zeroValue4
 t5:=Tryz.underlying5
 a5:=Tryz.isAgg5
 z5:=Tryz.sizeOf5
 v5:=Tryz.zeroValue5
 t9:=Tryz.underlying9
 a9:=Tryz.isAgg9
 z9:=Tryz.sizeOf9
 v9:=Tryz.zeroValue9
 t20:=Tryz.underlying20
 a20:=Tryz.isAgg20
 z20:=Tryz.sizeOf20
 v20:=Tryz.zeroValue20
 t21:=Tryz.underlying21
 a21:=Tryz.isAgg21
 z21:=Tryz.sizeOf21
 v21:=Tryz.zeroValue21
 t37:=Tryz.underlying270
 a37:=Tryz.isAgg270
 z37:=Tryz.sizeOf270
 v37:=Tryz.zeroValue270
 t46:=Tryz.underlying229
 a46:=Tryz.isAgg229
 z46:=Tryz.sizeOf229
 v46:=Tryz.zeroValue229
 t51:=Tryz.underlying252
 a51:=Tryz.isAgg252
 z51:=Tryz.sizeOf252
 v51:=Tryz.zeroValue252
 t53:=Tryz.underlying210
 a53:=Tryz.isAgg210
 z53:=Tryz.sizeOf210
 v53:=Tryz.zeroValue210
 t75:=Tryz.underlying237
 a75:=Tryz.isAgg237
 z75:=Tryz.sizeOf237
 v75:=Tryz.zeroValue237
 t76:=Tryz.underlying238
 a76:=Tryz.isAgg238
 z76:=Tryz.sizeOf238
 v76:=Tryz.zeroValue238
 t85:=Tryz.underlying279
 a85:=Tryz.isAgg279
 z85:=Tryz.sizeOf279
 v85:=Tryz.zeroValue279
 t127:=Tryz.underlying285
 a127:=Tryz.isAgg285
 z127:=Tryz.sizeOf285
 v127:=Tryz.zeroValue285
 t143:=Tryz.underlying307
 a143:=Tryz.isAgg307
 z143:=Tryz.sizeOf307
 v143:=Tryz.zeroValue307
 t145:=Tryz.underlying309
 a145:=Tryz.isAgg309
 z145:=Tryz.sizeOf309
 v145:=Tryz.zeroValue309
 t167:=Tryz.underlying278
 a167:=Tryz.isAgg278
 z167:=Tryz.sizeOf278
 v167:=Tryz.zeroValue278
 t168:=Tryz.underlying281
 a168:=Tryz.isAgg281
 z168:=Tryz.sizeOf281
 v168:=Tryz.zeroValue281
 t171:=Tryz.underlying295
 a171:=Tryz.isAgg295
 z171:=Tryz.sizeOf295
 v171:=Tryz.zeroValue295
 t173:=Tryz.underlying297
 a173:=Tryz.isAgg297
 z173:=Tryz.sizeOf297
 v173:=Tryz.zeroValue297
 t175:=Tryz.underlying288
 a175:=Tryz.isAgg288
 z175:=Tryz.sizeOf288
 v175:=Tryz.zeroValue288
 t210:=Tryz.underlying292
 a210:=Tryz.isAgg292
 z210:=Tryz.sizeOf292
 v210:=Tryz.zeroValue292
 t212:=Tryz.underlying311
 a212:=Tryz.isAgg311
 z212:=Tryz.sizeOf311
 v212:=Tryz.zeroValue311
 t213:=Tryz.underlying312
 a213:=Tryz.isAgg312
 z213:=Tryz.sizeOf312
 t232:=Tryz.underlying316
 a232:=Tryz.isAgg316
 z232:=Tryz.sizeOf316
 v232:=Tryz.zeroValue316
 t233:=Tryz.underlying317
 a233:=Tryz.isAgg317
 z233:=Tryz.sizeOf317
 v233:=Tryz.zeroValue317
 g15:=by kernel_rfl
 g16:=by kernel_rfl
 g17:=by kernel_rfl
 g18:=by kernel_rfl
 g19:=by kernel_rfl}
open Go.RowKit in
theorem Tryz.strconv_Atoi (s:ByteArray) (n:Int) (hl:s.size≤18) (h:Lib.atoi s.data.toList=some n) (w:World):
 Calls Tryz.prog 228 #[.string s] w fun e w'=>e=.returned (.tuple #[.int .i64 n,.nilIface])∧∃t,w'=Lib.bytesWorld w 5 t:=Any.strconv_Atoi Tryz.lays172 s n hl h w
def Tryz.lays283_ren:Go.Shelf.Ren:=⟨fun|283=>294|n=>n,fun|3=>3|9=>9|4=>4|n=>n,fun|n=>n⟩
theorem Tryz.lays283:Go.Proofs.Lays.n283 Tryz.prog Tryz.lays283_ren:={
 mixed:=by kernel_rfl
 f283:=Tryz.func294.trans (congrArg some (by kernel_rfl))
 t3:=Tryz.underlying3
 a3:=Tryz.isAgg3
 z3:=Tryz.sizeOf3
 v3:=Tryz.zeroValue3
 t4:=Tryz.underlying4
 a4:=Tryz.isAgg4
 z4:=Tryz.sizeOf4
 v4:=Tryz.zeroValue4
 t9:=Tryz.underlying9
 a9:=Tryz.isAgg9
 z9:=Tryz.sizeOf9
 v9:=Tryz.zeroValue9}
open Go.Lib in
theorem Tryz.internal_strconv_small (i:Nat) (h:i<100) (w:World):
 Calls Tryz.prog 294 #[.int .i64 i] w fun e w'=>e=.returned (.string ⟨(Lib.decDigits i).toArray⟩)∧w'=w:=Any.internal_strconv_small Tryz.lays283 i h w
def Tryz.laysM284_ren:Go.Shelf.Ren:=⟨fun|284=>295|129=>266|317=>304|318=>305|n=>n,fun|53=>210|3=>3|212=>311|0=>0|4=>4|46=>229|5=>5|9=>9|n=>n,fun|17=>7|n=>n⟩
theorem Tryz.laysM284:Go.Proofs.LaysM.n284 Tryz.prog Tryz.laysM284_ren:={
 mixed:=by kernel_rfl
 f129:=Tryz.func266.trans (congrArg some (by kernel_rfl))
 f284:=Tryz.func295.trans (congrArg some (by kernel_rfl))
 f317:=Tryz.func304.trans (congrArg some (by kernel_rfl))
 f318:=Tryz.func305.trans (congrArg some (by kernel_rfl))
 t0:=Tryz.underlying0
 a0:=Tryz.isAgg0
 z0:=Tryz.sizeOf0
 v0:=Tryz.zeroValue0
 t3:=Tryz.underlying3
 a3:=Tryz.isAgg3
 z3:=Tryz.sizeOf3
 v3:=Tryz.zeroValue3
 t4:=Tryz.underlying4
 a4:=Tryz.isAgg4
 z4:=Tryz.sizeOf4
 v4:=Tryz.zeroValue4
 t5:=Tryz.underlying5
 a5:=Tryz.isAgg5
 z5:=Tryz.sizeOf5
 v5:=Tryz.zeroValue5
 t9:=Tryz.underlying9
 a9:=Tryz.isAgg9
 z9:=Tryz.sizeOf9
 v9:=Tryz.zeroValue9
 t46:=Tryz.underlying229
 a46:=Tryz.isAgg229
 z46:=Tryz.sizeOf229
 v46:=Tryz.zeroValue229
 t53:=Tryz.underlying210
 a53:=Tryz.isAgg210
 z53:=Tryz.sizeOf210
 v53:=Tryz.zeroValue210
 t212:=Tryz.underlying311
 a212:=Tryz.isAgg311
 z212:=Tryz.sizeOf311
 v212:=Tryz.zeroValue311
 g17:=by kernel_rfl
 i0:=by kernel_rfl
 i3:=by kernel_rfl
 i4:=by kernel_rfl
 i5:=by kernel_rfl
 i9:=by kernel_rfl
 i46:=by kernel_rfl
 i53:=by kernel_rfl
 i212:=by kernel_rfl
 m17:=by kernel_rfl}
open Go.Lib in
theorem Tryz.internal_strconv_numDigits (u:Nat) (h1:1≤u) (h2:u<18446744073709551616) (w:World) (htab:Lib.TabIs Tryz.prog w "internal/strconv.uint64pow10" .u64 Lib.pow10Tab):
 Calls Tryz.prog 295 #[.int .u64 u] w fun e w'=>e=.returned (.int .i64 (Lib.nDigits u))∧w'=w:=Any.internal_strconv_numDigits Tryz.laysM284 u h1 h2 w htab
def Tryz.lays285_ren:Go.Shelf.Ren:=⟨fun|285=>296|n=>n,fun|37=>270|53=>210|3=>3|4=>4|51=>252|9=>9|5=>5|0=>0|n=>n,fun|n=>n⟩
theorem Tryz.lays285:Go.Proofs.Lays.n285 Tryz.prog Tryz.lays285_ren:={
 mixed:=by kernel_rfl
 f285:=Tryz.func296.trans (congrArg some (by kernel_rfl))
 t0:=Tryz.underlying0
 a0:=Tryz.isAgg0
 z0:=Tryz.sizeOf0
 v0:=Tryz.zeroValue0
 t3:=Tryz.underlying3
 a3:=Tryz.isAgg3
 z3:=Tryz.sizeOf3
 v3:=Tryz.zeroValue3
 t4:=Tryz.underlying4
 a4:=Tryz.isAgg4
 z4:=Tryz.sizeOf4
 v4:=Tryz.zeroValue4
 t5:=Tryz.underlying5
 a5:=Tryz.isAgg5
 z5:=Tryz.sizeOf5
 v5:=Tryz.zeroValue5
 t9:=Tryz.underlying9
 a9:=Tryz.isAgg9
 z9:=Tryz.sizeOf9
 v9:=Tryz.zeroValue9
 t37:=Tryz.underlying270
 a37:=Tryz.isAgg270
 z37:=Tryz.sizeOf270
 v37:=Tryz.zeroValue270
 t51:=Tryz.underlying252
 a51:=Tryz.isAgg252
 z51:=Tryz.sizeOf252
 v51:=Tryz.zeroValue252
 t53:=Tryz.underlying210
 a53:=Tryz.isAgg210
 z53:=Tryz.sizeOf210
 v53:=Tryz.zeroValue210}
open Go.RowKit Go.Sort Go.Lib in
theorem Tryz.internal_strconv_formatBase10 (blk off cap:Nat) (u:Nat) (d:Array UInt8) (w:World) (hH:Holds (fun(b:UInt8)=>Value.int .u8 (b.toNat:Int)) w blk off d) (hu:u<10 ^ d.size) (hu64:u<18446744073709551616) (hsz:d.size<4611686018427387904):
 Calls Tryz.prog 296 #[.slice (some ⟨blk,off,none⟩) d.size cap,.int .u64 u] w fun e w'=>
  e=.returned (.tuple #[])∧∃(n v':Nat) (dk:Array UInt8),w'=(putRow (fun(b:UInt8)=>Value.int .u8 (b.toNat:Int)) w blk off dk).drewN n∧FmtInv d.size u 0 v' dk:=Any.internal_strconv_formatBase10 Tryz.lays285 blk off cap u d w hH hu hu64 hsz
def Tryz.laysM171_ren:Go.Shelf.Ren:=⟨fun|171=>261|243=>280|246=>293|283=>294|284=>295|285=>296|286=>297|129=>266|317=>304|318=>305|319=>306|320=>307|337=>309|338=>310|n=>n,fun|3=>3|9=>9|2=>2|4=>4|171=>295|0=>0|53=>210|37=>270|5=>5|173=>297|212=>311|51=>252|20=>20|213=>312|46=>229|232=>316|233=>317|n=>n,fun|17=>7|18=>8|19=>9|n=>n⟩
theorem Tryz.laysM171:Go.Proofs.LaysM.n171 Tryz.prog Tryz.laysM171_ren:={
 mixed:=by kernel_rfl
 f129:=Tryz.func266.trans (congrArg some (by kernel_rfl))
 f171:=Tryz.func261.trans (congrArg some (by kernel_rfl))
 f243:=Tryz.func280.trans (congrArg some (by kernel_rfl))
 f246:=Tryz.func293.trans (congrArg some (by kernel_rfl))
 f283:=Tryz.func294.trans (congrArg some (by kernel_rfl))
 f284:=Tryz.func295.trans (congrArg some (by kernel_rfl))
 f285:=Tryz.func296.trans (congrArg some (by kernel_rfl))
 f286:=Tryz.func297.trans (congrArg some (by kernel_rfl))
 f317:=Tryz.func304.trans (congrArg some (by kernel_rfl))
 f318:=Tryz.func305.trans (congrArg some (by kernel_rfl))
 f319:=Tryz.func306.trans (congrArg some (by kernel_rfl))
 f320:=Tryz.func307.trans (congrArg some (by kernel_rfl))
 f337:=Tryz.func309.trans (congrArg some (by kernel_rfl))
 f338:=Tryz.func310.trans (congrArg some (by kernel_rfl))
 t0:=Tryz.underlying0
 a0:=Tryz.isAgg0
 z0:=Tryz.sizeOf0
 v0:=Tryz.zeroValue0
 t2:=Tryz.underlying2
 a2:=Tryz.isAgg2
 z2:=Tryz.sizeOf2
 v2:=Tryz.zeroValue2
 t3:=Tryz.underlying3
 a3:=Tryz.isAgg3
 z3:=Tryz.sizeOf3
 v3:=Tryz.zeroValue3
 t4:=Tryz.underlying4
 a4:=Tryz.isAgg4
 z4:=Tryz.sizeOf4
 v4:=Tryz.zeroValue4
 t5:=Tryz.underlying5
 a5:=Tryz.isAgg5
 z5:=Tryz.sizeOf5
 v5:=Tryz.zeroValue5
 t9:=Tryz.underlying9
 a9:=Tryz.isAgg9
 z9:=Tryz.sizeOf9
 v9:=Tryz.zeroValue9
 t20:=Tryz.underlying20
 a20:=Tryz.isAgg20
 z20:=Tryz.sizeOf20
 v20:=Tryz.zeroValue20
 t37:=Tryz.underlying270
 a37:=Tryz.isAgg270
 z37:=Tryz.sizeOf270
 v37:=Tryz.zeroValue270
 t46:=Tryz.underlying229
 a46:=Tryz.isAgg229
 z46:=Tryz.sizeOf229
 v46:=Tryz.zeroValue229
 t51:=Tryz.underlying252
 a51:=Tryz.isAgg252
 z51:=Tryz.sizeOf252
 v51:=Tryz.zeroValue252
 t53:=Tryz.underlying210
 a53:=Tryz.isAgg210
 z53:=Tryz.sizeOf210
 v53:=Tryz.zeroValue210
 t171:=Tryz.underlying295
 a171:=Tryz.isAgg295
 z171:=Tryz.sizeOf295
 v171:=Tryz.zeroValue295
 t173:=Tryz.underlying297
 a173:=Tryz.isAgg297
 z173:=Tryz.sizeOf297
 v173:=Tryz.zeroValue297
 t212:=Tryz.underlying311
 a212:=Tryz.isAgg311
 z212:=Tryz.sizeOf311
 v212:=Tryz.zeroValue311
 t213:=Tryz.underlying312
 a213:=Tryz.isAgg312
 z213:=Tryz.sizeOf312
 t232:=Tryz.underlying316
 a232:=Tryz.isAgg316
 z232:=Tryz.sizeOf316
 v232:=Tryz.zeroValue316
 t233:=Tryz.underlying317
 a233:=Tryz.isAgg317
 z233:=Tryz.sizeOf317
 v233:=Tryz.zeroValue317
 g17:=by kernel_rfl
 g18:=by kernel_rfl
 g19:=by kernel_rfl
 i0:=by kernel_rfl
 i2:=by kernel_rfl
 i3:=by kernel_rfl
 i4:=by kernel_rfl
 i5:=by kernel_rfl
 i9:=by kernel_rfl
 i20:=by kernel_rfl
 i37:=by kernel_rfl
 i46:=by kernel_rfl
 i51:=by kernel_rfl
 i53:=by kernel_rfl
 i171:=by kernel_rfl
 i173:=by kernel_rfl
 i212:=by kernel_rfl
 i232:=by kernel_rfl
 i233:=by kernel_rfl
 m17:=by kernel_rfl
 m18:=by kernel_rfl
 m19:=by kernel_rfl}
open Go.RowKit Go.Sort Go.Lib in
theorem Tryz.strconv_Itoa (n:Int) (h0: -9223372036854775808≤n) (h1:n≤9223372036854775807) (w:World) (htab:Lib.TabIs Tryz.prog w "internal/strconv.uint64pow10" .u64 Lib.pow10Tab):
 Calls Tryz.prog 261 #[.int .i64 n] w fun e w'=>e=.returned (.string ⟨(Lib.itoa n).toArray⟩)∧∃k os,w'=grow (w.drewN k) os:=Any.strconv_Itoa Tryz.laysM171 n h0 h1 w htab
def Tryz.lays219_ren:Go.Shelf.Ren:=⟨fun|219=>249|217=>267|225=>268|224=>269|267=>270|266=>285|314=>286|n=>n,fun|9=>9|3=>3|4=>4|5=>5|46=>229|146=>253|51=>252|n=>n,fun|1=>2|n=>n⟩
theorem Tryz.lays219:Go.Proofs.Lays.n219 Tryz.prog Tryz.lays219_ren:={
 mixed:=by kernel_rfl
 f217:=Tryz.func267.trans (congrArg some (by kernel_rfl))
 f219:=Tryz.func249.trans (congrArg some (by kernel_rfl))
 f224:=Tryz.func269.trans (congrArg some (by kernel_rfl))
 f225:=Tryz.func268.trans (congrArg some (by kernel_rfl))
 f266:=Tryz.func285.trans (congrArg some (by kernel_rfl))
 f267:=Tryz.func270.trans (congrArg some (by kernel_rfl))
 f314:=Tryz.func286.trans (congrArg some (by kernel_rfl))
 t3:=Tryz.underlying3
 a3:=Tryz.isAgg3
 z3:=Tryz.sizeOf3
 v3:=Tryz.zeroValue3
 t4:=Tryz.underlying4
 a4:=Tryz.isAgg4
 z4:=Tryz.sizeOf4
 v4:=Tryz.zeroValue4
 t5:=Tryz.underlying5
 a5:=Tryz.isAgg5
 z5:=Tryz.sizeOf5
 v5:=Tryz.zeroValue5
 t9:=Tryz.underlying9
 a9:=Tryz.isAgg9
 z9:=Tryz.sizeOf9
 v9:=Tryz.zeroValue9
 t46:=Tryz.underlying229
 a46:=Tryz.isAgg229
 z46:=Tryz.sizeOf229
 v46:=Tryz.zeroValue229
 t51:=Tryz.underlying252
 a51:=Tryz.isAgg252
 z51:=Tryz.sizeOf252
 v51:=Tryz.zeroValue252
 t146:=Tryz.underlying253
 a146:=Tryz.isAgg253
 z146:=Tryz.sizeOf253
 v146:=Tryz.zeroValue253
 g1:=by kernel_rfl}
open Go.RowKit Go.Lib in
theorem Tryz.stringslite_Index_one (s:ByteArray) (c:UInt8) (w:World):
 Calls Tryz.prog 249 #[.string s,.string ⟨#[c]⟩] w fun e w'=>e=.returned (.int .i64 (Lib.indexByte s.data.toList c))∧w'=w:=Any.stringslite_Index_one Tryz.lays219 s c w
def Tryz.lays99_ren:Go.Shelf.Ren:=⟨fun|99=>226|206=>248|n=>n,fun|9=>9|4=>4|3=>3|n=>n,fun|n=>n⟩
theorem Tryz.lays99:Go.Proofs.Lays.n99 Tryz.prog Tryz.lays99_ren:={
 mixed:=by kernel_rfl
 f99:=Tryz.func226.trans (congrArg some (by kernel_rfl))
 f206:=Tryz.func248.trans (congrArg some (by kernel_rfl))
 t3:=Tryz.underlying3
 a3:=Tryz.isAgg3
 z3:=Tryz.sizeOf3
 v3:=Tryz.zeroValue3
 t4:=Tryz.underlying4
 a4:=Tryz.isAgg4
 z4:=Tryz.sizeOf4
 v4:=Tryz.zeroValue4
 t9:=Tryz.underlying9
 a9:=Tryz.isAgg9
 z9:=Tryz.sizeOf9
 v9:=Tryz.zeroValue9}
open Go.RowKit Go.Lib in
theorem Tryz.strings_HasPrefix (s p:ByteArray) (w:World):
 Calls Tryz.prog 226 #[.string s,.string p] w fun e w'=>e=.returned (.bool (Lib.hasPrefix s.data.toList p.data.toList))∧w'=w:=Any.strings_HasPrefix Tryz.lays99 s p w
def Tryz.lays101_ren:Go.Shelf.Ren:=⟨fun|101=>227|208=>257|206=>248|n=>n,fun|9=>9|4=>4|3=>3|n=>n,fun|n=>n⟩
theorem Tryz.lays101:Go.Proofs.Lays.n101 Tryz.prog Tryz.lays101_ren:={
 mixed:=by kernel_rfl
 f101:=Tryz.func227.trans (congrArg some (by kernel_rfl))
 f206:=Tryz.func248.trans (congrArg some (by kernel_rfl))
 f208:=Tryz.func257.trans (congrArg some (by kernel_rfl))
 t3:=Tryz.underlying3
 a3:=Tryz.isAgg3
 z3:=Tryz.sizeOf3
 v3:=Tryz.zeroValue3
 t4:=Tryz.underlying4
 a4:=Tryz.isAgg4
 z4:=Tryz.sizeOf4
 v4:=Tryz.zeroValue4
 t9:=Tryz.underlying9
 a9:=Tryz.isAgg9
 z9:=Tryz.sizeOf9
 v9:=Tryz.zeroValue9}
open Go.RowKit Go.Lib in
theorem Tryz.strings_TrimPrefix (s p:ByteArray) (w:World):
 Calls Tryz.prog 227 #[.string s,.string p] w fun e w'=>e=.returned (.string ⟨(Lib.trimPrefix s.data.toList p.data.toList).toArray⟩)∧w'=w:=Any.strings_TrimPrefix Tryz.lays101 s p w
def Tryz.lays105_ren:Go.Shelf.Ren:=⟨fun|105=>263|212=>219|99=>226|165=>282|166=>264|170=>283|169=>265|263=>246|264=>189|206=>248|240=>284|241=>298|276=>299|277=>308|n=>n,fun|9=>9|3=>3|4=>4|20=>20|0=>0|46=>229|109=>230|5=>5|72=>272|76=>238|51=>252|146=>253|53=>210|148=>211|70=>269|37=>270|75=>237|127=>285|164=>299|80=>243|n=>n,fun|n=>n⟩
theorem Tryz.lays105:Go.Proofs.Lays.n105 Tryz.prog Tryz.lays105_ren:={
 mixed:=by kernel_rfl
 f99:=Tryz.func226.trans (congrArg some (by kernel_rfl))
 f105:=Tryz.func263.trans (congrArg some (by kernel_rfl))
 f165:=Tryz.func282.trans (congrArg some (by kernel_rfl))
 f166:=Tryz.func264.trans (congrArg some (by kernel_rfl))
 f169:=Tryz.func265.trans (congrArg some (by kernel_rfl))
 f170:=Tryz.func283.trans (congrArg some (by kernel_rfl))
 f206:=Tryz.func248.trans (congrArg some (by kernel_rfl))
 f212:=Tryz.func219.trans (congrArg some (by kernel_rfl))
 f240:=Tryz.func284.trans (congrArg some (by kernel_rfl))
 f241:=Tryz.func298.trans (congrArg some (by kernel_rfl))
 f263:=Tryz.func246.trans (congrArg some (by kernel_rfl))
 f264:=Tryz.func189.trans (congrArg some (by kernel_rfl))
 f276:=Tryz.func299.trans (congrArg some (by kernel_rfl))
 f277:=Tryz.func308.trans (congrArg some (by kernel_rfl))
 t0:=Tryz.underlying0
 a0:=Tryz.isAgg0
 z0:=Tryz.sizeOf0
 v0:=Tryz.zeroValue0
 t3:=Tryz.underlying3
 a3:=Tryz.isAgg3
 z3:=Tryz.sizeOf3
 v3:=Tryz.zeroValue3
 t4:=Tryz.underlying4
 a4:=Tryz.isAgg4
 z4:=Tryz.sizeOf4
 v4:=Tryz.zeroValue4
 t5:=Tryz.underlying5
 a5:=Tryz.isAgg5
 z5:=Tryz.sizeOf5
 v5:=Tryz.zeroValue5
 t9:=Tryz.underlying9
 a9:=Tryz.isAgg9
 z9:=Tryz.sizeOf9
 v9:=Tryz.zeroValue9
 t20:=Tryz.underlying20
 a20:=Tryz.isAgg20
 z20:=Tryz.sizeOf20
 v20:=Tryz.zeroValue20
 t37:=Tryz.underlying270
 a37:=Tryz.isAgg270
 z37:=Tryz.sizeOf270
 v37:=Tryz.zeroValue270
 t46:=Tryz.underlying229
 a46:=Tryz.isAgg229
 z46:=Tryz.sizeOf229
 v46:=Tryz.zeroValue229
 t51:=Tryz.underlying252
 a51:=Tryz.isAgg252
 z51:=Tryz.sizeOf252
 v51:=Tryz.zeroValue252
 t53:=Tryz.underlying210
 a53:=Tryz.isAgg210
 z53:=Tryz.sizeOf210
 v53:=Tryz.zeroValue210
 t70:=Tryz.underlying269
 a70:=Tryz.isAgg269
 z70:=Tryz.sizeOf269
 v70:=Tryz.zeroValue269
 t72:=Tryz.underlying272
 a72:=Tryz.isAgg272
 z72:=Tryz.sizeOf272
 v72:=Tryz.zeroValue272
 t75:=Tryz.underlying237
 a75:=Tryz.isAgg237
 z75:=Tryz.sizeOf237
 v75:=Tryz.zeroValue237
 t76:=Tryz.underlying238
 a76:=Tryz.isAgg238
 z76:=Tryz.sizeOf238
 v76:=Tryz.zeroValue238
 t109:=Tryz.underlying230
 a109:=Tryz.isAgg230
 z109:=Tryz.sizeOf230
 v109:=Tryz.zeroValue230
 t127:=Tryz.underlying285
 a127:=Tryz.isAgg285
 z127:=Tryz.sizeOf285
 v127:=Tryz.zeroValue285
 t146:=Tryz.underlying253
 a146:=Tryz.isAgg253
 z146:=Tryz.sizeOf253
 v146:=Tryz.zeroValue253
 t148:=Tryz.underlying211
 a148:=Tryz.isAgg211
 z148:=Tryz.sizeOf211
 v148:=Tryz.zeroValue211
 t164:=Tryz.underlying299
 a164:=Tryz.isAgg299
 z164:=Tryz.sizeOf299
 v164:=Tryz.zeroValue299}
theorem Tryz.Builder_Extra_105:Builder.Extra Tryz.prog Tryz.lays105_ren:={
 sizeBuilder:=by kernel_rfl
 liesBuilder:=by kernel_rfl
 t5:=Tryz.underlying5
 a5:=Tryz.isAgg5
 z5:=Tryz.sizeOf5
 v5:=Tryz.zeroValue5
 infoByte:=by kernel_rfl
 cellsByte:=by kernel_rfl
 sizeByte:=by kernel_rfl
 neB5:=by decide}
open Go.RowKit Go.Lib in
theorem Tryz.strings_Repeat (s:ByteArray) (c:Nat) (w:World) (hc:c≤9223372036854775807) (hlen:s.size*c≤140737488355328):
 Calls Tryz.prog 263 #[.string s,.int .i64 c] w fun e w'=>e=.returned (.string ⟨(Lib.repeatL s.data.toList c).toArray⟩)∧Below w.heap.size w w':=Any.strings_Repeat Tryz.lays105 Tryz.Builder_Extra_105 s c w hc hlen
end Go.Proofs
namespace Go.Eng.Dec
open Go.Lib
set_option linter.unusedSimpArgs false
set_option linter.unusedVariables false
abbrev dgc (d:Nat):UInt8:=UInt8.ofNat (48+d)
def kM:Nat→Nat→List UInt8
 |0,_=>[]
 |n+1,b=>kM n (b / 10)++[dgc (b % 10)]
theorem X3:∀n b,(kM n b).length=n:=by
 intro n;induction n with
 |zero=>intro b;rfl
 |succ n ih=>intro b;simp[kM,ih]
theorem Uk:∀n,kM n 0=akP n 48:=by
 intro n;induction n with
 |zero=>rfl
 |succ n ih=>rw[kM,Nat.zero_div,ih,List.replicate_succ'];rfl
theorem dec_lt {u:Nat} (h:u<10):decDigits u=[dgc u]:=by rw[decDigits,dif_pos h]
theorem qd {u:Nat} (h:¬u<10):decDigits u=decDigits (u / 10)++[dgc (u % 10)]:=by rw[decDigits,dif_neg h]
theorem FH {a:Nat} (ha:0<a):∀(m b:Nat),b<10 ^ m→decDigits (a*10 ^ m+b)=decDigits a++kM m b:=by
 intro m;induction m with
 |zero=>intro b hb;have:b=0:=by simpa using hb
        subst this;simp[kM]
 |succ m ih=>
  intro b hb;rw[amx]at hb⊢;have hp:0<10 ^ m:=Nat.pow_pos qqO;have h1:1*1≤a*10 ^ m:=alE ha hp;have e:a*(10 ^ m*10)=(a*10 ^ m)*10:=by rw[amY]
  rw[e,qd qqO,kM,←anN,←ih (b / 10) qqO];rw[show(a*10 ^ m*10+b) / 10=a*10 ^ m+b / 10 by omega,show(a*10 ^ m*10+b) % 10=b % 10 by omega]
theorem uF:∀(n b:Nat),b<10 ^ (n+1)→(decDigits b).length≤n+1:=by
 intro n;induction n with
 |zero=>intro b hb;rw[dec_lt (by simpa using hb)];simp
 |succ n ih=>
  intro b hb;by_cases h:b<10
  ·rw[dec_lt h];simp
  ·rw[qd h,alQ]
   have:=ih (b / 10) (by rw[amx]at hb;omega)
   simp;omega
theorem kS (b:Nat):0<(decDigits b).length:=by
 by_cases h:b<10
 ·rw[dec_lt h];simp
 ·rw[qd h];simp
theorem adP:∀(n b:Nat),b<10 ^ (n+1)→kM (n+1) b=akP (n+1-(decDigits b).length) 48++decDigits b:=by
 intro n;induction n with
 |zero=>
  intro b hb;have h:b<10:=by simpa using hb
  rw[dec_lt h,kM,kM,akX h];rfl
 |succ n ih=>
  intro b hb;rw[kM];by_cases h:b<10
  ·rw[akV h,Uk,dec_lt h,akX h]
   simp
  ·have h1:b / 10<10 ^ (n+1):=by rw[amx 10 (n+1)]at hb;omega
   rw[ih (b / 10) h1,qd h,alQ,←anN];simp
def vF (a:Nat) (b:UInt8):Nat:=a*10+(b.toNat-48)
def vD (l:List UInt8):Nat:=l.foldl vF 0
def isD (l:List UInt8):Prop:=∀b∈l,48≤b.toNat∧b.toNat≤57
theorem adQ (l:List UInt8):∀a,l.foldl vF a=a*10 ^ l.length+vD l:=by
 induction l with
 |nil=>intro a;simp[vD]
 |cons b r ih=>
  intro a;unfold vD;rw[anO,anO,ih,ih (vF 0 b),akq,amx];unfold vF;rw[alu,akS,ak7,amY,akT 10];omega
theorem BJ (l m:List UInt8):vD (l++m)=vD l*10 ^ m.length+vD m:=by
 unfold vD;rw[List.foldl_append,adQ m];rfl
theorem wP (b:UInt8):vD [b]=b.toNat-48:=by simp[vD,vF]
theorem nV {d:Nat} (h:d<10):(dgc d).toNat=48+d:=by
 show(UInt8.ofNat (48+d)).toNat=_;simp;omega
theorem ag7 (x:Nat):vD (decDigits x)=x:=by
 induction x using anP with
 |ind x ih=>
  by_cases h:x<10
  ·rw[dec_lt h,wP,nV h];omega
  ·rw[qd h,BJ,ih (x / 10) qqO,wP,nV (alc _ qqO)]
   simp;omega
theorem Nf {l m:List UInt8}:isD (l++m)↔isD l∧isD m:=by
 unfold isD;constructor
 ·exact fun h=>⟨fun b hb=>h b (List.mem_append_left _ hb),fun b hb=>h b (List.mem_append_right _ hb)⟩
 ·rintro⟨h1,h2⟩ b hb
  rcases akH.1 hb with h|h
  ·exact h1 b h
  ·exact h2 b h
theorem Ng {d:Nat} (h:d<10):isD [dgc d]:=by
 intro b hb;rw[anQ.1 hb,nV h];omega
theorem yu (x:Nat):isD (decDigits x):=by
 induction x using anP with
 |ind x ih=>
  by_cases h:x<10
  ·rw[dec_lt h];exact Ng h
  ·rw[qd h,Nf];exact⟨ih _ qqO,Ng (alc _ qqO)⟩
theorem Ul {b:UInt8} (h:48≤b.toNat∧b.toNat≤57):b=dgc (b.toNat-48):=by
 apply UInt8.toNat_inj.1;rw[nV qqO];omega
theorem X4 (x:Nat) (h0:x≠0):∃b r,decDigits x=b::r∧b≠48:=by
 induction x using anP with
 |ind x ih=>
  by_cases h:x<10
  ·refine⟨dgc x,[],dec_lt h,fun e=>?_⟩
   have:=congrArg UInt8.toNat e;rw[nV h]at this;simp at this;omega
  ·obtain⟨b,r,e,hb⟩:=ih (x / 10) qqO qqO
   exact⟨b,r++[dgc (x % 10)],by rw[qd h,e];rfl,hb⟩
theorem Um:∀(n:Nat) (l:List UInt8),l.length=n+1→isD l→(∀b r,l=b::r→b=48→r=[])→l=decDigits (vD l):=by
 intro n;induction n with
 |zero=>
  intro l hl hd h0
  match l,hl with
  | [b],_=>
   have hb:=hd b qqS;rw[wP,dec_lt qqO,←Ul hb]
 |succ n ih=>
  intro l hl hd h0;have hne:l≠[]:=fun e=>by subst e;simp at hl
  obtain⟨m,b,rfl⟩:∃m b,l=m++[b]:=⟨l.dropLast,l.getLast hne,(List.dropLast_concat_getLast hne).symm⟩;have hm:m.length=n+1:=by simpa using hl
  obtain⟨hd1,hd2⟩:=Nf.1 hd;obtain⟨c,r,rfl⟩:∃c r,m=c::r:=by
   cases m with
   |nil=>simp at hm
   |cons c r=>exact⟨c,r,rfl⟩
  have hc:c≠48:=fun e=>by
   have:=h0 c (r++[b]) rfl e;simp at this
  have e1:=ih (c::r) hm hd1 (fun b' r' e hb'=>by
   cases e;exact absurd hb' hc)
  have hv:vD (c::r)≠0:=fun e=>by
   rw[e,dec_lt qqO]at e1;simp only[List.cons.injEq]at e1;exact hc e1.1
  have hb:=hd2 b qqS;have e2:=FH (a:=vD (c::r)) qqO 1 (b.toNat-48) qqO;rw[BJ,wP];have e3:kM 1 (b.toNat-48)=[b]:=by
   rw[kM,kM,akX qqO,←Ul hb];rfl
  rw[show [b].length=1 from rfl,e2,e3,←e1]
theorem LA:∀(l:List UInt8) (acc:Nat),isD l→decFrom acc l=some (l.foldl vF acc):=by
 intro l;induction l with
 |nil=>intro acc _;rfl
 |cons b r ih=>
  intro acc h;have hb:=h b qqS;unfold decFrom digitVal;rw[if_pos hb];exact ih _ fun c hc=>h c (amm _ hc)
theorem atoi_dig {l:List UInt8} (hne:l≠[]) (h:isD l):atoi l=some ((vD l:Nat):Int):=by
 cases l with
 |nil=>exact absurd rfl hne
 |cons b r=>
  have hb:=h b qqS;have h1:(b==45)=false:=by
   rw[beq_eq_false_iff_ne];intro e;subst e;simp at hb
  have h2:(b==43)=false:=by
   rw[beq_eq_false_iff_ne];intro e;subst e;simp at hb
  unfold atoi;simp only[h1,h2,als,if_false];unfold decNat;rw[LA _ _ h];rfl
theorem wQ (n:Nat):repeatL [48] n=akP n 48:=by
 induction n with
 |zero=>rfl
 |succ n ih=>rw[repeatL,ih];rfl
end Go.Eng.Dec
namespace Go.Proofs
open Go.Shelf Go.RowKit Go.Sort Go.Lib
set_option linter.unusedSimpArgs false
set_option linter.unusedVariables false
theorem holds_zero0 (w:World) (T:TypeId) (nd:Nat) (hs:nd≤24):Holds (fun(b:UInt8)=>Value.int .u8 (b.toNat:Int)) (w.alloc (.cells zeros24 T)) w.heap.size 0 (ami nd (0:UInt8)):=fun j hj=>by
 have hj':j<nd:=by simpa using hj
 refine⟨?_,World.frozen?_alloc_new _ _ _ _⟩;rw[World.cell?_alloc_new,zeros24_at _ qqO,getElem!_pos _ j hj];simp
theorem X5 (w:World) (o:Obj) (dk:Array UInt8) (k:Nat):∃os,(putRow (fun(b:UInt8)=>Value.int .u8 (b.toNat:Int)) (w.alloc o) w.heap.size 0 dk).drewN k=grow (w.drewN k) os:=by
 rw[alloc_eq_grow];obtain⟨os',_,e⟩:=putRow_grow_new (fun(b:UInt8)=>Value.int .u8 (b.toNat:Int)) w #[o] w.heap.size 0 dk (aku _);exact⟨os',by rw[e];rfl⟩
set_option maxHeartbeats 6400000 in
set_option maxRecDepth 100000 in
theorem Tryz.fmtU (u:Nat) (hu:100≤u) (hu64:u<18446744073709551616) (w:World)
 (htab:Lib.TabIs Tryz.prog w "internal/strconv.uint64pow10" .u64 Lib.pow10Tab):
 Calls Tryz.prog 281 #[.int .u64 u,.int .i64 10] w fun e w'=>e=.returned (.string ⟨(Lib.decDigits u).toArray⟩)∧∃k os,w'=grow (w.drewN k) os:=by
 have mixed:=Tryz.lays285.mixed;have hnd20:Lib.nDigits u≤20:=by have:=Lib.numDigits_eq u qqO hu64;split at this<;>omega
 have hal:Tryz.prog.arrayLen 295=24:=by simp[Program.arrayLen,Tryz.underlying295]
 have hsl1:∀W,(Instr.sliceAt 295 (.pointer (some ⟨w.heap.size,0,none⟩)) none (some (.int .i64 (Lib.nDigits u:Int))) none).run Tryz.prog W=.ok (.slice (some ⟨w.heap.size,0,none⟩) (Lib.nDigits u) 24) W:=fun W=>by
  rw[run_sliceAt_array_h W 295 ⟨w.heap.size,0,none⟩ (by simp[Program.arrayLen,Program.elem,Tryz.underlying295]) .i64 (Lib.nDigits u:Int) qqO (by rw[hal];omega)]
  go_simp
 have hH0:=holds_zero0 w 295 (Lib.nDigits u) qqO;have hfmt:=Tryz.internal_strconv_formatBase10 w.heap.size 0 24 u (ami (Lib.nDigits u) 0) (w.alloc (.cells Lib.zeros24 295)) hH0 (by rw[anR];exact Lib.lt_pow_nDigits u) hu64 (by rw[anR];omega)
 rw[anR]at hfmt;have HH0:=Lib.hid hH0;clear hH0 hal;have e295:∀args w,(callFunc 295 args).run Tryz.prog w=.ok (.enter 295 args) w:=enters_of Tryz.func295 (by kernel_rfl) rfl
 have e296:∀args w,(callFunc 296 args).run Tryz.prog w=.ok (.enter 296 args) w:=enters_of Tryz.func296 (by kernel_rfl) rfl
 go_enter Tryz.func281,Tryz.ntmps281
 go_wp2_with (first
  |(go_at_fn 295;refine(Tryz.internal_strconv_numDigits u qqO hu64 _ (Lib.tabIs_alloc htab _)).mono ?_;rintro e w' ⟨rfl,rfl⟩))
 refine hfmt.mono ?_
 rintro e w' ⟨rfl,k,v',dk,rfl,hF⟩
 have hal:Tryz.prog.arrayLen 295=24:=by simp[Program.arrayLen,Tryz.underlying295]
 have hcv:(convert 270 9 (.slice (some ⟨w.heap.size,0,none⟩) (Lib.nDigits u) 24)).run Tryz.prog ((putRow (fun(b:UInt8)=>Value.int .u8 (b.toNat:Int)) (w.alloc (.cells Lib.zeros24 295)) w.heap.size 0 dk).drewN k)=.ok (.string ⟨(Lib.decDigits u).toArray⟩) ((putRow (fun(b:UInt8)=>Value.int .u8 (b.toNat:Int)) (w.alloc (.cells Lib.zeros24 295)) w.heap.size 0 dk).drewN k):=by
  have h:=run_convert_bytes_back (P:=Tryz.prog) ((putRow (fun(b:UInt8)=>Value.int .u8 (b.toNat:Int)) (w.alloc (.cells Lib.zeros24 295)) w.heap.size 0 dk).drewN k) 270 9 5 ⟨w.heap.size,0,none⟩ 24 (Lib.decDigits u) Tryz.underlying270 Tryz.underlying5 Tryz.underlying9 (fun j hj=>by
   rw[Lib.row_is_numeral hF j hj,Lib.add_plain,World.cell?_drewN];exact cell?_putRow (fun(b:UInt8)=>Value.int .u8 (b.toNat:Int)) _ w.heap.size 0 _ dk HH0.out (by rw[hF.size,anR]) j (by rw[hF.size];rw[Lib.decDigits_length]at hj;exact hj))
  rw[Lib.decDigits_length]at h;exact h
 go_wp2
 go_ret
 obtain⟨os,eo⟩:=X5 w (.cells Lib.zeros24 295) dk k;exact⟨rfl,k,os,eo⟩
set_option maxRecDepth 100000 in
theorem Tryz.fmtUs (i:Nat) (hi:i<100) (w:World):
 Calls Tryz.prog 281 #[.int .u64 i,.int .i64 10] w fun e w'=>e=.returned (.string ⟨(Lib.decDigits i).toArray⟩)∧w'=w:=by
 have mixed:=Tryz.lays285.mixed;have e294:∀args w,(callFunc 294 args).run Tryz.prog w=.ok (.enter 294 args) w:=enters_of Tryz.func294 (by kernel_rfl) rfl
 go_enter Tryz.func281,Tryz.ntmps281
 go_wp2_with (go_at_fn 294;refine(Tryz.internal_strconv_small i hi _).mono ?_;rintro e w' ⟨rfl,rfl⟩)
 go_ret
 exact⟨rfl,rfl⟩
end Go.Proofs
namespace Go.Eng
open Go.Proofs Go.Shelf Go.RowKit
set_option linter.unusedSimpArgs false
set_option linter.unusedVariables false
theorem yP {P:Program} {w:World} {ops:Array Oper} {rest:List Oper} {o:Oper} {a:Act} {Q:Exit→Act→World→Prop} (hgd:o.guard=none) (sl x:Operand) (t u:TypeId)
 (ho:o.op=.call {callee:=.builtin .append,args:= #[sl,x],argTypes:= #[t,u]})
 (e:TypeId) (i:TypeInfo) (ht:P.underlying t=some (.slice e)) (hu:P.underlying u=some .string) (hi:P.info? e=some i) (hz:i.zero=some (.int .u8 0)) (hsize:i.size=1) (hby:i.bytes=1)
 (v:Value) (n:Nat) (xs:List Value) (hs:a.eval sl=v) (hown:w.ownsRowF 0 e 1 v n xs) (s:ByteArray) (hx:a.eval x=.string s) (h63:n+s.size≤maxLen) (hbytes:n+s.size≤140737488355328)
 (h:∀v' w',w'.ownsRowF 0 e 1 v' (n+s.size) (xs++Lib.strCells s)→w.grownBy w' v.ownBlock→(∀b,b<w.heap.size→bsz w' b=bsz w b)→(∀g,v'.ownBlock=some g→v.ownBlock=some g∨w.heap.size≤g)→wpList P ops Q rest (a.put o.dst v') w'):
 wpList P ops Q (o::rest) a w:=by
 refine wpList_plain hgd fun K hK=>?_;obtain⟨v',w',hr,h2,h3,h4,h5⟩:=P8 (P:=P) w t u o.type e i ht hu hi hz hsize hby v n xs hown s h63 hbytes;unfold Oper.wp execOp;simp only[ho,resolve,invoke,builtin,Sem.run_bind,Sem.run_pure,Result.andThen_ok,List.map_toArray,List.map_cons,List.map_nil,hs,hx,hr];exact hK _ _ (h v' w' h2 h3 h4 h5)
theorem y5 (w:World) (a:Addr) (x:Value) (b:Nat):bsz (w.setCell a x) b=bsz w b:=by
 unfold bsz World.setCell;rw[akB];by_cases e:a.block=b
 ·rw[if_pos e]
  cases w.heap[b]? with
  |none=>rfl
  |some o=>
   cases o with
   |cells c t f=>simp only[Option.map_some];split<;>simp
   |_=>rfl
 ·rw[if_neg e]
theorem Jw (a b:ByteArray):Lib.strCells a++Lib.strCells b=Lib.strCells (a++b):=by
 unfold Lib.strCells;rw[←anS];congr 1
theorem Un {P:Program} {ρ:Ren} (L:Lays.n240 P ρ) (X:Builder.X72 P ρ) (b:Nat) (p v:Value) (w:World) (hbk:w.heap[b]? =some (.cells #[p,v] (ρ.t 72) (0,0))) (hp:p=.pointer none∨p=.pointer (some ⟨b,0,none⟩)):
 Calls P (ρ.f 240) #[.pointer (some ⟨b,0,none⟩)] w fun e w'=>e=.returned (.tuple #[])∧w'.heap[b]? =some (.cells #[.pointer (some ⟨b,0,none⟩),v] (ρ.t 72) (0,0))∧w'.os=w.os∧w'.tape=w.tape∧w'.output=w.output∧w'.heap.size=w.heap.size∧
  (∀b',b'≠b→w'.heap[b']? =w.heap[b']?)∧∀b',bsz w' b'=bsz w b':=by
 rcases hp with rfl|rfl
 ·refine(Any.Builder_copyCheck_fresh L X b w (by rw[Lib.cell_of_heap hbk];rfl) (by simp[World.shape?,hbk]) (Lib.frozen_of_heap hbk 0)).mono ?_
  rintro e w' ⟨rfl,rfl⟩
  exact⟨rfl,by simp[World.setCell,akB,hbk],rfl,rfl,rfl,by simp[World.setCell],fun b' hb'=>Below.heap_setCell _ _ _ _ hb',fun b'=>y5 _ _ _ _⟩
 ·refine(Any.Builder_copyCheck_used L X b w (by rw[Lib.cell_of_heap hbk];rfl)).mono ?_
  rintro e w' ⟨rfl,rfl⟩
  exact⟨rfl,hbk,rfl,rfl,rfl,rfl,fun _ _=>rfl,fun _=>rfl⟩
set_option maxHeartbeats 4000000 in
set_option maxRecDepth 100000 in
theorem Uo {P:Program} {ρ:Ren} (L:Lays.n166 P ρ) (X:Builder.Extra P ρ) (b:Nat) (p v:Value) (bs s:ByteArray) (w:World) (hbk:w.heap[b]? =some (.cells #[p,v] (ρ.t 72) (0,0))) (hp:p=.pointer none∨p=.pointer (some ⟨b,0,none⟩))
 (hne:v.ownBlock≠some b) (hown:w.ownsRowF 0 (ρ.t 5) 1 v bs.size (Lib.strCells bs)) (hlen:bs.size+s.size≤140737488355328):
 Calls P (ρ.f 166) #[.pointer (some ⟨b,0,none⟩),.string s] w fun ex w'=>∃val v',ex=.returned val∧vW (ρ.t 72) (ρ.t 5) b v w w' (bs++s) v'∧val=.tuple #[.int .i64 s.size,.nilIface]:=by
 obtain⟨i0,hi,hz0,hz1,hz2⟩:=info_parts X.infoByte;have mixed:=L.mixed;have t72:=L.t72;have a72:=L.a72;have z72:=L.z72;have v72:=L.v72;have u72:=run_underlying L.t72;have t70:=L.t70;have a70:=L.a70;have z70:=L.z70;have v70:=L.v70;have u70:=run_underlying L.t70;have t37:=L.t37;have a37:=L.a37;have z37:=L.z37;have v37:=L.v37;have u37:=run_underlying L.t37;have t3:=L.t3;have a3:=L.a3;have z3:=L.z3;have v3:=L.v3;have u3:=run_underlying L.t3;have t9:=L.t9;have a9:=L.a9;have z9:=L.z9;have v9:=L.v9;have u9:=run_underlying L.t9;have t4:=L.t4;have a4:=L.a4;have z4:=L.z4;have v4:=L.v4;have u4:=run_underlying L.t4;have t164:=L.t164;have a164:=L.a164;have z164:=L.z164;have v164:=L.v164;have u164:=run_underlying L.t164;have t5:=X.t5;have a5:=X.a5;have z5:=X.z5;have v5:=X.v5;have u5:=run_underlying X.t5;have e240:∀args w,(callFunc (ρ.f 240) args).run P w=.ok (.enter (ρ.f 240) args) w:=enters_of L.f240 (by kernel_rfl) rfl
 go_enter L.f166,Body.n166_ntmps ρ
 go_wp2_with (go_at_fn (ρ.f 240);refine(Un {L with} X.toX72 b p v _ hbk hp).mono ?_)
 rintro e w1 ⟨rfl,hb1,o1,tp1,ou1,sz1,oth1,bz1⟩
 have hown1:w1.ownsRowF 0 (ρ.t 5) 1 v bs.size (Lib.strCells bs):=mF hown fun g hg=>oth1 g (fun e=>hne (by rw[hg,e]))
 have c0:w1.cell? ⟨b,0,none⟩=some (.pointer (some ⟨b,0,none⟩)):=by rw[Lib.cell_of_heap hb1];rfl
 have c1:w1.cell? ⟨b,1,none⟩=some v:=by rw[Lib.cell_of_heap hb1];rfl
 go_wp2_with (at_builtin;refine yP rfl _ _ (ρ.t 37) (ρ.t 9) rfl (ρ.t 5) i0 L.t37 L.t9 hi hz0 hz1 hz2 _ _ _ rfl hown1 s rfl ?c3 ?c4 ?_)
 case c3=>unfold maxLen;omega
 case c4=>omega
 intro v' w2 hown' hgrow hbz hnew;have hlt:b<w1.heap.size:=lt_of_heap hb1;have hb2:w2.heap[b]? =some (.cells #[.pointer (some ⟨b,0,none⟩),v] (ρ.t 72) (0,0)):=by
  rw[hgrow.block b hlt (fun e=>hne e.symm)];exact hb1
 have d0:w2.cell? ⟨b,0,none⟩=some (.pointer (some ⟨b,0,none⟩)):=by rw[Lib.cell_of_heap hb2];rfl
 have d1:w2.cell? ⟨b,1,none⟩=some v:=by rw[Lib.cell_of_heap hb2];rfl
 have f1:w2.frozen? ⟨b,1,none⟩=false:=Lib.frozen_of_heap hb2 1;have hvb:v'.ownBlock≠some b:=fun e=>by
  rcases hnew b e with h|h
  ·exact hne h
  ·omega
 obtain⟨ao,n',cap,rfl⟩:∃ao n' cap,v'=.slice ao n' cap:=by
  rcases hown'.2 with⟨hv,_⟩|⟨g,cap,cur,fz,hv,_⟩
  ·exact⟨_,_,_,hv⟩
  ·exact⟨_,_,_,hv⟩
 go_wp2
 go_ret2
 refine⟨_,.slice ao n' cap,rfl,⟨⟨_,?_,.inr rfl⟩,hvb,?_,?_,?_,?_,?_,?_,?_,?_⟩,rfl⟩
 ·simp[World.setCell,akB,hb2]
 ·rw[←Jw,ByteArray.size_append]
  exact mF hown' fun g hg=>Below.heap_setCell _ _ _ _ (fun e=>hvb (by rw[hg,e]))
 ·intro g hg
  rcases hnew g hg with h|h
  ·exact .inl h
  ·exact .inr qqO
 ·exact hgrow.os.trans o1
 ·exact hgrow.tape.trans tp1
 ·exact hgrow.output.trans ou1
 ·have:=hgrow.size;simp[World.setCell];omega
 ·intro b' h1 h2 h3
  rw[Below.heap_setCell _ _ _ _ h2,hgrow.block b' qqO (fun e=>h3 e.symm)];exact oth1 b' h2
 ·intro b' h1
  rw[y5,hbz b' qqO]
set_option maxHeartbeats 4000000 in
set_option maxRecDepth 100000 in
theorem Qw {P:Program} {ρ:Ren} (L:Lays.n169 P ρ) (X:Builder.Extra P ρ) (b:Nat) (p v:Value) (s:ByteArray) (w:World) (hbk:w.heap[b]? =some (.cells #[p,v] (ρ.t 72) (0,0))) (hp:p=.pointer none∨p=.pointer (some ⟨b,0,none⟩))
 (hne:v.ownBlock≠some b) (hown:w.ownsRowF 0 (ρ.t 5) 1 v s.size (Lib.strCells s)) (h0:0<s.size):
 Calls P (ρ.f 169) #[.pointer (some ⟨b,0,none⟩)] w fun ex w'=>∃val v',ex=.returned val∧vW (ρ.t 72) (ρ.t 5) b v w w' s v'∧val=.string s:=by
 obtain⟨g,cap,cur,fz,rfl,hbg,hg,hfz,hnc,hcm,hcs,htake⟩:∃g cap cur fz,v=.slice (some ⟨g,0,none⟩) s.size cap∧0≤g∧w.heap[g]? =some (.cells cur (ρ.t 5) fz)∧fz.2≤s.size*1∧s.size≤cap∧cap≤maxLen∧cur.size=cap*1∧cur.toList.take (s.size*1)=Lib.strCells s:=by
  rcases hown.2 with⟨_,hz⟩|⟨g,cap,cur,fz,hv,r⟩
  ·omega
  ·exact⟨g,cap,cur,fz,hv,r⟩
 have hgb:g≠b:=fun e=>hne (by simp[Value.ownBlock,e])
 have hls:s.data.toList.length=s.size:=by rw[ak2];rfl
 have c1:w.drew.cell? ⟨b,1,none⟩=some (.slice (some ⟨g,0,none⟩) s.size cap):=by
  have:w.drew.heap[b]? =some (.cells #[p,.slice (some ⟨g,0,none⟩) s.size cap] (ρ.t 72) (0,0)):=hbk;rw[Lib.cell_of_heap this];rfl
 have hSD:(Builtin.unsafeSliceData_ #[(ρ.t 37)] (ρ.t 127) #[.slice (some ⟨g,0,none⟩) s.size cap]).run P w.drew=.ok (.pointer (some ⟨g,0,none⟩)) w.drew:=
  Lib.run_unsafeSliceData_row _ _ _ _ _ _ qqO
 have hUS:(Builtin.unsafeString_ #[(ρ.t 127),(ρ.t 3)] (ρ.t 9) #[.pointer (some ⟨g,0,none⟩),.int .i64 s.size]).run P w.drew=.ok (.string s) (w.drew.freeze ⟨g,0,none⟩ s.size):=by
  have:=Lib.run_unsafeString_row (P:=P) w.drew (ρ.t 127) (ρ.t 3) (ρ.t 9) (ρ.t 5) L.t127 X.cellsByte g cur.size (by have hg':w.drew.heap[g]? =some (.cells cur (ρ.t 5) fz):=hg;simp[World.shape?,hg']) s.data.toList (by intro e;rw[e]at hls;exact absurd hls (by rw[List.length_nil];omega)) qqO (by unfold maxLen at hcm;omega) (by
   intro j x hx;exact hown.cells (g:=g) rfl j (.int .u8 x.toNat) (by simp[Lib.strCells,hx]))
  rw[hls]at this;exact this
 have hfin:vW (ρ.t 72) (ρ.t 5) b (.slice (some ⟨g,0,none⟩) s.size cap) w (w.drew.freeze ⟨g,0,none⟩ s.size) s (.slice (some ⟨g,0,none⟩) s.size cap):=by
  have hgn:(w.drew.freeze ⟨g,0,none⟩ s.size).heap[g]? =some (.cells cur (ρ.t 5) (if fz.1==fz.2 then(0,0+s.size)else(min fz.1 0,max fz.2 (0+s.size)))):=by
   unfold World.freeze;rw[if_neg qqO];have hg':w.drew.heap[g]? =some (.cells cur (ρ.t 5) fz):=hg;simp[akB,hg']
  have hoth:∀b',b'≠g→(w.drew.freeze ⟨g,0,none⟩ s.size).heap[b']? =w.heap[b']? :=fun b' hb'=>by
   unfold World.freeze;rw[if_neg qqO];simp only[akB];rw[if_neg (fun e=>hb' e.symm)];rfl
  refine⟨⟨p,(hoth b (fun e=>hgb e.symm)).trans hbk,hp⟩,hne,⟨hown.1,.inr ⟨g,cap,cur,_,rfl,hbg,hgn,?_,hnc,hcm,hcs,htake⟩⟩,fun g' hg'=>.inl hg',?_,?_,?_,?_,fun b' _ _ h3=>hoth b' (fun e=>h3 (by simp[Value.ownBlock,e])),fun b' _=>?_⟩
  ·split
   ·simp
   ·simp;omega
  ·unfold World.freeze;split<;>rfl
  ·unfold World.freeze;split<;>rfl
  ·unfold World.freeze;split<;>rfl
  ·unfold World.freeze
   split
   ·exact aku _
   ·exact Nat.le_of_eq (Array.size_modify ..).symm
  ·by_cases e:b'=g
   ·subst e;unfold bsz;rw[hgn,hg]
   ·exact gq (hoth b' e)
 have mixed:=L.mixed;have t72:=L.t72;have a72:=L.a72;have z72:=L.z72;have v72:=L.v72;have u72:=run_underlying L.t72;have t70:=L.t70;have a70:=L.a70;have z70:=L.z70;have v70:=L.v70;have u70:=run_underlying L.t70;have t37:=L.t37;have a37:=L.a37;have z37:=L.z37;have v37:=L.v37;have u37:=run_underlying L.t37;have t127:=L.t127;have a127:=L.a127;have z127:=L.z127;have v127:=L.v127;have u127:=run_underlying L.t127;have t3:=L.t3;have a3:=L.a3;have z3:=L.z3;have v3:=L.v3;have u3:=run_underlying L.t3;have t9:=L.t9;have a9:=L.a9;have z9:=L.z9;have v9:=L.v9;have u9:=run_underlying L.t9;have t5:=X.t5;have a5:=X.a5;have z5:=X.z5;have v5:=X.v5;have u5:=run_underlying X.t5
 go_enter L.f169,Body.n169_ntmps ρ
 go_wp2
 go_region_o
 all_goals(go_wp2;go_ret;exact⟨_,_,rfl,hfin,rfl⟩)
end Go.Eng
namespace Go.Eng.YtmkagljofpddpaaGreatDoor
open Go.Proofs Go.RowKit
set_option linter.unusedSimpArgs false
set_option linter.unusedVariables false
set_option maxHeartbeats 0
set_option maxRecDepth 100000
def itB (n:Int):ByteArray:=⟨(Go.Lib.itoa n).toArray⟩
def wR (n:Int):Prop:= -9223372036854775808≤n∧n≤9223372036854775807
theorem FI {S:Imm} {w:World} (h:gB S w):Lib.TabIs Tryz.prog w "internal/strconv.uint64pow10" .u64 Lib.pow10Tab:=by
 obtain⟨h0,h1⟩:=h 7 _ rfl;have e:nI=Lib.pow10Tab:=qqD;unfold Lib.TabIs World.var?;rw[show Tryz.prog.globalNamed "internal/strconv.uint64pow10" =some 7 from by kernel_rfl,Option.bind_some,←e]
 unfold bsz at h0;split at h0
 ·rename_i cs t f hb
  rw[hb];refine congrArg some (Array.ext_getElem? fun j=>?_);have hsz:cs.size=nI.length:=by simpa [CL.ncell]using h0
  rcases Nat.lt_or_ge j nI.length with hj|hj
  ·obtain⟨_,hr⟩:=h1 j (by simpa [CL.ncell]using hj)
   have h2:rd w 7 j=some cs[j]:=by simp[rd,hb,hsz,hj]
   have h3:rdv w 7 j=cs[j]:=by unfold rdv;rw[h2];rfl
   rw[h3]at hr;rw[Array.getElem?_eq_getElem qqO];have h4:(CL.ints .u64 nI).get j=.int .u64 (nI.getD j 0):=rfl;rw[h4]at hr;generalize cs[j]=y at hr
   cases hr
   simp[akG,hj]
  ·rw[akx qqO,akx (by simpa using hj)]
 ·cases h0
theorem Uq (n:Int) (h:wR n):aD Tryz.prog 261 [.int .i64 n] (.str (itB n)):=by
 refine l6 (enters' Tryz.func261 qqR qqR) fun S w vs hg himm hA=>?_;have h0:=hA.2 0 qqS;have hsz:vs.size=1:=hA.1.symm;simp only[aH]at h0;have hvs:vs= #[vs.getD 0 undef]:=by
  apply Array.ext (by simp[hsz])
  intro i h1 h2;have:i=0:=qqO;subst this;simp[akD,h1]
 rw[hvs];generalize vs.getD 0 undef=v0 at h0
 cases h0
 refine⟨_,.str _ _,?_⟩;refine(Tryz.strconv_Itoa n h.1 h.2 w (FI hg)).mono ?_
 rintro e w' ⟨rfl,k,os,rfl⟩
 exact⟨rfl,Lib.below_grow _ _ (aku _) _ _⟩
def Qx:PSp:=fun xs K=>match xs with
 | [.int .i64 n]=>VC (wR n)∧K (.str (itB n))
 |_=>False
theorem adR:POK Tryz.prog 261 Qx:=by
 intro xs K h;unfold Qx at h;split at h
 ·exact⟨_,h.2,Uq _ h.1.get⟩
 ·exact h.elim
theorem qg {S:Imm} {w:World} {s p:ByteArray} {vs:Array Value} (h:bG S w noI [.str s,.str p] vs):vs= #[.string s,.string p]:=by
 obtain⟨v,u,rfl,h1,h2⟩:=uf h;cases h1;cases h2;rfl
theorem Nh {S:Imm} {w:World} {s:ByteArray} {vs:Array Value} (h:bG S w noI [.str s] vs):vs= #[.string s]:=by
 obtain⟨v,rfl,h1⟩:=IY h;cases h1;rfl
def preB (s p:ByteArray):Bool:=Go.Lib.hasPrefix s.data.toList p.data.toList
theorem X6 (s p:ByteArray):aD Tryz.prog 226 [.str s,.str p] (.bp (preB s p)):=by
 refine fD (enters' Tryz.func226 qqR qqR) fun S w vs himm hA=>?_;rw[qg hA];refine⟨_,.bp _ _,(Tryz.strings_HasPrefix s p w).mono ?_⟩
 rintro e w' ⟨rfl,rfl⟩
 exact⟨rfl,.refl _ _⟩
def X7:PSp:=fun xs K=>match xs with
 | [.str s,.str p]=>VC (True)∧K (.bp (preB s p))
 |_=>False
theorem ag8:POK Tryz.prog 226 X7:=by
 intro xs K h;unfold X7 at h;split at h
 ·exact⟨_,h.2,X6 _ _⟩
 ·exact h.elim
def dR (s p:ByteArray):ByteArray:=⟨(Go.Lib.trimPrefix s.data.toList p.data.toList).toArray⟩
theorem X8 (s p:ByteArray):aD Tryz.prog 227 [.str s,.str p] (.str (dR s p)):=by
 refine fD (enters' Tryz.func227 qqR qqR) fun S w vs himm hA=>?_;rw[qg hA];refine⟨_,.str _ _,(Tryz.strings_TrimPrefix s p w).mono ?_⟩
 rintro e w' ⟨rfl,rfl⟩
 exact⟨rfl,.refl _ _⟩
def Qy:PSp:=fun xs K=>match xs with
 | [.str s,.str p]=>VC (True)∧K (.str (dR s p))
 |_=>False
theorem Us:POK Tryz.prog 227 Qy:=by
 intro xs K h;unfold Qy at h;split at h
 ·exact⟨_,h.2,X8 _ _⟩
 ·exact h.elim
theorem Ut (s p:ByteArray):aD Tryz.prog 175 [.str s,.str p] (.tup [.str (dR s p),.bp (preB s p)]):=by
 refine fD (enters' Tryz.func175 qqR qqR) fun S w vs himm hA=>?_;rw[qg hA];refine⟨_,.tup _ _ #[.string (dR s p),.bool (preB s p)] rfl fun i hi=>?_,(Tryz.strings_CutPrefix s p w).mono ?_⟩
 ·have:i=0∨i=1:=by simp at hi;omega
  rcases this with rfl|rfl
  ·exact .str _ _
  ·exact .bp _ _
 rintro e w' ⟨rfl,rfl⟩
 exact⟨rfl,.refl _ _⟩
def Qz:PSp:=fun xs K=>match xs with
 | [.str s,.str p]=>VC (True)∧K (.tup [.str (dR s p),.bp (preB s p)])
 |_=>False
theorem adS:POK Tryz.prog 175 Qz:=by
 intro xs K h;unfold Qz at h;split at h
 ·exact⟨_,h.2,Ut _ _⟩
 ·exact h.elim
def DC (s:ByteArray) (c:Nat):ByteArray:=⟨(Go.Lib.repeatL s.data.toList c).toArray⟩
theorem Uu (s:ByteArray) (c:Nat) (h:c≤1000000000∧s.size≤1000):aD Tryz.prog 263 [.str s,.int .i64 c] (.str (DC s c)):=by
 refine fD (enters' Tryz.func263 qqR qqR) fun S w vs himm hA=>?_;obtain⟨v,u,rfl,h1,h2⟩:=uf hA;cases h1;cases h2
 refine⟨_,.str _ _,(Tryz.strings_Repeat s c w qqO ?_).mono ?_⟩
 ·have:=alE h.2 h.1
  omega
 rintro e w' ⟨rfl,hB⟩
 exact⟨rfl,hB⟩
def QA:PSp:=fun xs K=>match xs with
 | [.str s,.int .i64 c]=>VC (0≤c∧c≤1000000000∧s.size≤1000)∧K (.str (DC s c.toNat))
 |_=>False
theorem adT:POK Tryz.prog 263 QA:=by
 intro xs K hk;unfold QA at hk;split at hk
 ·obtain⟨h1,h2,h3⟩:=hk.1.get
  rename_i s c;obtain⟨n,rfl⟩:=am4 h1;exact⟨_,hk.2,Uu s n ⟨qqO,h3⟩⟩
 ·exact hk.elim
theorem Uv (s:ByteArray) (hs:s.size≤18) (n:Int) (hn:Go.Lib.atoi s.data.toList=some n):aD Tryz.prog 228 [.str s] (.tup [.int .i64 n,.nili]):=by
 refine fD (enters' Tryz.func228 qqR qqR) fun S w vs himm hA=>?_;rw[Nh hA];refine⟨_,.tup _ _ #[.int .i64 n,.nilIface] rfl fun i hi=>?_,(Tryz.strconv_Atoi s n hs hn w).mono ?_⟩
 ·have:i=0∨i=1:=by simp at hi;omega
  rcases this with rfl|rfl
  ·exact .int _ _ _
  ·exact .nili _
 rintro e w' ⟨rfl,t,rfl⟩
 exact⟨rfl,⟨by unfold Lib.bytesWorld World.freeze;split<;>rfl,by unfold Lib.bytesWorld World.freeze;split<;>rfl,by unfold Lib.bytesWorld World.freeze;split<;>rfl,by rw[Lib.bytesWorld_size];omega,fun i hi=>Lib.bytesWorld_at_old w 5 t i hi⟩⟩
def vB (s:ByteArray):Nat:=Dec.vD s.data.toList
def l8 (s:ByteArray):Prop:=Dec.isD s.data.toList
theorem aiy {s:ByteArray} (h:0<s.size):s.data.toList≠[]:=fun e=>by
 have e1:s.data.toList.length=s.size:=by rw[ak2];rfl
 rw[e]at e1;simp at e1;omega
def QB:PSp:=fun xs K=>match xs with
 | [.str s]=>VC (0<s.size∧s.size≤18∧l8 s)∧K (.tup [.int .i64 (vB s:Nat),.nili])
 |_=>False
theorem adU:POK Tryz.prog 228 QB:=by
 intro xs K hk;unfold QB at hk;split at hk
 ·obtain⟨h1,h2,h3⟩:=hk.1.get
  exact⟨_,hk.2,Uv _ h2 _ (Dec.atoi_dig (aiy h1) h3)⟩
 ·exact hk.elim
def bX (x:Nat):ByteArray:=⟨(Go.Lib.decDigits x).toArray⟩
theorem Uw (u:Nat) (hu:u<18446744073709551616):aD Tryz.prog 281 [.int .u64 u,.int .i64 10] (.str (bX u)):=by
 refine l6 (enters' Tryz.func281 qqR qqR) fun S w vs hg himm hA=>?_;obtain⟨v,t,rfl,h1,h2⟩:=uf hA;cases h1;cases h2
 refine⟨_,.str _ _,?_⟩;by_cases hs:u<100
 ·refine(Tryz.fmtUs u hs w).mono ?_
  rintro e w' ⟨rfl,rfl⟩
  exact⟨rfl,.refl _ _⟩
 ·refine(Tryz.fmtU u qqO hu w (FI hg)).mono ?_
  rintro e w' ⟨rfl,k,os,rfl⟩
  exact⟨rfl,Lib.below_grow _ _ (aku _) _ _⟩
def QC:PSp:=fun xs K=>match xs with
 | [.int .u64 u,.int .i64 b]=>VC (0≤u∧u<18446744073709551616∧b=10)∧K (.str (bX u.toNat))
 |_=>False
theorem adV:POK Tryz.prog 281 QC:=by
 intro xs K hk;unfold QC at hk;split at hk
 ·obtain⟨h1,h2,rfl⟩:=hk.1.get
  rename_i u;obtain⟨n,rfl⟩:=am4 h1;exact⟨_,hk.2,Uw n qqO⟩
 ·exact hk.elim
noncomputable def ajq:CPT:=aB 281 (aP QC) noC
theorem adW:bD Tryz.prog ajq:=au (aC adV) aG
theorem Ux (u b:Int) (h:0≤u∧u<18446744073709551616∧b=10):aD Tryz.prog 262 [.int .u64 u,.int .i64 b] (.str (bX u.toNat)):=by
 refine ay (md:=1) (rf:=[]) mixed av adW Tryz.func262 qqR qqR qqR ?_
 repeat'((conv=>whnf);first|(intro hq;(try simp only[vw]at hq);try exact ak hq)|apply aI|exact aj|apply nM|apply fM)
 all_goals((try apply vM);(try simp only[vq]at*);try omega)
 all_goals first|exact h|exact Sup.of rfl
def QD:PSp:=fun xs K=>match xs with
 | [.int .u64 u,.int .i64 b]=>VC (0≤u∧u<18446744073709551616∧b=10)∧K (.str (bX u.toNat))
 |_=>False
theorem adX:POK Tryz.prog 262 QD:=by
 intro xs K h;unfold QD at h;split at h
 ·exact⟨_,h.2,Ux _ _ h.1.get⟩
 ·exact h.elim
abbrev zC:ByteArray:=⟨#[48,49,50,51,52,53,54,55,56,57]⟩
def BK (s:ByteArray):ByteArray:=⟨(Go.Lib.trimS s.data.toList zC.data.toList).toArray⟩
theorem QE (s:ByteArray) (hs:s.size≤9223372036854775807):aD Tryz.prog 224 [.str s,.str zC] (.str (BK s)):=by
 refine fD (enters' Tryz.func224 qqR qqR) fun S w vs himm hA=>?_;rw[qg hA];refine⟨_,.str _ _,(Any.strings_Trim_laid Tryz.lays160 (by kernel_rfl) s zC w hs qqD (ascii_of_all qqD)).mono ?_⟩
 rintro e w' ⟨rfl,hB⟩
 exact⟨rfl,hB⟩
def Jy:PSp:=fun xs K=>match xs with
 | [.str s,.str d]=>VC (d=zC∧s.size≤9223372036854775807)∧K (.str (BK s))
 |_=>False
theorem X9:POK Tryz.prog 224 Jy:=by
 intro xs K hk;unfold Jy at hk;split at hk
 ·obtain⟨rfl,h⟩:=hk.1.get
  exact⟨_,hk.2,QE _ h⟩
 ·exact hk.elim
theorem Ya (s:ByteArray) (c:UInt8):aD Tryz.prog 249 [.str s,.str ⟨#[c]⟩] (.int .i64 (Go.Lib.indexByte s.data.toList c)):=by
 refine fD (enters' Tryz.func249 qqR qqR) fun S w vs himm hA=>?_;rw[qg hA];refine⟨_,.int _ _ _,(Tryz.stringslite_Index_one s c w).mono ?_⟩
 rintro e w' ⟨rfl,rfl⟩
 exact⟨rfl,.refl _ _⟩
def QF:CT:=fun args n H K=>match args with
 | [p,x]=>match p with
  |.rp k off=>match x with
   |.str s=>bR H k fun o=>match o with
    |.bld t e acc=>ifK (akM off 0&&akM t 272&&akM e 5) (VC (acc.size+s.size≤140737488355328)∧K (.tup [.int .i64 s.size,.nili]) [(k,.bld t e (acc++s))] [k] [])
    |_=>False
   |_=>False
  |_=>False
 |_=>False
def QG:CT:=fun args n H K=>match args with
 | [p]=>match p with
  |.rp k off=>bR H k fun o=>match o with
   |.bld t e acc=>ifK (akM off 0&&akM t 272&&akM e 5) (VC (0<acc.size)∧K (.str acc) [(k,.bld t e acc)] [k] [])
   |_=>False
  |_=>False
 |_=>False
theorem Ni {S:Imm} {w:World} {ι:Ix} {k b:Nat} {v:Value} (h:Rep S w ι (.rp k 0) v) (hb:ι.o k=some b):v=.pointer (some ⟨b,0,none⟩):=by
 cases h with
 |rp _ _ _ b' hk=>rw[hb]at hk;cases hk;rfl
theorem Yb {S:Imm} {w:World} {ι:Ix} {s:ByteArray} {v:Value} (h:Rep S w ι (.str s) v):v=.string s:=by cases h;rfl
theorem Yc:COK Tryz.prog 264 QF:=by
 intro args n H K hk;unfold QF at hk;split at hk
 ·split at hk
  ·rename_i k off
   split at hk
   ·rename_i s
    rw[bE]at hk;obtain⟨o,hob,hk⟩:=hk;split at hk
    ·rename_i t e acc
     simp only[aK,akQ]at hk;obtain⟨⟨⟨h1,h2⟩,h3⟩,⟨hsz⟩,hk⟩:=hk;have h1:=akR h1;have h2:=akR h2;have h3:=akR h3;subst h1;subst h2;subst h3;refine⟨_,_,_,[],hk,IX (enters' Tryz.func264 qqR qqR) hob fun S w ι vs b p v hr ho h0 hp hne hown=>?_⟩;obtain⟨v1,v2,rfl,r1,r2⟩:=uf hr;obtain rfl:=Ni r1 ho;obtain rfl:=Yb r2;refine(Uo (P:=Tryz.prog) (ρ:=Tryz.lays105_ren) {Tryz.lays105 with} Tryz.Builder_Extra_105 b p v acc s w h0 hp hne hown hsz).mono ?_
     rintro ex w' ⟨val,v',rfl,B,rfl⟩
     exact⟨_,v',rfl,B,fun S' ι'=>.tup _ _ _ rfl fun i hi=>by
      match i,hi with
      |0,_=>exact .int _ _ _
      |1,_=>exact .nili _⟩
    ·exact hk.elim
   ·exact hk.elim
  ·exact hk.elim
 ·exact hk.elim
theorem Yd:COK Tryz.prog 265 QG:=by
 intro args n H K hk;unfold QG at hk;split at hk
 ·split at hk
  ·rename_i k off
   rw[bE]at hk;obtain⟨o,hob,hk⟩:=hk;split at hk
   ·rename_i t e acc
    simp only[aK,akQ]at hk;obtain⟨⟨⟨h1,h2⟩,h3⟩,⟨hsz⟩,hk⟩:=hk;have h1:=akR h1;have h2:=akR h2;have h3:=akR h3;subst h1;subst h2;subst h3;refine⟨_,_,_,[],hk,IX (enters' Tryz.func265 qqR qqR) hob fun S w ι vs b p v hr ho h0 hp hne hown=>?_⟩;obtain⟨v1,rfl,r1⟩:=IY hr;obtain rfl:=Ni r1 ho;refine(Qw (P:=Tryz.prog) (ρ:=Tryz.lays105_ren) {Tryz.lays105 with} Tryz.Builder_Extra_105 b p v acc w h0 hp hne hown hsz).mono ?_
    rintro ex w' ⟨val,v',rfl,B,rfl⟩
    exact⟨_,v',rfl,B,fun S' ι'=>.str _ _⟩
   ·exact hk.elim
  ·exact hk.elim
 ·exact hk.elim
end Go.Eng.YtmkagljofpddpaaGreatDoor
namespace Go.Eng.YtmkagljofpddpaaGreatDoor
open Go.Proofs Go.Eng.Dig Go.Eng.Dec
set_option linter.unusedSimpArgs false
set_option linter.unusedVariables false
set_option maxHeartbeats 0
set_option maxRecDepth 100000
abbrev DD:Nat:=1000000000000000000
theorem DD2:2≤DD:=qqD
def ptS (x k:Nat):ByteArray:=if x / DD ^ (k+1)=0 then bX (x / DD ^ k)else⟨(kM 18 (x / DD ^ k % DD)).toArray⟩
def cS (x k:Nat):ByteArray:=if x / DD ^ k=0 then .empty else bX (x / DD ^ k)
theorem BL (a b:List UInt8):(⟨a.toArray⟩:ByteArray)++⟨b.toArray⟩=⟨(a++b).toArray⟩:=by
 apply ByteArray.ext;simp
theorem adY (x k:Nat) (h:x / DD ^ k≠0):cS x (k+1)++ptS x k=cS x k:=by
 unfold cS ptS;rw[if_neg h,xX];generalize x / DD ^ k=y at*
 by_cases hq:y / DD=0
 ·rw[if_pos hq,if_pos hq,ByteArray.empty_append]
 ·rw[if_neg hq,if_neg hq]
  unfold bX;have hm:=alb y DD;rw[akT]at hm;have h2:=FH (a:=y / DD) (ak9 hq) 18 (y % DD) (alc _ qqD);rw[BL,←h2];show(⟨(Go.Lib.decDigits (y / DD*DD+y % DD)).toArray⟩:ByteArray)=_;rw[hm]
theorem lK (x:Nat):(bX x).size=(Go.Lib.decDigits x).length:=by
 show(anT _).size=_;rw[anU]
theorem DF (x:Nat):(bX x).size≤20*Lw x+1:=by
 rw[lK];have h1:=qX x;have h2:W ^ Lw x≤10 ^ (20*Lw x):=by
  rw[anV];exact anW qqD _
 have h3:10 ^ (20*Lw x)≤10 ^ (20*Lw x+1):=amN qqO qqO;have:=uF (20*Lw x) x qqO;omega
theorem Nj {x:Nat} (h:x<DD):1≤(bX x).size∧(bX x).size≤18:=by
 rw[lK];exact⟨kS x,uF 17 x h⟩
abbrev kZe:ByteArray:=⟨#[48]⟩
abbrev kMi:ByteArray:=⟨#[45]⟩
abbrev kSl:ByteArray:=⟨#[47]⟩
theorem Uy {x k:Nat} (h:x / DD ^ (k+1)=0):ptS x k=bX (x / DD ^ k % DD):=by
 unfold ptS;rw[if_pos h];rw[xX]at h;rw[akX ((ane qqD).1 h)]
theorem adZ {x k:Nat} (h:x / DD ^ (k+1)≠0):ptS x k=DC kZe (18-(bX (x / DD ^ k % DD)).size)++bX (x / DD ^ k % DD):=by
 unfold ptS;rw[if_neg h,adP 17 _ (alc _ qqD),lK];unfold DC bX;rw[show(kZe:ByteArray).data.toList=[48]from rfl,wQ,BL]
theorem Nk (x k:Nat):(ptS x k).size≤18:=by
 by_cases h:x / DD ^ (k+1)=0
 ·rw[Uy h];exact(Nj (alc _ qqD)).2
 ·unfold ptS
  rw[if_neg h];show(anT _).size≤_;rw[anU,X3];exact aku _
def ptL (x k:Nat):List ByteArray:=(akE k).map (ptS x)
theorem ad1 (x k:Nat):(ptL x k).length=k:=by simp[ptL]
theorem Ye (x k:Nat):ptL x (k+1)=ptL x k++[ptS x k]:=by
 unfold ptL;rw[anX,anS];rfl
theorem ad3 {α:Type} (f:Nat→α) (d:α) {k i:Nat} (h:i<k):((akE k).map f).getD i d=f i:=by
 rw[akG,List.getElem?_map,List.getElem?_range h];rfl
theorem ad4 {x k i:Nat} (h:i<k):(ptL x k).getD i .empty=ptS x i:=by
 have e:ptL x k=(akE k).map (ptS x):=rfl;rw[e];exact ad3 (ptS x) ByteArray.empty h
def sgB (n:Int):ByteArray:=if n<0 then kMi else .empty
theorem nW (n:Int):itB n=sgB n++bX n.natAbs:=by
 unfold itB sgB Go.Lib.itoa bX;split
 ·have e:(kMi:ByteArray)=⟨([45]:List UInt8).toArray⟩:=rfl
  rw[e,BL,List.singleton_append]
 ·rw[ByteArray.empty_append,show n.toNat=n.natAbs by omega]
noncomputable def aiz:CPT:=aB 184 (aR mW) (aB 196 (aP GR) (aB 262 (aP QD) (aB 263 (aP QA) (aB 264 QF (aB 265 QG (aB 261 (aP Qx) noC))))))
theorem qj:bD Tryz.prog aiz:=au (aF lH) (au (aC M9) (au (aC adX) (au (aC adT) (au Yc (au Yd (au (aC adR) aG))))))
theorem Yf (a:NI) (ha:a.OK) (hLa:a.L≤500000000):aD Tryz.prog 235 [niV a] (.str (itB a.val)):=by
 refine Jk ha (fun h1 h2=>?_) (fun x h1 h2 h3 h4=>?_)
 ·rw[gF h1]
  refine ay (md:=1) (rf:=[2272]) mixed av qj Tryz.func235 qqR qqR qqR ?_
  repeat'((conv=>whnf);first|(intro hq;(try simp only[vw]at hq);try exact ak hq)|apply aI|exact aj|apply nM|apply fM)
  all_goals((try apply vM);(try simp only[vq]at*);try omega)
  all_goals first|exact h2|exact Sup.of rfl
 ·have ea:=gD h1
  obtain⟨na,na'⟩:=eX h2;have en:a.val.natAbs=x:=by rw[h4];split<;>omega
  have hs:a.s<0↔a.val<0:=NI.neg_iff ha;have hLx:Lw x≤500000000:=by rw[←en];exact hLa
  rw[nW,en];have hsg:sgB a.val=if a.s<0 then kMi else .empty:=by
   unfold sgB;by_cases h:a.val<0
   ·rw[if_pos h,if_pos (hs.2 h)]
   ·rw[if_neg h,if_neg (fun h'=>h (hs.1 h'))]
  rw[hsg];refine ay (md:=1) (rf:=[2272]) mixed av qj Tryz.func235 qqR qqR qqR ?_
  repeat'((conv=>whnf);first|(intro hq;(try simp only[vw]at hq);try exact ak hq)|apply aI|exact aj|apply nM|apply fM)
  all_goals((try apply vM);(try simp only[vq]at*);try omega)
  all_goals(try simp only[ea,en])
  all_goals first
   |exact na
   |exact ha
   |omega
   |skip
  have hN0:∀k,x / DD ^ k=0↔(dl DD x).length≤k:=fun k=>by
   constructor
   ·intro h
    exact Decidable.byContradiction fun hlt=>by
     obtain⟨m,hm⟩:∃m,(dl DD x).length=m+1:=⟨(dl DD x).length-1,qqO⟩;have h1:=qV DD2 x m hm;have h2:DD ^ k≤DD ^ m:=amN qqD qqO;have h3:=(ane (pw DD2 k)).1 h;omega
   ·intro h
    have h1:=fP DD2 x;have h2:DD ^ (dl DD x).length≤DD ^ k:=amN qqD h;exact akV qqO
  have hNl:(dl DD x).length≤1000000000:=by
   have h1:=qX x;have h2:W ^ Lw x≤DD ^ (2*Lw x):=by
    rw[anV];exact anW qqD _
   have:=lF DD2 (x:=x) (k:=2*Lw x) qqO;omega
  generalize(dl DD x).length=N at*
  have hDw:Dw [(1000000000000000000:Int)]:=by
   have:=bV 1000000000000000000;rw[nR W2 qqD qqD]at this;exact this
  have hvD:vw [(1000000000000000000:Int)]=DD:=by
   have:=dM 1000000000000000000;rw[nR W2 qqD qqD]at this;exact this
  conv=>whnf
  refine aV (X:=Nat) (fun k=>k≤N) (fun k=>[(4,.isl (wd (x / DD ^ k)) .none),(6,.isl (.strs (ptL x k)) (.own 3)),(7,.any),(8,.any),(9,.any),(27,.any),(30,.any)]) (fun k=>[(3,.tok 1 k)]) (fun k=>N-k) 0 ⟨aL,mixed,av,qj,aU⟩ qqR qqO ?_ ?_
  ·repeat'((conv=>whnf);first|intro _|apply aI|exact aj|apply nM|apply fM)
   all_goals((try apply vM);(try simp only[vq]at*);try omega)
   all_goals(rw[ang,alf])
  intro k hk;have hpl:=ad1 x k;have hLk:(dl W (x / DD ^ k)).length≤500000000:=aky (fq (anr _ _)) hLx;have hlen0:(dl W (x / DD ^ k)).length=0↔N≤k:=by rw[alY,gL W2];exact hN0 k
  by_cases hlt:k<N
  ·have hlen1:(dl W (x / DD ^ k)).length≠0:=fun h=>by have:=hlen0.1 h;omega
   have hQ:x / DD ^ k / DD=x / DD ^ (k+1):=(xX _ _ _).symm;have hps:=Ye x k;have hlo:= @Uy x k;have hhi:= @adZ x k;have hpt:=Nk x k;have hR:x / DD ^ k % DD<1000000000000000000:=alc _ qqD;have hQ0:(dl W (x / DD ^ k / DD)).length=0↔x / DD ^ (k+1)=0:=by rw[alY,gL W2,hQ]
   have hR0:(dl W (x / DD ^ k % DD)).length=0↔x / DD ^ k % DD=0:=by rw[alY,gL W2]
   have hg:(dl W (x / DD ^ k % DD)).getD (ana 0) 0=((x / DD ^ k % DD:Nat):Int):=by
    rw[show ana 0=0 from rfl,dz W2,ang,alf,akX];exact Nat.lt_trans hR qqD
   have hd18:=Nj (x:=x / DD ^ k % DD) hR;have e18:∀n:Nat,(18-(n:Int)).toNat=18-n:=fun n=>qqO;have hz0:bX 0=kZe:=by unfold bX;rw[dec_lt qqO];rfl
   have hzs:(kZe:ByteArray).size=1:=rfl;have hsz:∀n,(DC kZe n).size=n:=fun n=>by
    unfold DC;show(anT _).size=_;rw[anU,show(kZe:ByteArray).data.toList=[48]from rfl,wQ,List.length_replicate]
   generalize hr':x / DD ^ k % DD=r at*
   rw[hQ]at hQ0;have hvD':vl W [(1000000000000000000:Int)]=DD:=hvD;have hv':vl W (dl W (x / DD ^ k))=x / DD ^ k:=xW W2 _
   repeat'((conv=>whnf);first|(intro hq;(try simp only[vw]at hq);try exact ak hq)|apply aI|exact aj|apply nM|apply fM)
   all_goals((try apply vM);(try simp only[vq]at*);try omega)
   all_goals(try simp only[vw,hv',hvD',hr',hQ,hg,amI,e18,hsz,hzs,alQ,hpl,List.length_singleton])
   all_goals(try simp only[hv',hvD',hr',hQ]at*)
   all_goals first
    |omega
    |exact⟨bV _,hDw,qqO,qqO,qqS⟩
    |(refine⟨qqO,qqO,qqD⟩)
    |(rw[show(⟨#[48]⟩:ByteArray).size=1 from rfl];omega)
    |(refine⟨k+1,[],⟨qqO,qqO⟩,?_⟩
      repeat'((conv=>whnf);first|intro _|apply aI|exact aj|apply nM|apply fM)
      all_goals((try apply vM);(try simp only[vq]at*);try omega)
      all_goals first
       |rfl
       |(have h0:=hR0.1 qqO;rw[hps,hhi (fun h=>by have:=hQ0.2 h;omega),h0,hz0];done)
       |(have h0:=hR0.1 qqO;rw[hps,hhi (fun h=>by have:=hQ0.2 h;omega),h0,hz0];rfl)
       |(have h0:=hR0.1 qqO;rw[hps,hlo (hQ0.1 qqO),h0,hz0])
       |(rw[hps,hhi (fun h=>by have:=hQ0.2 h;omega)])
       |(rw[hps,hlo (hQ0.1 qqO)])
       )
  ·have hkN:k=N:=qqO
   subst hkN;have hlen1:=hlen0.2 (aku _);have hz272:Qf.zero.cells= #[Value.pointer none,Value.slice none 0 0]:=rfl;have hcN:cS x k=.empty:=by unfold cS;rw[if_pos ((hN0 k).2 (aku _))]
   have hc0:cS x 0=bX x:=by unfold cS;rw[ang,alf,if_neg qqO]
   have hcs:∀j,(cS x j).size≤100000000000:=fun j=>by
    unfold cS;split
    ·exact alq _
    ·have h1:=DF (x / DD ^ j)
     have h2:Lw (x / DD ^ j)≤Lw x:=fq (anr _ _);omega
   have hstep:∀j,j<k→cS x (j+1)++ptS x j=cS x j:=fun j hj=>adY x j (fun h=>by have:=(hN0 j).1 h;omega)
   have hpos:0<(bX x).size:=by rw[lK];exact kS x
   have hptz:=Nk x;have hptg:∀j,j<k→(ptL x k).getD j .empty=ptS x j:=fun j hj=>ad4 hj;by_cases hn:a.s<0
   ·rw[if_pos hn]
    repeat'((conv=>whnf);first|(intro hq;(try simp only[vw]at hq);try exact ak hq)|apply aI|exact aj|apply nM|apply fM)
    all_goals((try apply vM);(try simp only[vq]at*);try omega)
    all_goals first
     |exact hz272
     |decide
     |skip
    conv=>whnf
    refine aV (X:=Nat) (fun j=>j≤k) (fun j=>[(11,.int .i64 ((j:Int)-1)),(67,.any)]) (fun j=>[(20,.bld 272 5 (kMi++cS x j))]) (fun j=>j) k ⟨aL,mixed,av,qj,aU⟩ qqR qqO ?_ ?_
    ·rw[hcN]
     all_goals exact jT
    intro j hj;have hcj:=hcs j;have hsgz:(kMi:ByteArray).size≤1:=qqD;cases j with
    |zero=>
     all_goals exact EL
    |succ j=>
     have hcj1:=hcs (j+1);have hpj:=hptz j;have e1:=hptg j qqO;have e2:=hstep j qqO;rw[show((j+1:Nat):Int)-1=(j:Int) by omega]
     repeat'((conv=>whnf);first|(intro hq;(try simp only[vw]at hq);try exact ak hq)|apply aI|exact aj|apply nM|apply fM)
     all_goals((try apply vM);(try simp only[vq]at*);try omega)
     all_goals(try simp only[amI])
     all_goals(try rw[e1])
     all_goals first
      |omega
      |(rw[ByteArray.size_append];omega)
      |(rw[ByteArray.append_assoc,e2]
        refine⟨j,[],⟨qqO,qqO⟩,?_⟩;all_goals exact aW)
   ·rw[if_neg hn]
    repeat'((conv=>whnf);first|(intro hq;(try simp only[vw]at hq);try exact ak hq)|apply aI|exact aj|apply nM|apply fM)
    all_goals((try apply vM);(try simp only[vq]at*);try omega)
    all_goals first
     |exact hz272
     |decide
     |skip
    conv=>whnf
    refine aV (X:=Nat) (fun j=>j≤k) (fun j=>[(11,.int .i64 ((j:Int)-1)),(67,.any)]) (fun j=>[(20,.bld 272 5 (ByteArray.empty++cS x j))]) (fun j=>j) k ⟨aL,mixed,av,qj,aU⟩ qqR qqO ?_ ?_
    ·rw[hcN]
     all_goals exact jT
    intro j hj;have hcj:=hcs j;have hsgz:(ByteArray.empty:ByteArray).size≤1:=qqD;cases j with
    |zero=>
     all_goals exact EL
    |succ j=>
     have hcj1:=hcs (j+1);have hpj:=hptz j;have e1:=hptg j qqO;have e2:=hstep j qqO;rw[show((j+1:Nat):Int)-1=(j:Int) by omega]
     repeat'((conv=>whnf);first|(intro hq;(try simp only[vw]at hq);try exact ak hq)|apply aI|exact aj|apply nM|apply fM)
     all_goals((try apply vM);(try simp only[vq]at*);try omega)
     all_goals(try simp only[amI])
     all_goals(try rw[e1])
     all_goals first
      |omega
      |(rw[ByteArray.size_append];omega)
      |(rw[ByteArray.append_assoc,e2]
        refine⟨j,[],⟨qqO,qqO⟩,?_⟩;all_goals exact aW)
def QI:PSp:=fun xs K=>match xs with| [p]=>ni1 p fun a=>VC (a.OK∧a.L≤500000000)∧K (.str (itB a.val))|_=>False
theorem Nl:POK Tryz.prog 235 QI:=uw (C:=fun a=>a.OK∧a.L≤500000000) (r:=fun a=>.str (itB a.val)) fun a h=>Yf a h.1 h.2
def tlB (l:List UInt8) (i:Nat):ByteArray:=⟨(l.drop i).toArray⟩
theorem oQ (s:ByteArray):(⟨s.data.toList.toArray⟩:ByteArray)=s:=by cases s;simp
theorem ext_list (s:ByteArray) (a b:Nat):(s.extract a b).data.toList=(s.data.toList.drop a).take (b-a):=by
 rw[ByteArray.data_extract];simp[Array.toList_extract,List.extract_eq_take_drop]
theorem ext_eq (s:ByteArray) (a b:Nat):s.extract a b=⟨((s.data.toList.drop a).take (b-a)).toArray⟩:=by
 rw[←ext_list,oQ]
theorem Jz (l:List UInt8) (i:Nat):(tlB l i).size=l.length-i:=by
 show(anT _).size=_;simp
theorem Yg (l:List UInt8) (i n:Nat):(tlB l i).extract 0 n=⟨((l.drop i).take n).toArray⟩:=by
 rw[ext_eq];simp[tlB]
theorem Yh (l:List UInt8) (i n:Nat):(tlB l i).extract n (tlB l i).size=tlB l (i+n):=by
 rw[ext_eq,Jz];unfold tlB;congr 1;rw[anY,anZ (by simp;omega)]
def rdI (s:ByteArray):Int:=if preB s kMi then-(vB (dR s kMi):Int)else(vB (dR s kMi):Int)
theorem JA {l:List UInt8} (h:isD l) (n:Nat):isD (l.take n):=fun b hb=>h b (List.mem_of_mem_take hb)
theorem Yi {l:List UInt8} (h:isD l) (n:Nat):isD (l.drop n):=fun b hb=>h b (List.mem_of_mem_drop hb)
theorem QJ {l:List UInt8} (h:isD l):vD l<10 ^ l.length:=by
 induction l with
 |nil=>simp[vD]
 |cons b r ih=>
  have hb:=h b qqS;have hr:=ih fun c hc=>h c (amm _ hc);have e:vD (b::r)=vD [b]*10 ^ r.length+vD r:=BJ [b] r;rw[e,wP,akq,amx];have h1:(b.toNat-48+1)*10 ^ r.length≤10*10 ^ r.length:=Nat.mul_le_mul_right _ qqO;rw[ak7]at h1;omega
theorem ajr {l:List UInt8} (h:isD l):Lw (vD l)≤l.length:=by
 refine qW (akv (QJ h) ?_);exact anW qqD _
noncomputable def ajs:CPT:=aB 226 (aP X7) (aB 227 (aP Qy) (aB 228 (aP QB) (aB 108 (aR ofP) (aB 229 (aR Jv) (aB 110 (aR uD) (aB 109 (aR Dr) (aB 201 (aR zy) noC)))))))
theorem Nn:bD Tryz.prog ajs:=au (aC ag8) (au (aC Us) (au (aC adU) (au (aF oC) (au (aF XY) (au (aF oP) (au (aF wN) (au (aF rV) aG)))))))
theorem Uz (s:ByteArray) (hs:s.size≤1000000000) (hd:l8 (dR s kMi)):aD Tryz.prog 179 [.str s] (niV (nrm (rdI s))):=by
 have hcs:(dR s kMi).size≤1000000000:=by
  have e1:s.size=s.data.toList.length:=by rw[ak2];rfl
  have e2:(dR s kMi).size=(Go.Lib.trimPrefix s.data.toList (kMi:ByteArray).data.toList).length:=by
   show(anT _).size=_;rw[anU]
  rw[e2];unfold Go.Lib.trimPrefix;split
  ·rw[alO];omega
  ·omega
 unfold rdI vB;unfold l8 at hd;have el:dR s kMi=tlB (dR s kMi).data.toList 0:=by unfold tlB;rw[an0,oQ]
 have ell:(dR s kMi).data.toList.length=(dR s kMi).size:=by rw[ak2];rfl
 rw[←ell]at hcs;generalize hl:(dR s kMi).data.toList=l at*
 refine ay (md:=1) (rf:=[]) mixed av Nn Tryz.func179 qqR qqR qqR ?_
 repeat'((conv=>whnf);first|(intro hq;(try simp only[vw]at hq);try exact ak hq)|apply aI|exact aj|apply nM|apply fM)
 all_goals((try apply vM);(try simp only[vq]at*);try omega)
 conv=>whnf
 refine aV (X:=Nat) (fun i=>i≤l.length) (fun i=>[(0,.str (tlB l i)),(5,.any),(6,.any),(7,.any),(19,.any),(23,.any)]) (fun i=>[(9,.cells (.pv [.int .i64 (nr (vD (l.take i))).s,.nnl (.ints .u64 (nr (vD (l.take i))).w)]) false)]) (fun i=>l.length-i) 0 ⟨aL,mixed,av,Nn,aU⟩ qqR qqO ?_ ?_
 ·have e0:nr (vD (l.take 0))=⟨0,[]⟩:=iK (by rw[List.take_zero];simp[vD])
  rw[e0]
  repeat'((conv=>whnf);first|intro _|apply aI|exact aj|apply nM|apply fM)
  all_goals((try apply vM);(try simp only[vq]at*);try omega)
  all_goals first|exact congrArg PV.str el|exact el
 intro i hi;have hz:=Jz l i;have hL:∀j,(nr (vD (l.take j))).L≤1000000000:=fun j=>by
  rw[NI.L_nrm];refine aky (ajr (JA hd j)) ?_;rw[alm];omega
 by_cases hlt:i<l.length
 ·obtain⟨n,hn,hn1⟩:∃n:Nat,min (18:Int) ((tlB l i).size:Int)=(n:Int)∧n=min 18 (l.length-i):=⟨min 18 (l.length-i),qqO,rfl⟩
  rw[hz]at hn;have htl:(tlB l i).extract n (l.length-i)=tlB l (i+n):=by rw[←hz];exact Yh l i n
  have hdn:isD ((l.drop i).take n):=JA (Yi hd i) n;have hln:((l.drop i).take n).length=n:=by rw[alm,alO];omega
  have hv:=QJ hdn;rw[hln]at hv;have h18:10 ^ n≤10 ^ 18:=amN qqO qqO;have hap:l.take (i+n)=l.take i++(l.drop i).take n:=by rw[List.take_add]
  have hnext:vD (l.take (i+n))=vD (l.take i)*10 ^ n+vD ((l.drop i).take n):=by rw[hap,BJ,hln]
  have hsn:(⟨((l.drop i).take n).toArray⟩:ByteArray).size=n:=by
   show(anT _).size=_;rw[anU,hln]
  have hvn:vB ⟨((l.drop i).take n).toArray⟩=vD ((l.drop i).take n):=by unfold vB;simp
  have hin:l8 ⟨((l.drop i).take n).toArray⟩:=by unfold l8;simpa using hdn
  have hp10:(nr (10 ^ n)).L≤1000000000:=by
   rw[NI.L_nrm];exact aky (nT (Uh n qqO)) qqD
  generalize hvv:vD ((l.drop i).take n)=v at*
  have hmul:nrm ((nr (vD (l.take i))).val*(nr (10 ^ n)).val)=nr (vD (l.take i)*10 ^ n):=by
   rw[bg,bg,←Int.natCast_mul]
  have hmL:(nr (vD (l.take i)*10 ^ n)).L≤100000000000:=by
   rw[NI.L_nrm];have h1:=nS (vD (l.take i)) (10 ^ n);have h2:=hL i;rw[NI.L_nrm]at h2 hp10;show Lw (vD (l.take i)*10 ^ n)≤_;have h3:Lw (vD (l.take i))≤1000000000:=h2;have h4:Lw (10 ^ n)≤1000000000:=hp10;omega
  have hadd:addN (nr (vD (l.take i)*10 ^ n)) ⟨(v:Int),[]⟩=nr (vD (l.take (i+n))):=by
   rw[Ju,bg,NI.val_sm,hnext,←Int.natCast_add];rw[bg,NI.val_sm];omega
  have hvo:(NI.OK ⟨(v:Int),[]⟩):=.inl ⟨rfl,by unfold smI;simp only;omega⟩
  have hvL:(NI.L ⟨(v:Int),[]⟩)≤100000000000:=by
   unfold NI.L;rw[NI.val_sm];exact aky (nT qqO) qqD
  repeat'((conv=>whnf);first|(intro hq;(try simp only[vw]at hq);try exact ak hq)|apply aI|exact aj|apply nM|apply fM)
  all_goals((try apply vM);(try simp only[vq]at*);try omega)
  all_goals(try simp only[hz,hn,amI,Yg,htl,hsn,hvn,dI,hmul,hadd])
  all_goals first
   |omega
   |exact⟨qqO,qqO,hin⟩
   |exact⟨rfl,qqO,qqO⟩
   |exact⟨bO _,bO _,aky (hL i) qqD,aky hp10 qqD⟩
   |exact⟨bO _,hvo,hmL,hvL⟩
   |(refine⟨i+n,[],⟨qqO,qqO⟩,?_⟩
     all_goals exact aW)
 ·have hil:i=l.length:=qqO
  subst hil;have hlL:=hL l.length;rw[amJ]at hlL⊢;by_cases hpre:preB s kMi=true
  ·rw[if_pos hpre]
   repeat'((conv=>whnf);first|(intro hq;(try simp only[vw]at hq);try exact ak hq)|apply aI|exact aj|apply nM|apply fM)
   all_goals((try apply vM);(try simp only[vq]at*);try omega)
   all_goals(try simp only[dI,bg])
   all_goals first
    |exact⟨bO _,aky hlL qqD⟩
    |exact Sup.of rfl
    |(exfalso;simp_all;done)
  ·rw[if_neg hpre]
   repeat'((conv=>whnf);first|(intro hq;(try simp only[vw]at hq);try exact ak hq)|apply aI|exact aj|apply nM|apply fM)
   all_goals((try apply vM);(try simp only[vq]at*);try omega)
   all_goals first
    |exact Sup.of rfl
    |(exfalso;simp_all;done)
end Go.Eng.YtmkagljofpddpaaGreatDoor
namespace Go.Eng.YtmkagljofpddpaaGreatDoor
open Go.Eng.Dig
set_option linter.unusedSimpArgs false
set_option linter.unusedVariables false
def RL (q:Rat):Nat:=max (Lw q.num.natAbs) (Lw q.den)
theorem norm_le (n:Int) (d:Nat) (h:d≠0):(Rat.normalize n d h).num.natAbs≤n.natAbs∧(Rat.normalize n d h).den≤d:=by
 rw[Rat.normalize_eq];refine⟨?_,anr _ _⟩;simp only;have h1:n / ((n.natAbs.gcd d:Nat):Int)=n.tdiv ((n.natAbs.gcd d:Nat):Int):=by
  rw[Int.tdiv_eq_ediv_of_dvd];exact an1.2 (an2 _ _)
 rw[h1,Int.natAbs_tdiv];exact anr _ _
theorem oU {n:Int} {d:Nat} (h:d≠0) {k:Nat} (h1:Lw n.natAbs≤k) (h2:Lw d≤k):RL (Rat.normalize n d h)≤k:=by
 obtain⟨g1,g2⟩:=norm_le n d h;have:=fq g1;have:=fq g2;unfold RL;omega
theorem Np (a b:Int):Lw (a+b).natAbs≤max (Lw a.natAbs) (Lw b.natAbs)+1:=
 aky (fq (Int.natAbs_add_le a b)) (TR _ _)
theorem UA (p q:Rat):RL (p+q)≤RL p+RL q+1:=by
 rw[Rat.add_def];have a1:=nS p.num.natAbs q.den;have a2:=nS q.num.natAbs p.den;have a3:=nS p.den q.den;refine oU _ ?_ ?_
 ·refine aky (Np _ _) ?_
  rw[an3,an3,an4,an4];unfold RL;omega
 ·unfold RL
  omega
theorem ag9 (p q:Rat):RL (p*q)≤RL p+RL q:=by
 rw[Rat.mul_def];have a1:=nS p.num.natAbs q.num.natAbs;have a3:=nS p.den q.den;refine oU _ ?_ ?_
 ·rw[an3]
  unfold RL;omega
 ·unfold RL
  omega
theorem JB (q:Rat):RL (-q)=RL q:=by
 unfold RL;rw[Rat.neg_num,Rat.neg_den,anl]
theorem aha (p q:Rat):RL (p-q)≤RL p+RL q+1:=by
 rw[Rat.sub_eq_add_neg];have:=UA p (-q);rw[JB]at this;exact this
theorem JC (q:Rat):Lw q.num.natAbs≤RL q:=by unfold RL;omega
theorem JD (q:Rat):Lw q.den≤RL q:=by unfold RL;omega
theorem ahb (q:Rat):RL q⁻¹≤RL q:=by
 rw[Rat.inv_def];by_cases h:q.num=0
 ·rw[h,Rat.divInt_zero]
  have:RL 0≤RL q:=by
   unfold RL;have h1:Lw (0:Rat).den≤Lw q.den:=fq (by have:=q.den_nz;show 1≤q.den;omega)
   have h2:Lw (0:Rat).num.natAbs=0:=rfl;omega
  exact this
 ·rcases an5 h with hn|hp
  ·obtain⟨m,hm⟩:∃m:Nat,q.num= -(m:Int):=⟨q.num.natAbs,qqO⟩
   rw[hm,←Rat.neg_divInt_neg,Int.neg_neg,Rat.divInt_ofNat,Rat.mkRat_def,dif_neg qqO];refine oU _ ?_ ?_
   ·rw[anl,an4];exact JD q
   ·have:=JC q;rw[hm]at this;simpa using this
  ·obtain⟨m,hm⟩:∃m:Nat,q.num=(m:Int):=⟨q.num.natAbs,qqO⟩
   rw[hm,Rat.divInt_ofNat,Rat.mkRat_def,dif_neg qqO];refine oU _ ?_ ?_
   ·rw[an4];exact JD q
   ·have:=JC q;rw[hm]at this;simpa using this
end Go.Eng.YtmkagljofpddpaaGreatDoor
namespace Go.Eng.YtmkagljofpddpaaGreatDoor
open Go.Proofs Go.Eng.Dig Go.Eng.Dec
set_option linter.unusedSimpArgs false
set_option linter.unusedVariables false
structure Fr where
 n:NI
 d:NI
abbrev frV (a:Fr):PV:=.agg [.int .i64 a.n.s,.nnl (.ints .u64 a.n.w),.int .i64 a.d.s,.nnl (.ints .u64 a.d.w)]
structure Fr.OK (a:Fr):Prop where
 n:a.n.OK
 d:a.d.OK
 pos:0<a.d.val
 red:Nat.Coprime a.n.val.natAbs a.d.val.natAbs
def Fr.val (a:Fr):Rat:=Rat.divInt a.n.val a.d.val
theorem Fr.num {a:Fr} (h:a.OK):a.val.num=a.n.val:=by
 unfold Fr.val;rw[Rat.num_divInt,an6 h.pos,an7];have:a.d.val.gcd a.n.val=1:=by
  unfold an8;rw[anM];exact h.red
 rw[this];simp
theorem Fr.den {a:Fr} (h:a.OK):(a.val.den:Int)=a.d.val:=by
 unfold Fr.val;have hp:=h.pos;rw[Rat.den_divInt,if_neg qqO];have:a.d.val.gcd a.n.val=1:=by
  unfold an8;rw[anM];exact h.red
 rw[this,alf];omega
theorem Fr.d_nr {a:Fr} (h:a.OK):a.d=nr a.val.den:=by
 have h1:=Fr.den h;have h2:=h.pos;rw[Jj h.d qqO];show nrm _=nrm _;rw[h1]
def can (q:Rat):Fr:=⟨nrm q.num,nr q.den⟩
theorem dS (q:Rat):(can q).val=q:=by
 unfold Fr.val can;rw[bg,bg];exact Rat.num_divInt_den q
theorem den_pos (q:Rat):0<q.den:=ak9 q.den_nz
theorem dY (q:Rat):(can q).OK:=by
 refine⟨bO _,bO _,?_,?_⟩
 ·show 0<(nrm _).val
  rw[bg];have:=den_pos q;omega
 ·show Nat.Coprime (nrm _).val.natAbs (nrm _).val.natAbs
  rw[bg,bg];exact q.reduced
def Fr.L (a:Fr):Nat:=RL a.val
theorem Fr.nL {a:Fr} (h:a.OK):a.n.L≤a.L:=by
 unfold NI.L Fr.L;rw[←Fr.num h];exact JC _
theorem Fr.dL {a:Fr} (h:a.OK):a.d.L≤a.L:=by
 unfold NI.L Fr.L;rw[←Fr.den h];exact JD _
theorem l9 (q:Rat):(can q).L=RL q:=by unfold Fr.L;rw[dS]
def fJ (a b:NI):Fr:=if b.val=1 then⟨a,b⟩else can (Rat.divInt a.val b.val)
theorem kD (n:Int):(Rat.divInt n 1).num=n∧(Rat.divInt n 1).den=1:=by
 rw[Rat.num_divInt,Rat.den_divInt,if_neg qqO];simp
theorem FJ {a b:NI}:(fJ a b).val=Rat.divInt a.val b.val:=by
 unfold fJ;split
 ·rfl
 ·exact dS _
theorem Yj {a b:NI} (ha:a.OK) (hb:b.OK):(fJ a b).OK:=by
 unfold fJ;split
 ·rename_i h
  refine⟨ha,hb,by show 0<b.val;omega,?_⟩
  show Nat.Coprime a.val.natAbs b.val.natAbs;rw[h];exact an9 _
 ·exact dY _
theorem JE {b:NI} (hb:b.OK) (h:b.val=1):b=fI:=by
 rw[Jj hb qqO,h];exact iK qqO
theorem QK {b:NI} (hb:b.OK):(b.w=[]∧b.s=1)↔b.val=1:=by
 constructor
 ·rintro⟨h1,h2⟩
  rw[gF h1,h2]
 ·intro h
  rw[JE hb h];exact⟨rfl,rfl⟩
theorem Nq {a b:Int} (hb:0<b):(Rat.divInt a b).num=a / ((anL a.natAbs b.natAbs:Nat):Int)∧((Rat.divInt a b).den:Int)=b / ((anL a.natAbs b.natAbs:Nat):Int):=by
 rw[Rat.num_divInt,Rat.den_divInt,if_neg qqO,an6 hb,an7];have e:b.gcd a=anL a.natAbs b.natAbs:=by unfold an8;exact anM _ _
 rw[e];refine⟨rfl,?_⟩;rw[Int.natCast_ediv,show((b.natAbs:Nat):Int)=b by omega]
theorem Yk {a b:NI} (hb:0<b.val) (h1:b.val≠1):(⟨nrm (a.val / ((anL a.val.natAbs b.val.natAbs:Nat):Int)),nrm (b.val / ((anL a.val.natAbs b.val.natAbs:Nat):Int))⟩:Fr)=fJ a b:=by
 unfold fJ can;rw[if_neg h1];obtain⟨e1,e2⟩:=Nq (a:=a.val) hb;rw[←e1,←e2]
theorem zD (a b:Int):Rat.divInt (-a) (-b)=Rat.divInt a b:=Rat.neg_divInt_neg a b
theorem Yl {a b:NI} (hb:b.val<0) (h1:b.val≠ -1):(⟨nrm (-a.val / ((anL a.val.natAbs b.val.natAbs:Nat):Int)),nrm (-b.val / ((anL a.val.natAbs b.val.natAbs:Nat):Int))⟩:Fr)=fJ a b:=by
 unfold fJ can;rw[if_neg qqO];obtain⟨e1,e2⟩:=Nq (a:= -a.val) (b:= -b.val) qqO;rw[zD,anl,anl]at e1 e2;rw[←e1,←e2]
theorem ad5 {a b:NI} (hb:b.val= -1):(⟨nrm (-a.val),nrm 1⟩:Fr)=fJ a b:=by
 unfold fJ can;rw[if_neg qqO,←zD,hb];show _=(⟨nrm (Rat.divInt (-a.val) 1).num,nr (Rat.divInt (-a.val) 1).den⟩:Fr);rw[(kD _).1,(kD _).2];rfl
theorem UC {a b:Int} (hb:b≠0) {k:Nat} (h1:Lw a.natAbs≤k) (h2:Lw b.natAbs≤k):RL (Rat.divInt a b)≤k:=by
 rcases an5 hb with h|h
 ·rw[←zD]
  obtain⟨m,hm⟩:∃m:Nat,-b=(m:Int):=⟨b.natAbs,qqO⟩;rw[hm,Rat.divInt_ofNat,Rat.mkRat_def,dif_neg qqO];exact oU _ (by rw[anl];exact h1) (by rw[show m=b.natAbs by omega];exact h2)
 ·obtain⟨m,hm⟩:∃m:Nat,b=(m:Int):=⟨b.natAbs,qqO⟩
  rw[hm,Rat.divInt_ofNat,Rat.mkRat_def,dif_neg qqO];exact oU _ h1 (by rw[show m=b.natAbs by omega];exact h2)
theorem ad6 {a:Fr} (h:a.OK):(⟨nrm (-a.n.val),a.d⟩:Fr)=can (-a.val):=by
 unfold can;rw[Rat.neg_num,Rat.neg_den,Fr.num h,←Fr.d_nr h]
def kN (a b:Fr):Fr:=if a.d.val=1∧b.d.val=1 then⟨addN a.n b.n,fI⟩else can (a.val+b.val)
def iB (a b:Fr):Fr:=kN a (can (-b.val))
theorem zF {a b:Fr} (ha:a.OK) (hb:b.OK):(kN a b).val=a.val+b.val:=by
 unfold kN;split
 ·rename_i h
  unfold Fr.val;simp only;rw[uz,Jt,h.1,h.2,Rat.divInt_add_divInt _ _ qqO qqO];simp
 ·exact dS _
theorem Nr {a b:Fr} (ha:a.OK) (hb:b.OK):(kN a b).OK:=by
 unfold kN;split
 ·refine⟨Dp _ _,Dz,by show 0<fI.val;rw[Jt];decide,?_⟩
  exact an9 _
 ·exact dY _
theorem zG {a b:Fr} (ha:a.OK) (hb:b.OK):(iB a b).val=a.val-b.val:=by
 unfold iB;rw[zF ha (dY _),dS,Rat.sub_eq_add_neg]
theorem Ns {a b:Fr} (ha:a.OK) (hb:b.OK):(iB a b).OK:=Nr ha (dY _)
theorem Ym {a b:Fr} (ha:a.OK) (hb:b.OK) (h:¬(a.d.val=1∧b.d.val=1)):fJ (addN (nrm (a.n.val*b.d.val)) (nrm (b.n.val*a.d.val))) (nrm (a.d.val*b.d.val))=kN a b:=by
 have h1:=ha.pos;have h2:=hb.pos;have hne:a.d.val*b.d.val≠1:=fun e=>h (by
  exact⟨Int.eq_one_of_mul_eq_one_right qqO e,Int.eq_one_of_mul_eq_one_left qqO e⟩)
 unfold kN fJ;rw[if_neg h,bg,if_neg hne,uz,bg,bg];unfold Fr.val;rw[Rat.divInt_add_divInt _ _ qqO qqO]
theorem Yn {a b:Fr} (ha:a.OK) (hb:b.OK):fJ (nrm (a.n.val*b.n.val)) (nrm (a.d.val*b.d.val))=can (a.val*b.val):=by
 have h1:=ha.pos;have h2:=hb.pos;have hv:a.val*b.val=Rat.divInt (a.n.val*b.n.val) (a.d.val*b.d.val):=by
  unfold Fr.val;rw[Rat.divInt_mul_divInt]
 unfold fJ;rw[bg,bg];split
 ·rename_i e
  rw[hv,e];unfold can;rw[(kD _).1,(kD _).2];rfl
 ·rw[hv]
theorem Yo {a:Fr} (ha:a.OK) (h0:a.val≠0):fJ a.d a.n=can (a.val⁻¹):=by
 have hn:a.n.val≠0:=fun e=>h0 (by rw[←Rat.num_eq_zero,Fr.num ha,e])
 have hv:a.val⁻¹=Rat.divInt a.d.val a.n.val:=by rw[Rat.inv_def,Fr.num ha,Fr.den ha]
 unfold fJ;split
 ·rename_i e
  rw[hv,e];unfold can;rw[(kD _).1,(kD _).2];have:=JE ha.n e;have h3:=Fr.den ha;have h4:=Fr.d_nr ha;rw[this,←h3];show(⟨a.d,fI⟩:Fr)=⟨nr a.val.den,nrm 1⟩;rw[←h4,iK qqO];rfl
 ·rw[hv]
def txQ (q:Rat):ByteArray:=if q.den=1 then itB q.num else itB q.num++kSl++bX q.den
end Go.Eng.YtmkagljofpddpaaGreatDoor
namespace Go.Eng.YtmkagljofpddpaaGreatDoor
open Go.Proofs Go.Eng.Dig Go.Eng.Dec
set_option linter.unusedSimpArgs false
set_option linter.unusedVariables false
set_option maxHeartbeats 0
set_option maxRecDepth 100000
def GU:PSp:=fun xs K=>match xs with
 | [.str s]=>VC (s.size≤1000000000∧l8 (dR s kMi))∧K (niV (nrm (rdI s)))
 |_=>False
theorem Nt:POK Tryz.prog 179 GU:=by
 intro xs K hk;unfold GU at hk;split at hk
 ·exact⟨_,hk.2,Uz _ hk.1.get.1 hk.1.get.2⟩
 ·exact hk.elim
def lgI (v:Int):Bool:=decide (600<(bX v.natAbs).size)
set_option exponentiation.threshold 4000 in
theorem ad7 {x:Nat} (h:qY x≤1800):(bX x).size≤600:=by
 have h1:=X0 x;have h2:2 ^ qY x≤2 ^ 1800:=amN qqO h;have h3:2 ^ (3*600)=(2 ^ 3) ^ 600:=anV 2 3 600;have h4:(2 ^ 3) ^ 600<10 ^ 600:=Nat.pow_lt_pow_left qqD qqD;rw[lK];refine uF 599 x ?_;rw[show 1800=3*600 from rfl,h3]at h2;exact akv h1 (Nat.le_of_lt (Nat.lt_of_le_of_lt h2 h4))
theorem wS (x:Nat):preB (bX x) kMi=false:=by
 unfold preB bX Go.Lib.hasPrefix;obtain⟨b,r,e⟩:∃b r,Go.Lib.decDigits x=b::r:=by
  have:=kS x;cases h:Go.Lib.decDigits x with
  |nil=>rw[h]at this;simp at this
  |cons b r=>exact⟨b,r,rfl⟩
 have hb:=yu x b (by rw[e];simp)
 simp only[e];show aoa [45] (b::r)=false;simp only[aoa,Bool.and_true,beq_eq_false_iff_ne];intro h;subst h;simp at hb
theorem yw (v:Int):dR (itB v) kMi=bX v.natAbs:=by
 rw[nW];unfold sgB;split
 ·unfold dR Go.Lib.trimPrefix
  have e:(kMi++bX v.natAbs).data.toList=45::Go.Lib.decDigits v.natAbs:=by
   unfold bX;rw[show(kMi:ByteArray)=⟨([45]:List UInt8).toArray⟩from rfl,BL];rfl
  rw[e];rfl
 ·rw[ByteArray.empty_append]
  have:=wS v.natAbs;unfold preB at this;unfold dR Go.Lib.trimPrefix;rw[this];exact oQ _
theorem Yp {b c:Bool} (h:b=c):Sup (.bool b) (.bp c):=⟨fun hr=>by subst h;cases hr;exact .bp _ _⟩
noncomputable def ajt:CPT:=aB 260 (aR abg) (aB 235 (aR QI) (aB 227 (aP Qy) noC))
theorem ad8:bD Tryz.prog ajt:=au (aF adO) (au (aF Nl) (au (aC Us) aG))
theorem UD (a:NI) (ha:a.OK) (hLa:a.L≤500000000):aD Tryz.prog 234 [niV a] (.bp (lgI a.val)):=by
 unfold lgI;have hb:= @ad7 a.val.natAbs;have hc:=yw a.val;refine ay (md:=1) (rf:=[]) mixed av ad8 Tryz.func234 qqR qqR qqR ?_
 repeat'((conv=>whnf);first|(intro hq;(try simp only[vw]at hq);try exact ak hq)|apply aI|exact aj|apply nM|apply fM)
 all_goals((try apply vM);(try simp only[vq]at*);try omega)
 all_goals(try simp only[dI,hc])
 all_goals first
  |exact⟨ha,aky hLa qqD⟩
  |exact⟨ha,hLa⟩
  |(refine Sup.of (congrArg PV.bp ?_);simp;omega)
  |(refine Sup.of (congrArg PV.bp ?_);rw[decide_eq_decide];omega)
  |(refine Yp (Eq.symm (decide_eq_false ?_));have:=hb (by simp only[dI]at hq;omega);omega)
def abh:PSp:=fun xs K=>match xs with| [p]=>ni1 p fun a=>VC (a.OK∧a.L≤500000000)∧K (.bp (lgI a.val))|_=>False
theorem ad9:POK Tryz.prog 234 abh:=uw (C:=fun a=>a.OK∧a.L≤500000000) (r:=fun a=>.bp (lgI a.val)) fun a h=>UD a h.1 h.2
def nw (p:PV) (K:List Int→Prop):Prop:=match p with
 |.nnl (.ints .u64 l)=>K l
 |.nils=>K []
 |.isl (.ints .u64 l) .none=>VC (l≠[])∧K l
 |_=>False
theorem UE {p:PV} {K:List Int→Prop} (h:nw p K):∃l,K l∧∀(S:Imm) (w:World) (v:Value),Rep S w noI p v→Rep S w noI (.nnl (.ints .u64 l)) v:=by
 unfold nw at h;split at h
 ·exact⟨_,h,fun _ _ _ h=>h⟩
 ·exact⟨_,h,fun _ _ _ h=>by cases h;exact .nnl0 _ _ rfl⟩
 ·rename_i l
  refine⟨_,h.2,fun S w v hv=>?_⟩;have h0:0<l.length:=anj.2 h.1.get;cases hv with
  |islnil _ _ _ h=>exact absurd h (Nat.ne_of_gt h0)
  |isl _ _ _ b off cap hc hs hh hf ho=>exact .nnl1 _ _ b off cap h0 hc hs hh
 ·exact h.elim
def fr1 (p:PV) (K:Fr→Prop):Prop:=match p with
 |.agg [.int .i64 s,x,.int .i64 t,y]=>nw x fun l=>nw y fun m=>K ⟨⟨s,l⟩,⟨t,m⟩⟩
 |_=>False
theorem oV {p:PV} {K:Fr→Prop} (h:fr1 p K):∃a,K a∧∀(S:Imm) (w:World) (v:Value),Rep S w noI p v→Rep S w noI (frV a) v:=by
 unfold fr1 at h;split at h
 ·rename_i s x t y
  obtain⟨l,h,hl⟩:=UE h;obtain⟨m,h,hm⟩:=UE h;refine⟨_,h,fun S w v hr=>?_⟩;cases hr with
  |agg _ _ vs hn hh=>
   refine .agg _ _ vs hn fun i hi=>?_
   match i,hi with
   |0,_=>exact hh 0 qqS
   |1,_=>exact hl _ _ _ (hh 1 qqS)
   |2,_=>exact hh 2 qqS
   |3,_=>exact hm _ _ _ (hh 3 qqS)
 ·exact h.elim
theorem zH {g:FuncId} {C:Fr→Prop} {r:Fr→PV} (h:∀a,C a→aD Tryz.prog g [frV a] (r a)):POK Tryz.prog g (fun xs K=>match xs with| [p]=>fr1 p fun a=>VC (C a)∧K (r a)|_=>False):=by
 intro xs K hk;split at hk
 ·obtain⟨a,⟨h1,h2⟩,h3⟩:=oV hk
  exact⟨_,h2,MW h3 (h a h1.get)⟩
 ·exact hk.elim
theorem JF {g:FuncId} {C:Fr→Fr→Prop} {r:Fr→Fr→PV} (h:∀a b,C a b→aD Tryz.prog g [frV a,frV b] (r a b)):POK Tryz.prog g (fun xs K=>match xs with| [p,q]=>fr1 p fun a=>fr1 q fun b=>VC (C a b)∧K (r a b)|_=>False):=by
 intro xs K hk;split at hk
 ·obtain⟨a,hk,h3⟩:=oV hk
  obtain⟨b,⟨h1,h2⟩,h4⟩:=oV hk;exact⟨_,h2,Dm h3 h4 (h a b h1.get)⟩
 ·exact hk.elim
theorem cO (a:Fr):(⟨⟨a.n.s,a.n.w⟩,⟨a.d.s,a.d.w⟩⟩:Fr)=a:=rfl
noncomputable def aju:CPT:=aB 108 (aR ofP) noC
theorem aea:bD Tryz.prog aju:=au (aF oC) aG
theorem QL (a:NI):aD Tryz.prog 112 [niV a] (frV ⟨a,fI⟩):=by
 refine ay (md:=1) (rf:=[]) mixed av aea Tryz.func112 qqR qqR qqR ?_
 repeat'((conv=>whnf);first|(intro hq;(try simp only[vw]at hq);try exact ak hq)|apply aI|exact aj|apply nM|apply fM)
 all_goals((try apply vM);(try simp only[vq]at*);try omega)
 all_goals(refine Sup.via ?_;repeat'((conv=>whnf);first|intro _|apply aI|exact aj|apply nM|apply fM);all_goals((try apply vM);(try simp only[vq]at*);try omega))
 all_goals(unfold fI;rfl)
def wT:PSp:=fun xs K=>match xs with| [p]=>ni1 p fun a=>VC True∧K (frV ⟨a,fI⟩)|_=>False
theorem uG:POK Tryz.prog 112 wT:=uw (C:=fun _=>True) (r:=fun a=>frV ⟨a,fI⟩) fun a _=>QL a
noncomputable def ajv:CPT:=aB 108 (aR ofP) (aB 112 (aR wT) noC)
theorem aeb:bD Tryz.prog ajv:=au (aF oC) (au (aF uG) aG)
theorem aec (n:Int):aD Tryz.prog 132 [.int .i64 n] (frV ⟨⟨n,[]⟩,fI⟩):=by
 refine ay (md:=1) (rf:=[]) mixed av aeb Tryz.func132 qqR qqR qqR ?_;all_goals exact wB
def ffP:PSp:=fun xs K=>match xs with
 | [.int .i64 n]=>VC (True)∧K (frV ⟨⟨n,[]⟩,fI⟩)
 |_=>False
theorem BM:POK Tryz.prog 132 ffP:=by
 intro xs K h;unfold ffP at h;split at h
 ·exact⟨_,h.2,aec _⟩
 ·exact h.elim
theorem Yq (a:Fr) (h:a.OK):aD Tryz.prog 116 [frV a] (.bp (decide (a.d.val=1))):=by
 have h1:=QK h.d;have h2:a.d.w.length=0↔a.d.w=[]:=alY;refine ay (md:=1) (rf:=[]) mixed av aG Tryz.func116 qqR qqR qqR ?_
 repeat'((conv=>whnf);first|(intro hq;(try simp only[vw]at hq);try exact ak hq)|apply aI|exact aj|apply nM|apply fM)
 all_goals((try apply vM);(try simp only[vq]at*);try omega)
 all_goals first
  |(refine Sup.of (congrArg PV.bp ?_);rw[decide_eq_decide,←h1];exact⟨fun h=>⟨h2.1 qqO,h⟩,fun h=>h.2⟩)
  |(refine Yp (Eq.symm (decide_eq_false fun h=>?_));have:=h1.2 h;have:=h2.2 this.1;omega)
def QM:PSp:=fun xs K=>match xs with| [p]=>fr1 p fun a=>VC a.OK∧K (.bp (decide (a.d.val=1)))|_=>False
theorem JG:POK Tryz.prog 116 QM:=zH (C:=Fr.OK) (r:=fun a=>.bp (decide (a.d.val=1))) Yq
noncomputable def ajw:CPT:=aB 194 (aR uy) noC
theorem aed:bD Tryz.prog ajw:=au (aF oO) aG
theorem Yr (a:Fr) (h:a.OK):aD Tryz.prog 117 [frV a] (.int .i64 (eH a.n.val)):=by
 refine ay (md:=1) (rf:=[]) mixed av aed Tryz.func117 qqR qqR qqR ?_
 repeat'((conv=>whnf);first|(intro hq;(try simp only[vw]at hq);try exact ak hq)|apply aI|exact aj|apply nM|apply fM)
 all_goals((try apply vM);(try simp only[vq]at*);try omega)
 all_goals first
  |exact h.n
  |exact Sup.of rfl
def Yt:PSp:=fun xs K=>match xs with| [p]=>fr1 p fun a=>VC a.OK∧K (.int .i64 (eH a.n.val))|_=>False
theorem UF:POK Tryz.prog 117 Yt:=zH (C:=Fr.OK) (r:=fun a=>.int .i64 (eH a.n.val)) Yr
noncomputable def ajx:CPT:=aB 201 (aR zy) noC
theorem aee:bD Tryz.prog ajx:=au (aF rV) aG
theorem UG (a:Fr) (h:a.OK) (hL:a.L≤100000000000):aD Tryz.prog 134 [frV a] (frV (can (-a.val))):=by
 rw[←ad6 h];have h1:=Fr.nL h;refine ay (md:=1) (rf:=[]) mixed av aee Tryz.func134 qqR qqR qqR ?_
 repeat'((conv=>whnf);first|(intro hq;(try simp only[vw]at hq);try exact ak hq)|apply aI|exact aj|apply nM|apply fM)
 all_goals((try apply vM);(try simp only[vq]at*);try omega)
 all_goals first
  |exact⟨h.n,aky h1 (aky hL qqD)⟩
  |exact Sup.of rfl
def QN:PSp:=fun xs K=>match xs with| [p]=>fr1 p fun a=>VC (a.OK∧a.L≤100000000000)∧K (frV (can (-a.val)))|_=>False
theorem Nu:POK Tryz.prog 134 QN:=zH (C:=fun a=>a.OK∧a.L≤100000000000) (r:=fun a=>frV (can (-a.val))) fun a h=>UG a h.1 h.2
noncomputable def ajy:CPT:=aB 194 (aR uy) (aB 201 (aR zy) (aB 178 (aR XV) (aB 202 (aR ag5) noC)))
theorem yx:bD Tryz.prog ajy:=au (aF oO) (au (aF rV) (au (aF Ug) (au (aF ag6) aG)))
theorem UH (a b:NI) (ha:a.OK) (hb:b.OK) (h0:b.val≠0) (hLa:a.L≤100000000000) (hLb:b.L≤100000000000):aD Tryz.prog 136 [niV a,niV b] (frV (fJ a b)):=by
 have ho:=QK hb;have hw:b.w.length=0↔b.w=[]:=alY;have hg0:(anL a.val.natAbs b.val.natAbs)≠0:=fun h=>by have:=(Nat.gcd_eq_zero_iff.1 h).2;omega
 have hg1:((anL a.val.natAbs b.val.natAbs:Nat):Int)∣a.val:=an1.2 (an2 _ _);have hg2:((anL a.val.natAbs b.val.natAbs:Nat):Int)∣b.val:=an1.2 (aob _ _);have hgL:(nr (anL a.val.natAbs b.val.natAbs)).L≤100000000000:=by
  rw[NI.L_nrm];exact aky (fq (Nat.le_of_dvd qqO (aob _ _))) hLb
 by_cases hneg:b.val<0
 ·have hsg:eH (NI.val ⟨b.s,b.w⟩)= -1:=by show eH b.val= -1;unfold eH;omega
  have hon:=QK (bO (-b.val));have hwn:(nrm (-b.val)).w.length=0↔(nrm (-b.val)).w=[]:=alY;rw[bg]at hon;have L1:(nrm (-a.val)).L≤100000000000:=by rw[NI.L_nrm,anl];exact hLa
  have L2:(nrm (-b.val)).L≤100000000000:=by rw[NI.L_nrm,anl];exact hLb
  have hL1':=aky hLa (show 100000000000≤1000000000000 by decide)
  have hL2':=aky hLb (show 100000000000≤1000000000000 by decide)
  have hg1':=aoc.2 hg1;have hg2':=aoc.2 hg2;by_cases h1:b.val= -1
  ·rw[←ad5 h1]
   obtain⟨g1,g2⟩:=hon.2 qqO;have g1':=hwn.2 g1;have hb1:nrm 1=nrm (-b.val):=by rw[h1];rfl
   rw[hb1];refine ay (md:=1) (rf:=[]) mixed av yx Tryz.func136 qqR qqR qqR ?_
   repeat'((conv=>whnf);first|(intro hq;(try simp only[vw]at hq);try exact ak hq)|apply aI|exact aj|apply nM|apply fM)
   all_goals((try apply vM);(try simp only[vq]at*);try omega)
   all_goals first
    |exact hb
    |exact⟨ha,hL1'⟩
    |exact⟨hb,hL2'⟩
    |exact Sup.of rfl
    |(exfalso;contradiction)
  ·rw[←Yl hneg h1]
   have hn1:¬((nrm (-b.val)).w.length=0∧(nrm (-b.val)).s=1):=fun h=>h1 (by have:=hon.1 ⟨hwn.1 h.1,h.2⟩;omega)
   refine ay (md:=1) (rf:=[]) mixed av yx Tryz.func136 qqR qqR qqR ?_
   repeat'((conv=>whnf);first|(intro hq;(try simp only[vw]at hq);try exact ak hq)|apply aI|exact aj|apply nM|apply fM)
   all_goals((try apply vM);(try simp only[vq]at*);try omega)
   all_goals(try simp only[dI,bg,anl])
   all_goals first
    |exact hb
    |exact⟨ha,hL1'⟩
    |exact⟨hb,hL2'⟩
    |exact⟨bO _,bO _,L1,L2⟩
    |exact⟨bO _,bO _,qqO,hg1',L1,hgL⟩
    |exact⟨bO _,bO _,qqO,hg2',L2,hgL⟩
    |(exfalso;exact hn1 ⟨qqA,qqA⟩)
    |exact Sup.of rfl
 ·have hpos:0<b.val:=qqO
  have hsg:eH (NI.val ⟨b.s,b.w⟩)=1:=by show eH b.val=1;unfold eH;omega
  by_cases h1:b.val=1
  ·have e1:=JE hb h1
   have hm:fJ a b=⟨a,b⟩:=by unfold fJ;rw[if_pos h1]
   rw[hm];obtain⟨g1,g2⟩:=ho.2 h1;have g1':=hw.2 g1;refine ay (md:=1) (rf:=[]) mixed av yx Tryz.func136 qqR qqR qqR ?_
   repeat'((conv=>whnf);first|(intro hq;(try simp only[vw]at hq);try exact ak hq)|apply aI|exact aj|apply nM|apply fM)
   all_goals((try apply vM);(try simp only[vq]at*);try omega)
   all_goals first
    |exact hb
    |exact Sup.of rfl
    |(exfalso;contradiction)
  ·rw[←Yk hpos h1]
   have hn1:¬(b.w.length=0∧b.s=1):=fun h=>h1 (ho.1 ⟨hw.1 h.1,h.2⟩);refine ay (md:=1) (rf:=[]) mixed av yx Tryz.func136 qqR qqR qqR ?_
   repeat'((conv=>whnf);first|(intro hq;(try simp only[vw]at hq);try exact ak hq)|apply aI|exact aj|apply nM|apply fM)
   all_goals((try apply vM);(try simp only[vq]at*);try omega)
   all_goals(try simp only[dI,bg,anl])
   all_goals first
    |exact hb
    |exact⟨ha,hb,hLa,hLb⟩
    |exact⟨ha,bO _,qqO,hg1,hLa,hgL⟩
    |exact⟨hb,bO _,qqO,hg2,hLb,hgL⟩
    |(exfalso;exact hn1 ⟨qqA,qqA⟩)
    |exact Sup.of rfl
def QO:PSp:=fun xs K=>match xs with| [p,q]=>ni1 p fun a=>ni1 q fun b=>VC (a.OK∧b.OK∧b.val≠0∧a.L≤100000000000∧b.L≤100000000000)∧K (frV (fJ a b))|_=>False
theorem Nv:POK Tryz.prog 136 QO:=wM (C:=fun a b=>a.OK∧b.OK∧b.val≠0∧a.L≤100000000000∧b.L≤100000000000) (r:=fun a b=>frV (fJ a b)) fun a b h=>UH a b h.1 h.2.1 h.2.2.1 h.2.2.2.1 h.2.2.2.2
structure FB (a:Fr):Prop where
 ok:a.OK
 le:a.L≤10000000000
theorem FB.nL {a:Fr} (h:FB a):a.n.L≤10000000000:=aky (Fr.nL h.ok) h.le
theorem FB.dL {a:Fr} (h:FB a):a.d.L≤10000000000:=aky (Fr.dL h.ok) h.le
theorem qo (x y:NI):(nrm (x.val*y.val)).L≤x.L+y.L:=by
 rw[NI.L_nrm,an3];exact nS _ _
theorem ahc (x y:NI):(addN x y).L≤max x.L y.L+1:=by
 unfold NI.L;rw[uz];exact Np _ _
noncomputable def ajz:CPT:=aB 116 (aR QM) (aB 109 (aR Dr) (aB 112 (aR wT) (aB 110 (aR uD) (aB 136 (aR QO) noC))))
theorem yA:bD Tryz.prog ajz:=au (aF JG) (au (aF wN) (au (aF uG) (au (aF oP) (au (aF Nv) aG))))
theorem UJ (a b:Fr) (ha:FB a) (hb:FB b):aD Tryz.prog 181 [frV a,frV b] (frV (kN a b)):=by
 have n1:=ha.ok.n;have n2:=ha.ok.d;have n3:=hb.ok.n;have n4:=hb.ok.d;have l1:=ha.nL;have l2:=ha.dL;have l3:=hb.nL;have l4:=hb.dL;by_cases h:a.d.val=1∧b.d.val=1
 ·have e:kN a b=⟨addN a.n b.n,fI⟩:=by unfold kN;rw[if_pos h]
  rw[e];obtain⟨h1,h2⟩:=h;have h1':(Fr.d ⟨⟨a.n.s,a.n.w⟩,⟨a.d.s,a.d.w⟩⟩).val=1:=h1;have h2':(Fr.d ⟨⟨b.n.s,b.n.w⟩,⟨b.d.s,b.d.w⟩⟩).val=1:=h2;refine ay (md:=1) (rf:=[]) mixed av yA Tryz.func181 qqR qqR qqR ?_
  repeat'((conv=>whnf);first|(intro hq;(try simp only[vw]at hq);try exact ak hq)|apply aI|exact aj|apply nM|apply fM)
  all_goals((try apply vM);(try simp only[vq]at*);try omega)
  all_goals(try simp only[cO,dI])
  all_goals first
   |exact ha.ok
   |exact hb.ok
   |exact⟨n1,n3,qqO,qqO⟩
   |exact Sup.of rfl
   |(exfalso;contradiction)
 ·rw[←Ym ha.ok hb.ok h]
  have m1:=qo a.n b.d;have m2:=qo b.n a.d;have m3:=qo a.d b.d;have m4:=ahc (nrm (a.n.val*b.d.val)) (nrm (b.n.val*a.d.val));have hd:(nrm (a.d.val*b.d.val)).val≠0:=by
   rw[bg];have:=aod ha.ok.pos hb.ok.pos;omega
  refine ay (md:=1) (rf:=[]) mixed av yA Tryz.func181 qqR qqR qqR ?_
  repeat'((conv=>whnf);first|(intro hq;(try simp only[vw]at hq);try exact ak hq)|apply aI|exact aj|apply nM|apply fM)
  all_goals((try apply vM);(try simp only[vq]at*);try omega)
  all_goals(try simp only[cO,dI])
  all_goals(try simp only[cO,dI]at hq)
  all_goals first
   |exact ha.ok
   |exact hb.ok
   |exact⟨n1,n4,qqO,qqO⟩
   |exact⟨n3,n2,qqO,qqO⟩
   |exact⟨n2,n4,qqO,qqO⟩
   |exact⟨bO _,bO _,qqO,qqO⟩
   |exact⟨Dp _ _,bO _,hd,qqO,qqO⟩
   |exact Sup.of rfl
   |(exfalso;simp_all;done)
def QS:PSp:=fun xs K=>match xs with| [p,q]=>fr1 p fun a=>fr1 q fun b=>VC (FB a∧FB b)∧K (frV (kN a b))|_=>False
theorem Nw:POK Tryz.prog 181 QS:=JF (C:=fun a b=>FB a∧FB b) (r:=fun a b=>frV (kN a b)) fun a b h=>UJ a b h.1 h.2
theorem UK (a b:Fr) (ha:FB a) (hb:FB b):aD Tryz.prog 133 [frV a,frV b] (frV (can (a.val*b.val))):=by
 have n1:=ha.ok.n;have n2:=ha.ok.d;have n3:=hb.ok.n;have n4:=hb.ok.d;have l1:=ha.nL;have l2:=ha.dL;have l3:=hb.nL;have l4:=hb.dL;rw[←Yn ha.ok hb.ok];have m1:=qo a.n b.n;have m3:=qo a.d b.d;have hd:(nrm (a.d.val*b.d.val)).val≠0:=by
  rw[bg];have:=aod ha.ok.pos hb.ok.pos;omega
 refine ay (md:=1) (rf:=[]) mixed av yA Tryz.func133 qqR qqR qqR ?_
 repeat'((conv=>whnf);first|(intro hq;(try simp only[vw]at hq);try exact ak hq)|apply aI|exact aj|apply nM|apply fM)
 all_goals((try apply vM);(try simp only[vq]at*);try omega)
 all_goals(try simp only[cO,dI])
 all_goals first
  |exact⟨n1,n3,qqO,qqO⟩
  |exact⟨n2,n4,qqO,qqO⟩
  |exact⟨bO _,bO _,hd,qqO,qqO⟩
  |exact Sup.of rfl
def BN:PSp:=fun xs K=>match xs with| [p,q]=>fr1 p fun a=>fr1 q fun b=>VC (FB a∧FB b)∧K (frV (can (a.val*b.val)))|_=>False
theorem yB:POK Tryz.prog 133 BN:=JF (C:=fun a b=>FB a∧FB b) (r:=fun a b=>frV (can (a.val*b.val))) fun a b h=>UK a b h.1 h.2
theorem UL (a:Fr) (ha:FB a) (h0:a.val≠0):aD Tryz.prog 230 [frV a] (frV (can (a.val⁻¹))):=by
 have n1:=ha.ok.n;have n2:=ha.ok.d;have l1:=ha.nL;have l2:=ha.dL;have hn:a.n.val≠0:=fun e=>h0 (by rw[←Rat.num_eq_zero,Fr.num ha.ok,e])
 rw[←Yo ha.ok h0];refine ay (md:=1) (rf:=[]) mixed av yA Tryz.func230 qqR qqR qqR ?_
 repeat'((conv=>whnf);first|(intro hq;(try simp only[vw]at hq);try exact ak hq)|apply aI|exact aj|apply nM|apply fM)
 all_goals((try apply vM);(try simp only[vq]at*);try omega)
 all_goals(try simp only[cO,dI])
 all_goals first
  |exact⟨n2,n1,hn,qqO,qqO⟩
  |exact Sup.of rfl
def QU:PSp:=fun xs K=>match xs with| [p]=>fr1 p fun a=>VC (FB a∧a.val≠0)∧K (frV (can (a.val⁻¹)))|_=>False
theorem Ny:POK Tryz.prog 230 QU:=zH (C:=fun a=>FB a∧a.val≠0) (r:=fun a=>frV (can (a.val⁻¹))) fun a h=>UL a h.1 h.2
theorem JH {q:Rat} (h:RL q≤10000000000):FB (can q):=⟨dY q,by rw[l9];exact h⟩
noncomputable def ajA:CPT:=aB 230 (aR QU) (aB 133 (aR BN) (aB 134 (aR QN) (aB 181 (aR QS) noC)))
theorem aef:bD Tryz.prog ajA:=au (aF Ny) (au (aF yB) (au (aF Nu) (au (aF Nw) aG)))
theorem UM (a b:Fr) (ha:FB a) (hb:FB b):aD Tryz.prog 182 [frV a,frV b] (frV (iB a b)):=by
 have hi:FB (can (-b.val)):=JH (by rw[JB];exact hb.le)
 have hbL:b.L≤100000000000:=aky hb.le qqD;unfold iB;refine ay (md:=1) (rf:=[]) mixed av aef Tryz.func182 qqR qqR qqR ?_
 repeat'((conv=>whnf);first|(intro hq;(try simp only[vw]at hq);try exact ak hq)|apply aI|exact aj|apply nM|apply fM)
 all_goals((try apply vM);(try simp only[vq]at*);try omega)
 all_goals first
  |exact⟨hb.ok,hbL⟩
  |exact⟨ha,hi⟩
  |exact Sup.of rfl
def abj:PSp:=fun xs K=>match xs with| [p,q]=>fr1 p fun a=>fr1 q fun b=>VC (FB a∧FB b)∧K (frV (iB a b))|_=>False
theorem aeg:POK Tryz.prog 182 abj:=JF (C:=fun a b=>FB a∧FB b) (r:=fun a b=>frV (iB a b)) fun a b h=>UM a b h.1 h.2
def wU (p q:Rat):Int:=if p<q then-1 else if q<p then 1 else 0
theorem aeh {a b:Fr} (ha:a.OK) (hb:b.OK):mX (a.n.val*b.d.val) (b.n.val*a.d.val)=wU a.val b.val:=by
 unfold mX wU;simp only[Rat.lt_iff,Fr.num ha,Fr.num hb,Fr.den ha,Fr.den hb]
noncomputable def ajB:CPT:=aB 110 (aR uD) (aB 118 (aR GQ) noC)
theorem aei:bD Tryz.prog ajB:=au (aF oP) (au (aF Dt) aG)
theorem UN (a b:Fr) (ha:FB a) (hb:FB b):aD Tryz.prog 145 [frV a,frV b] (.int .i64 (wU a.val b.val)):=by
 have n1:=ha.ok.n;have n2:=ha.ok.d;have n3:=hb.ok.n;have n4:=hb.ok.d;have l1:=ha.nL;have l2:=ha.dL;have l3:=hb.nL;have l4:=hb.dL;have m1:=qo a.n b.d;have m2:=qo b.n a.d;rw[←aeh ha.ok hb.ok];refine ay (md:=1) (rf:=[]) mixed av aei Tryz.func145 qqR qqR qqR ?_
 repeat'((conv=>whnf);first|(intro hq;(try simp only[vw]at hq);try exact ak hq)|apply aI|exact aj|apply nM|apply fM)
 all_goals((try apply vM);(try simp only[vq]at*);try omega)
 all_goals(try simp only[cO,dI,bg])
 all_goals first
  |exact⟨n1,n4,qqO,qqO⟩
  |exact⟨n3,n2,qqO,qqO⟩
  |exact⟨bO _,bO _,qqO,qqO⟩
  |exact Sup.of rfl
def abk:PSp:=fun xs K=>match xs with| [p,q]=>fr1 p fun a=>fr1 q fun b=>VC (FB a∧FB b)∧K (.int .i64 (wU a.val b.val))|_=>False
theorem aej:POK Tryz.prog 145 abk:=JF (C:=fun a b=>FB a∧FB b) (r:=fun a b=>.int .i64 (wU a.val b.val)) fun a b h=>UN a b h.1 h.2
theorem UO {p q:Rat}:wU p q=0↔p=q:=by
 unfold wU;constructor
 ·intro h
  split at h
  ·omega
  ·split at h
   ·omega
   ·rename_i h1 h2
    exact Rat.le_antisymm (Rat.not_lt.1 h2) (Rat.not_lt.1 h1)
 ·rintro rfl
  rw[if_neg (Rat.not_lt.2 Rat.le_refl),if_neg (Rat.not_lt.2 Rat.le_refl)]
noncomputable def ajC:CPT:=aB 145 (aR abk) noC
theorem aek:bD Tryz.prog ajC:=au (aF aej) aG
theorem UQ (a b:Fr) (ha:FB a) (hb:FB b):aD Tryz.prog 174 [frV a,frV b] (.bp (decide (a.val=b.val))):=by
 have e:decide (a.val=b.val)=decide (wU a.val b.val=0):=by rw[decide_eq_decide];exact UO.symm
 rw[e];refine ay (md:=1) (rf:=[]) mixed av aek Tryz.func174 qqR qqR qqR ?_
 repeat'((conv=>whnf);first|(intro hq;(try simp only[vw]at hq);try exact ak hq)|apply aI|exact aj|apply nM|apply fM)
 all_goals((try apply vM);(try simp only[vq]at*);try omega)
 all_goals first
  |exact⟨ha,hb⟩
  |exact Sup.of rfl
def abl:PSp:=fun xs K=>match xs with| [p,q]=>fr1 p fun a=>fr1 q fun b=>VC (FB a∧FB b)∧K (.bp (decide (a.val=b.val)))|_=>False
theorem ael:POK Tryz.prog 174 abl:=JF (C:=fun a b=>FB a∧FB b) (r:=fun a b=>.bp (decide (a.val=b.val))) fun a b h=>UQ a b h.1 h.2
def lgQ (q:Rat):Bool:=lgI q.num||lgI q.den
structure FT (a:Fr):Prop where
 ok:a.OK
 le:a.L≤500000000
noncomputable def ajD:CPT:=aB 234 (aR abh) (aB 235 (aR QI) (aB 116 (aR QM) noC))
theorem DI:bD Tryz.prog ajD:=au (aF ad9) (au (aF Nl) (au (aF JG) aG))
theorem QV (a:Fr) (ha:FT a):aD Tryz.prog 192 [frV a] (.bp (lgQ a.val)):=by
 have n1:=ha.ok.n;have n2:=ha.ok.d;have l1:=aky (Fr.nL ha.ok) ha.le;have l2:=aky (Fr.dL ha.ok) ha.le;unfold lgQ;rw[Fr.num ha.ok,Fr.den ha.ok];refine ay (md:=1) (rf:=[]) mixed av DI Tryz.func192 qqR qqR qqR ?_
 repeat'((conv=>whnf);first|(intro hq;(try simp only[vw]at hq);try exact ak hq)|apply aI|exact aj|apply nM|apply fM)
 all_goals((try apply vM);(try simp only[vq]at*);try omega)
 all_goals(try simp only[cO,dI])
 all_goals(try simp only[cO,dI]at hq)
 all_goals first
  |exact⟨n1,l1⟩
  |exact⟨n2,l2⟩
  |(rw[hq,Bool.false_or];exact Sup.of rfl)
  |(rw[hq,Bool.true_or];exact Yp rfl)
def JI:PSp:=fun xs K=>match xs with| [p]=>fr1 p fun a=>VC (FT a)∧K (.bp (lgQ a.val))|_=>False
theorem JJ:POK Tryz.prog 192 JI:=zH (C:=FT) (r:=fun a=>.bp (lgQ a.val)) QV
theorem Nz (n:Nat):itB (n:Int)=bX n:=by
 rw[nW];unfold sgB;rw[if_neg qqO,ByteArray.empty_append,an4]
theorem UR (a:Fr) (ha:FT a):aD Tryz.prog 193 [frV a] (.str (txQ a.val)):=by
 have n1:=ha.ok.n;have n2:=ha.ok.d;have l1:=aky (Fr.nL ha.ok) ha.le;have l2:=aky (Fr.dL ha.ok) ha.le;have hdn:=Fr.den ha.ok;unfold txQ;have z1:(itB a.n.val).size≤11000000000:=by
  have:=DF a.n.val.natAbs;have l1':Lw a.n.val.natAbs≤500000000:=l1;rw[nW,ByteArray.size_append];unfold sgB;split
  ·have:(kMi:ByteArray).size=1:=rfl
   omega
  ·have:(ByteArray.empty).size=0:=rfl
   omega
 have z2:(itB a.d.val).size≤11000000000:=by
  have:=DF a.d.val.natAbs;have l1':Lw a.d.val.natAbs≤500000000:=l2;rw[nW,ByteArray.size_append];unfold sgB;split
  ·have:(kMi:ByteArray).size=1:=rfl
   omega
  ·have:(ByteArray.empty).size=0:=rfl
   omega
 have z3:(kSl:ByteArray).size=1:=rfl;rw[Fr.num ha.ok];by_cases h:a.val.den=1
 ·rw[if_pos h]
  have h':(Fr.d ⟨⟨a.n.s,a.n.w⟩,⟨a.d.s,a.d.w⟩⟩).val=1:=by show a.d.val=1;omega
  refine ay (md:=1) (rf:=[]) mixed av DI Tryz.func193 qqR qqR qqR ?_
  repeat'((conv=>whnf);first|(intro hq;(try simp only[vw]at hq);try exact ak hq)|apply aI|exact aj|apply nM|apply fM)
  all_goals((try apply vM);(try simp only[vq]at*);try omega)
  all_goals first
   |exact ha.ok
   |exact⟨n1,l1⟩
   |exact Sup.of rfl
   |(exfalso;contradiction)
 ·rw[if_neg h,←Nz,hdn]
  have h':¬(Fr.d ⟨⟨a.n.s,a.n.w⟩,⟨a.d.s,a.d.w⟩⟩).val=1:=by show¬a.d.val=1;omega
  refine ay (md:=1) (rf:=[]) mixed av DI Tryz.func193 qqR qqR qqR ?_
  repeat'((conv=>whnf);first|(intro hq;(try simp only[vw]at hq);try exact ak hq)|apply aI|exact aj|apply nM|apply fM)
  all_goals((try apply vM);(try simp only[vq]at*);try omega)
  all_goals(try simp only[cO,dI])
  all_goals first
   |exact ha.ok
   |exact⟨n1,l1⟩
   |exact⟨n2,l2⟩
   |(rw[z3];omega)
   |(rw[ByteArray.size_append,z3];omega)
   |exact Sup.of rfl
   |(exfalso;contradiction)
def QW:PSp:=fun xs K=>match xs with| [p]=>fr1 p fun a=>VC (FT a)∧K (.str (txQ a.val))|_=>False
theorem NA:POK Tryz.prog 193 QW:=zH (C:=FT) (r:=fun a=>.str (txQ a.val)) UR
end Go.Eng.YtmkagljofpddpaaGreatDoor
namespace Go.Eng.YtmkagljofpddpaaGreatDoor
open Go.Eng.ElG
set_option linter.unusedSimpArgs false
set_option linter.unusedVariables false
def Ff:Fld Fr:=⟨fun a=>decide (a.val=0),iB,fun a b=>can (a.val*b.val),fun a=>can (a.val⁻¹)⟩
def Fq:Fld Rat:=⟨fun a=>decide (a=0),fun a b=>a-b,fun a b=>a*b,fun a=>a⁻¹⟩
def Bd (b:Nat):Nat→Nat
 |0=>b
 |k+1=>4*Bd b k+1
theorem lM (b:Nat) {i:Nat}:∀{j:Nat},i≤j→Bd b i≤Bd b j:=by
 intro j;induction j with
 |zero=>intro h;rw[Nat.le_zero.1 h];exact aku _
 |succ j ih=>
  intro h;by_cases e:i=j+1
  ·subst e;exact aku _
  ·have:=ih qqO
   rw[Bd];omega
structure GL (b k:Nat) (x:Fr):Prop where
 ok:x.OK
 le:x.L≤Bd b k
theorem GL.fb {b k:Nat} {x:Fr} (h:GL b k x) (hb:Bd b k≤10000000000):FB x:=⟨h.ok,aky h.le hb⟩
theorem qZ (a c:Fr):(can (a.val*c.val)).L≤a.L+c.L:=by rw[l9];exact ag9 _ _
theorem QX (a:Fr):(can (a.val⁻¹)).L≤a.L:=by rw[l9];exact ahb _
theorem abm {a c:Fr} (ha:a.OK) (hc:c.OK):(iB a c).L≤a.L+c.L+1:=by
 unfold Fr.L;rw[zG ha hc];exact aha _ _
theorem yC (b:Nat):Hom Ff Fq Fr.val (GL b)where
 up:=fun c x h=>⟨h.ok,aky h.le (lM b (Nat.le_succ c))⟩
 z:=fun c x h=>rfl
 scale:=fun c a s ha hs h0=>by
  have h1:=qZ a (can (s.val⁻¹));have h2:=QX s;have h3:=ha.le;have h4:=hs.le;refine⟨?_,⟨dY _,?_⟩⟩
  ·show(can (a.val*(can (s.val⁻¹)).val)).val=a.val*s.val⁻¹
   rw[dS,dS]
  ·show(can (a.val*(can (s.val⁻¹)).val)).L≤4*Bd b c+1
   omega
 clear:=fun c a t x s ha ht hx hs h0=>by
  have h1:=qZ x (can (s.val⁻¹));have h2:=QX s;have h3:=ha.le;have h4:=hs.le;have h5:=hx.le;have h6:=ht.le;have h7:=qZ t (can (x.val*(can (s.val⁻¹)).val));have h8:=abm ha.ok (dY (t.val*(can (x.val*(can (s.val⁻¹)).val)).val));refine⟨?_,⟨Ns ha.ok (dY _),?_⟩⟩
  ·show(iB a (can (t.val*(can (x.val*(can (s.val⁻¹)).val)).val))).val=a.val-t.val*(can (x.val*(can (s.val⁻¹)).val)).val
   rw[zG ha.ok (dY _),dS]
  ·show(iB a (can (t.val*(can (x.val*(can (s.val⁻¹)).val)).val))).L≤4*Bd b c+1
   omega
end Go.Eng.YtmkagljofpddpaaGreatDoor
namespace Go.Eng.YtmkagljofpddpaaGreatDoor
open Go.Proofs Go.Eng.Dig
set_option linter.unusedSimpArgs false
set_option linter.unusedVariables false
set_option maxHeartbeats 0
set_option maxRecDepth 100000
abbrev B9:Nat:=1000000000
abbrev zd9 (x:Nat):CL:=.ints .i64 (dl B9 x)
abbrev v9 (l:List Int):Nat:=vl B9 l
abbrev D9 (l:List Int):Prop:=Dg B9 l
end Go.Eng.YtmkagljofpddpaaGreatDoor
namespace Go.Eng.Dig
set_option linter.unusedSimpArgs false
set_option linter.unusedVariables false
end Go.Eng.Dig
namespace Go.Eng.YtmkagljofpddpaaGreatDoor
open Go.Proofs Go.Eng.Dig
set_option linter.unusedSimpArgs false
set_option linter.unusedVariables false
set_option maxHeartbeats 0
set_option maxRecDepth 100000
end Go.Eng.YtmkagljofpddpaaGreatDoor
namespace Go.Eng.YtmkagljofpddpaaGreatDoor
open Go.Proofs Go.Eng.Dig Go.Eng.Dec
set_option linter.unusedSimpArgs false
set_option linter.unusedVariables false
set_option maxHeartbeats 0
set_option maxRecDepth 100000
abbrev zv (z:Int):PV:=.agg [.bp (decide (z<0)),.isl (zd9 z.natAbs) .none]
def sgz (b:Bool) (x:Nat):Int:=if b then-(x:Int)else x
def z1 (p:PV) (K:Int→Prop):Prop:=match p with
 |.agg [.bp b,.isl (.ints .i64 l) .none]=>VC (D9 l∧b=decide (sgz b (v9 l)<0))∧K (sgz b (v9 l))
 |_=>False
theorem aiA (s:ByteArray) (i:Nat):s.data.getD i 0=s.data.toList.getD i 0:=by
 simp[akD,akG]
def slP (l:List UInt8):Nat:=l.findIdx (·==47)
theorem ixb (l:List UInt8):Go.Lib.indexByte l 47=if slP l<l.length then(slP l:Int)else-1:=by
 unfold slP;induction l with
 |nil=>rfl
 |cons b r ih=>
  unfold Go.Lib.indexByte;rw[aoe];by_cases h:b=47
  ·subst h;simp
  ·have h1:(b==47)=false:=beq_eq_false_iff_ne.2 h
   rw[h1,ih];simp only[als,if_false,cond_false,akq];by_cases h2:r.findIdx (·==47)<r.length
   ·have h3:r.findIdx (·==47)+1<r.length+1:=qqO
    have:((r.findIdx (·==47):Int)== -1)=false:=beq_eq_false_iff_ne.2 qqO;simp only[if_pos h2,if_pos h3,this,als,if_false];omega
   ·have h3:¬r.findIdx (·==47)+1<r.length+1:=qqO
    simp only[if_neg h2,if_neg h3];rfl
def Yu:PSp:=fun xs K=>match xs with
 | [.str s,.str t]=>VC (t=⟨#[47]⟩)∧K (.int .i64 (if slP s.data.toList<s.data.toList.length then(slP s.data.toList:Int)else-1))
 |_=>False
theorem ahd:POK Tryz.prog 249 Yu:=by
 intro xs K hk;unfold Yu at hk;split at hk
 ·obtain⟨h,hK⟩:=hk
  rw[h.get,←ixb]at*;exact⟨_,hK,Ya _ _⟩
 ·exact hk.elim
def mY (s:ByteArray):ByteArray:=if slP s.data.toList<s.size then s.extract 0 (slP s.data.toList)else s
def mZ (s:ByteArray):ByteArray:=if slP s.data.toList<s.size then s.extract (slP s.data.toList+1) s.size else⟨#[]⟩
def rH (s:ByteArray):Bool:=decide (slP s.data.toList<s.size)
noncomputable def ajE:CPT:=aB 249 (aP Yu) noC
theorem NC:bD Tryz.prog ajE:=au (aC ahd) aG
theorem ahe (a b:ByteArray) (c:Bool):Sup (dX [PV.str a,.str b,.bool c]) (.tup [.str a,.str b,.bp c]):=by all_goals(refine Sup.via ?_;repeat'((conv=>whnf);first|intro _|apply aI|exact aj|apply nM|apply fM);all_goals((try apply vM);(try simp only[vq]at*);try omega);all_goals(try(simp[CL.sub];done)))
theorem UU (s:ByteArray) (hs:s.size≤1099511627776):aD Tryz.prog 223 [.str s,.str ⟨#[47]⟩] (.tup [.str (mY s),.str (mZ s),.bp (rH s)]):=by
 have hsz:s.data.toList.length=s.size:=by rw[ak2];rfl
 unfold mY mZ rH;by_cases h:slP s.data.toList<s.size
 ·rw[if_pos h,if_pos h,decide_eq_true h]
  have hI:(if slP s.data.toList<s.data.toList.length then(slP s.data.toList:Int)else-1)=(slP s.data.toList:Int):=if_pos qqO;have h1:((⟨#[47]⟩:ByteArray).size:Int)=1:=rfl;have h2:((slP s.data.toList:Int)+1).toNat=slP s.data.toList+1:=qqO;refine ay (md:=1) (rf:=[]) mixed av NC Tryz.func223 qqR qqR qqR ?_
  repeat'((conv=>whnf);first|(intro hq;(try simp only[vw]at hq);try exact ak hq)|apply aI|exact aj|apply nM|apply fM)
  all_goals((try apply vM);(try simp only[vq]at*);try omega)
  all_goals(try simp only[hI,h1,h2,amI])
  all_goals first|omega|exact ahe _ _ _
 ·rw[if_neg h,if_neg h,decide_eq_false h]
  refine ay (md:=1) (rf:=[]) mixed av NC Tryz.func223 qqR qqR qqR ?_
  repeat'((conv=>whnf);first|(intro hq;(try simp only[vw]at hq);try exact ak hq)|apply aI|exact aj|apply nM|apply fM)
  all_goals((try apply vM);(try simp only[vq]at*);try omega)
  all_goals first|exact ahe _ _ _|(exfalso;rw[if_neg qqO]at*;omega)
def QY:PSp:=fun xs K=>match xs with
 | [.str s,.str t]=>VC (t=⟨#[47]⟩∧s.size≤1099511627776)∧K (.tup [.str (mY s),.str (mZ s),.bp (rH s)])
 |_=>False
theorem aem:POK Tryz.prog 223 QY:=by
 intro xs K hk;unfold QY at hk;split at hk
 ·obtain⟨rfl,h⟩:=hk.1.get
  exact⟨_,hk.2,UU _ h⟩
 ·exact hk.elim
noncomputable def ajF:CPT:=aB 223 (aP QY) noC
theorem aen:bD Tryz.prog ajF:=au (aC aem) aG
theorem UW (s:ByteArray) (hs:s.size≤1099511627776):aD Tryz.prog 176 [.str s,.str ⟨#[47]⟩] (.tup [.str (mY s),.str (mZ s),.bp (rH s)]):=by
 refine ay (md:=1) (rf:=[]) mixed av aen Tryz.func176 qqR qqR qqR ?_;all_goals exact wC
def QZ:PSp:=fun xs K=>match xs with
 | [.str s,.str t]=>VC (t=⟨#[47]⟩∧s.size≤1099511627776)∧K (.tup [.str (mY s),.str (mZ s),.bp (rH s)])
 |_=>False
theorem UY:POK Tryz.prog 176 QZ:=by
 intro xs K hk;unfold QZ at hk;split at hk
 ·obtain⟨rfl,h⟩:=hk.1.get
  exact⟨_,hk.2,UW _ h⟩
 ·exact hk.elim
end Go.Eng.YtmkagljofpddpaaGreatDoor
namespace Go.Eng.YtmkagljofpddpaaGreatDoor
open Go.Proofs
set_option linter.unusedSimpArgs false
set_option linter.unusedVariables false
set_option maxHeartbeats 0
set_option maxRecDepth 100000
theorem Q5 (h:Bool) (e:Int):aD Tryz.prog 114 [.bp h,.int .i64 e] (.int .i64 (if h then e else 0)):=by
 refine ay (md:=0) (rf:=[]) mixed av aG Tryz.func114 qqR qqR qqR ?_
 repeat'((conv=>whnf);first|intro _|apply aI|exact aj|apply nM|apply fM)
 all_goals all_goals(first|(refine Sup.of ?_;first|rfl|(simp[*,dX];done))|(refine Sup.via ?_;repeat'((conv=>whnf);first|intro _|apply aI|exact aj|apply nM|apply fM);all_goals((try apply vM);(try simp only[vq]at*);try omega);all_goals(try(simp[CL.sub];done))))
theorem LB (h:Bool) (e:Int):aD Tryz.prog 114 [.bool h,.int .i64 e] (.int .i64 (if h then e else 0)):=by
 cases h
 all_goals
  refine ay (md:=0) (rf:=[]) mixed av aG Tryz.func114 qqR qqR qqR ?_
  repeat'((conv=>whnf);first|intro _|apply aI|exact aj|apply nM|apply fM)
  all_goals all_goals(first|(refine Sup.of ?_;first|rfl|(simp[*,dX];done))|(refine Sup.via ?_;repeat'((conv=>whnf);first|intro _|apply aI|exact aj|apply nM|apply fM);all_goals((try apply vM);(try simp only[vq]at*);try omega);all_goals(try(simp[CL.sub];done))))
theorem iV:POK Tryz.prog 114 l7:=by
 intro xs K h;unfold l7 at h;split at h
 ·exact⟨_,h,Q5 _ _⟩
 ·exact⟨_,h,LB _ _⟩
 ·exact h.elim
def qp:PSp:=fun xs K=>match xs with
 | [.isl (.ints .i64 l) .none]=>VC (l.length<1000000)∧K (.int .i64 (dG l))
 |_=>False
theorem LC (l:List Int) (hl:l.length<1000000):aD Tryz.prog 113 [.isl (.ints .i64 l) .none] (.int .i64 (dG l)):=by
 refine ay (md:=1) (rf:=[]) mixed av aG Tryz.func113 qqR qqR qqR ?_
 repeat'((conv=>whnf);first|intro _|apply aI|exact aj|apply nM|apply fM)
 all_goals((try apply vM);(try simp only[vq]at*);try omega)
 conv=>whnf
 refine aV (X:=Nat) (fun i=>i≤l.length∧∀j,j<i→l.getD j 0=0) (fun i=>[(7,.int .i64 i)]) (fun _=>[]) (fun i=>l.length-i) 0 ⟨aL,mixed,av,aG,aU⟩ qqR ⟨qqO,fun j hj=>qqO⟩ ?_ ?_
 ·all_goals exact aW
 ·intro i hi
  obtain⟨hi,hz⟩:=hi
  repeat'((conv=>whnf);first|intro _|apply aI|exact aj|apply nM|apply fM)
  all_goals((try apply vM);(try simp only[vq]at*);try omega)
  ·rename_i hne
   have:=Qk l i qqO hz (by simpa using hne)
   rw[this];exact Sup.of rfl
  ·rename_i hne
   have hne:l.getD i 0=0:=by simpa using hne
   refine⟨i+1,[],⟨⟨qqO,fun j hj=>?_⟩,qqO⟩,?_⟩
   ·by_cases e:j=i
    ·subst e;exact hne
    ·exact hz j qqO
   ·all_goals exact aW
  ·have:i=l.length:=qqO
   subst this;rw[Jd l hz];exact Sup.of rfl
theorem iL:POK Tryz.prog 113 qp:=by
 intro xs K h;unfold qp at h;split at h
 ·exact⟨_,h.2,LC _ h.1.get⟩
 ·exact h.elim
def smQ (n:Int):Bool:=decide (-999999999≤n∧n≤999999999)
theorem oW (n:Int):smQ n=true↔ -999999999≤n∧n≤999999999:=decide_eq_true_iff
theorem aiB (n:Int):smQ n=false↔¬(-999999999≤n∧n≤999999999):=decide_eq_false_iff_not
theorem kE {b c:Bool} (h:b=c):Sup (.bool b) (.bp c):=⟨fun hr=>by subst h;cases hr;exact .bp _ _⟩
theorem UZ (n:Int):aD Tryz.prog 141 [.int .i64 n] (.bp (smQ n)):=by
 cases h:smQ n
 ·rw[aiB]at h
  refine ay (md:=1) (rf:=[]) mixed av aG Tryz.func141 qqR qqR qqR ?_
  repeat'((conv=>whnf);first|(intro hq;(try simp only[vw]at hq);try exact ak hq)|apply aI|exact aj|apply nM|apply fM)
  all_goals((try apply vM);(try simp only[vq]at*);try omega)
  all_goals first|(exfalso;omega)|exact kE rfl|exact kE (decide_eq_false qqO)|(refine Sup.of ?_;simp[dX];omega)
 ·rw[oW]at h
  refine ay (md:=1) (rf:=[]) mixed av aG Tryz.func141 qqR qqR qqR ?_
  repeat'((conv=>whnf);first|(intro hq;(try simp only[vw]at hq);try exact ak hq)|apply aI|exact aj|apply nM|apply fM)
  all_goals((try apply vM);(try simp only[vq]at*);try omega)
  all_goals first|(exfalso;omega)|exact kE rfl|exact kE (decide_eq_true qqO)|(refine Sup.of ?_;simp[dX];omega)
def GV:PSp:=fun xs K=>match xs with
 | [.int .i64 n]=>VC (True)∧K (.bp (smQ n))
 |_=>False
theorem ND:POK Tryz.prog 141 GV:=by
 intro xs K h;unfold GV at h;split at h
 ·exact⟨_,h.2,UZ _⟩
 ·exact h.elim
noncomputable def ahf:CPT:=aB 141 (aP GV) noC
theorem yD:bD Tryz.prog ahf:=au (aC ND) aG
def DJ (a b:Int):Int × Int:=if smQ a=true∧smQ b=true then(((anL a.natAbs b.natAbs:Nat):Int),0)else(0,3)
theorem FK (x y:Int):aD Tryz.prog 41 [.int .i64 x,.int .i64 y] (.tup [.int .i64 (DJ x y).1,.int .i64 (DJ x y).2]):=by
 by_cases hx:smQ x=true∧smQ y=true
 ·obtain⟨h1,h2⟩:=hx
  have e:DJ x y=(((anL x.natAbs y.natAbs:Nat):Int),0):=if_pos ⟨h1,h2⟩;rw[e];have g1:=(oW _).1 h1;have g2:=(oW _).1 h2;refine ay (md:=1) (rf:=[]) mixed av yD Tryz.func41 qqR qqR qqR ?_
  repeat'((conv=>whnf);first|(intro hq;(try simp only[vw]at hq);try exact ak hq)|apply aI|exact aj|apply nM|apply fM)
  all_goals((try apply vM);(try simp only[vq]at*);try omega)
  all_goals try(exfalso;simp_all;done)
  conv=>whnf
  refine aV (X:=Int × Int) (fun p=>(-999999999≤p.1∧p.1≤999999999)∧(-999999999≤p.2∧p.2≤999999999)∧anL p.1.natAbs p.2.natAbs=anL x.natAbs y.natAbs) (fun p=>[(0,.int .i64 p.1),(1,.int .i64 p.2)]) (fun p=>[]) (fun p=>p.2.natAbs) (x,y) ⟨aL,mixed,av,yD,aU⟩ qqR ⟨g1,g2,rfl⟩ ?_ ?_
  ·all_goals exact aW
  intro⟨a,b⟩ ⟨i1,i2,i3⟩;simp only at i1 i2 i3;clear h1 h2 g1 g2 e;by_cases hb:b=0
  ·subst hb
   rw[show(0:Int).natAbs=0 from rfl,Nat.gcd_zero_right]at i3;rw[←i3];have ha:max a (0-a)=((a.natAbs:Nat):Int):=qqO
   repeat'((conv=>whnf);first|(intro hq;(try simp only[vw]at hq);try exact ak hq)|apply aI|exact aj|apply nM|apply fM)
   all_goals((try apply vM);(try simp only[vq]at*);try omega)
   all_goals first|(simp only[ha];exact Sup.of rfl)|(rw[←ha];exact Sup.of rfl)|omega
  ·have hm:(a.tmod b).natAbs=a.natAbs % b.natAbs:=Int.natAbs_tmod _ _
   have hml:=alc a.natAbs (show b.natAbs>0 by omega)
   have hg:anL b.natAbs (a.tmod b).natAbs=anL x.natAbs y.natAbs:=by rw[hm,←i3,anM b.natAbs,←Nat.gcd_rec,anM]
   have hr: -999999999≤a.tmod b∧a.tmod b≤999999999:=qqO;have hr2:(a.tmod b).natAbs<b.natAbs:=qqO;clear hm hml
   repeat'((conv=>whnf);first|(intro hq;(try simp only[vw]at hq);try exact ak hq)|apply aI|exact aj|apply nM|apply fM)
   all_goals((try apply vM);(try simp only[vq]at*);try omega)
   all_goals first
    |omega
    |(refine⟨(b,a.tmod b),[],⟨⟨i2,hr,hg⟩,hr2⟩,?_⟩
      all_goals exact aW)
 ·have e:DJ x y=(0,3):=if_neg hx
  rw[e];refine ay (md:=1) (rf:=[]) mixed av yD Tryz.func41 qqR qqR qqR ?_
  repeat'((conv=>whnf);first|(intro hq;(try simp only[vw]at hq);try exact ak hq)|apply aI|exact aj|apply nM|apply fM)
  all_goals((try apply vM);(try simp only[vq]at*);try omega)
  all_goals first|exact Sup.of rfl|(exfalso;simp_all;done)
def zI:Nat→Int→Int→Int→Int→Int × Int
 |0,r,_,x,_=>(r,x)
 |k+1,r,s,x,y=>if s=0 then(r,x)else zI k s (r-r / s*s) y (x-r / s*y)
theorem U2 (k:Nat) (r x y:Int):zI k r 0 x y=(r,x):=by cases k<;>simp[zI]
def Q6 (a n:Int):Int × Int:=zI ((a % n).toNat+1) n (a % n) 0 1
def ng (a n:Int):Int × Bool:=((Q6 a n).2 % n,decide ((Q6 a n).1=1))
structure EuI (n r s x y:Int):Prop where
 n0:0<n
 s0:0≤s
 sr:s<r∨s≤r∧r=n
 rn:r≤n
 xn: -n≤x∧x≤n
 sg:(0≤y∧x≤0∧y*r-x*s=n)∨(y≤0∧0≤x∧x*s-y*r=n)
theorem EuI.start {n s:Int} (h:0<n) (h1:0≤s) (h2:s<n):EuI n n s 0 1:=⟨h,h1,.inl h2,qqO,qqO,.inl ⟨qqO,qqO,qqO⟩⟩
theorem GX {y r n:Int} (hr:0<r) (hy:0≤y) (h:y*r≤n):y≤n:=by
 have:y*1≤y*r:=aof qqO hy;omega
theorem EuI.yn {n r s x y:Int} (h:EuI n r s x y): -n≤y∧y≤n:=by
 obtain⟨z,a,b,c,d,e⟩:=h;rcases e with⟨e1,e2,e3⟩|⟨e1,e2,e3⟩
 ·have:x*s≤0:=aog e2 a
  by_cases hr:0<r
  ·have:=GX hr e1 (by omega:y*r≤n)
   omega
  ·omega
 ·have:0≤x*s:=aoh e2 a
  by_cases hr:0<r
  ·have:=GX hr (y:= -y) qqO (by rw[Int.neg_mul];omega: -y*r≤n)
   omega
  ·omega
theorem EuI.step {n r s x y:Int} (h:EuI n r s x y) (hs:s≠0):EuI n s (r-r / s*s) y (x-r / s*y)∧(-n≤r / s*y∧r / s*y≤n)∧(0≤r / s*s∧r / s*s≤n)∧0≤r / s∧r-r / s*s<s:=by
 have hy:=h.yn;obtain⟨z,a,b,c,d,e⟩:=h;have hs0:0<s:=qqO;have hq:0≤r / s:=Int.ediv_nonneg qqO a;have hm:=Int.emod_add_mul_ediv r s;have hm0:=aoi r hs;have hm1:=aoj r hs0;rw[Int.mul_comm]at hm;generalize r / s=q at*
 generalize hrm:r % s=m at*
 have hrq:r-q*s=m:=qqO;rw[hrq];have hqs:0≤q*s:=aoh hq a;rcases e with⟨e1,e2,e3⟩|⟨e1,e2,e3⟩
 ·have hx0:x*s≤0:=aog e2 a
  have hqy:0≤q*y:=aoh hq e1;have hk:(q*y-x)*s+y*m=n:=by rw[←e3,←hrq];grind
  have hym:0≤y*m:=aoh e1 hm0;have hle:q*y-x≤n:=GX hs0 qqO qqO;refine⟨⟨z,hm0,.inl hm1,qqO,hy,.inr ⟨qqO,e1,?_⟩⟩,⟨qqO,qqO⟩,⟨hqs,qqO⟩,hq,hm1⟩;rw[←hk];grind
 ·have hx0:0≤x*s:=aoh e2 a
  have hqy:q*y≤0:=Int.mul_nonpos_of_nonneg_of_nonpos hq e1;have hk:(x-q*y)*s-y*m=n:=by rw[←e3,←hrq];grind
  have hym:y*m≤0:=aog e1 hm0;have hle:x-q*y≤n:=GX hs0 qqO qqO;refine⟨⟨z,hm0,.inl hm1,qqO,hy,.inl ⟨qqO,e1,?_⟩⟩,⟨qqO,qqO⟩,⟨hqs,qqO⟩,hq,hm1⟩;first|(rw[←hk];done)|(rw[←hk];grind)
theorem q9 (x n:Int) (hn:0<n):(x.tmod n+n).tmod n=x % n∧ -n<x.tmod n∧x.tmod n<n:=by
 have h1: -n<x.tmod n∧x.tmod n<n:=by
  have:=Int.tmod_lt_of_pos x hn;have:=Int.lt_tmod_of_pos x hn;omega
 refine⟨?_,h1⟩;rw[aok qqO,Int.add_emod_right];rw[Int.tmod_eq_emod];split
 ·simp
 ·rw[show((n.natAbs:Nat):Int)=n by omega,Int.sub_emod_right,Int.emod_emod]
structure EuX where
 k:Nat
 r:Int
 s:Int
 x:Int
 y:Int
theorem Yv (a n:Int) (hn:0<n∧n≤999999999) (ha: -999999999≤a∧a≤999999999):aD Tryz.prog 142 [.int .i64 a,.int .i64 n] (.tup [.int .i64 (ng a n).1,.bp (ng a n).2]):=by
 obtain⟨w1,w2,w3⟩:=q9 a n hn.1;have hm0:=aoi a (show n≠0 by omega)
 have hm1:=aoj a hn.1;have hstart:Q6 a n=zI ((a % n).toNat+1) n (a % n) 0 1:=rfl;unfold ng;generalize Q6 a n=R at*
 generalize a % n=m at*
 refine ay (md:=1) (rf:=[]) mixed av aG Tryz.func142 qqR qqR qqR ?_
 repeat'((conv=>whnf);first|(intro hq;(try simp only[vw]at hq);try exact ak hq)|apply aI|exact aj|apply nM|apply fM)
 all_goals((try apply vM);(try simp only[vq]at*);try omega)
 all_goals first
  |omega
  |skip
 rw[w1];conv=>whnf
 refine aV (X:=EuX) (fun p=>EuI n p.r p.s p.x p.y∧p.s.toNat<p.k∧R=zI p.k p.r p.s p.x p.y) (fun p=>[(6,.int .i64 p.r),(7,.int .i64 p.s),(8,.int .i64 p.x),(9,.int .i64 p.y),(10,.any)]) (fun p=>[]) (fun p=>p.s.toNat) ⟨m.toNat+1,n,m,0,1⟩ ⟨aL,mixed,av,aG,aU⟩ qqR ⟨EuI.start hn.1 hm0 hm1,by simp only;omega,hstart⟩ ?_ ?_
 ·all_goals exact aW
 rintro⟨k,r,s,x,y⟩ ⟨h1,h2,h3⟩
 simp only at h1 h2 h3;clear w1 w2 w3 hm0 hm1 hstart;by_cases hs:s=0
 ·subst hs
  rw[U2]at h3;subst h3;obtain⟨v1,v2,v3⟩:=q9 x n hn.1;have hx:=h1.xn
  repeat'((conv=>whnf);first|(intro hq;(try simp only[vw]at hq);try exact ak hq)|apply aI|exact aj|apply nM|apply fM)
  all_goals((try apply vM);(try simp only[vq]at*);try omega)
  all_goals first
   |omega
   |(simp only[v1];exact Sup.of rfl)
   |(rw[←v1];exact Sup.of rfl)
   |(simp only[v1];refine Sup.of ?_;simp[dX, *];done)
 ·obtain⟨k1,k2,k3,k4,k5⟩:=h1.step hs
  obtain⟨z,a,b,c,d,e⟩:=h1;have htd:r.tdiv s=r / s:=Int.tdiv_eq_ediv_of_nonneg qqO;have hqr:r / s≤r:=Int.ediv_le_self _ qqO;have hxy:=k1.yn;have hk3:=k1.s0
  repeat'((conv=>whnf);first|(intro hq;(try simp only[vw]at hq);try exact ak hq)|apply aI|exact aj|apply nM|apply fM)
  all_goals((try apply vM);(try simp only[vq]at*);try omega)
  all_goals(try rw[htd])
  all_goals(try simp only[htd])
  all_goals first
   |omega
   |(refine⟨⟨k-1,s,r-r / s*s,y,x-r / s*y⟩,[],⟨⟨k1,by simp only;omega,?_⟩,by simp only;omega⟩,?_⟩
     ·rw[h3]
      obtain⟨q,rfl⟩:∃q,k=q+1:=⟨k-1,qqO⟩;rw[zI,if_neg hs];rfl
     all_goals exact aW)
def Q7:PSp:=fun xs K=>match xs with
 | [.int .i64 a,.int .i64 n]=>VC ((0<n∧n≤999999999)∧(-999999999≤a∧a≤999999999))∧K (.tup [.int .i64 (ng a n).1,.bp (ng a n).2])
 |_=>False
theorem U3:POK Tryz.prog 142 Q7:=by
 intro xs K h;unfold Q7 at h;split at h
 ·exact⟨_,h.2,Yv _ _ h.1.get.1 h.1.get.2⟩
 ·exact h.elim
noncomputable def ajG:CPT:=aB 142 (aP Q7) ahf
theorem DK:bD Tryz.prog ajG:=au (aC U3) yD
def Q8 (a n:Int):Int × Int:=if¬(smQ a=true∧1≤n∧n≤999999999)then(0,3)else if(ng a n).2=true then((ng a n).1,0)else(0,7)
theorem U4 (a n:Int):aD Tryz.prog 45 [.int .i64 a,.int .i64 n] (.tup [.int .i64 (Q8 a n).1,.int .i64 (Q8 a n).2]):=by
 unfold Q8;by_cases h:smQ a=true∧1≤n∧n≤999999999
 ·rw[if_neg (fun g=>g h)]
  obtain⟨h1,h2,h3⟩:=h;have h4:=(oW _).1 h1;by_cases hb:(ng a n).2=true
  ·rw[if_pos hb]
   refine ay (md:=1) (rf:=[]) mixed av DK Tryz.func45 qqR qqR qqR ?_;all_goals exact EM
  ·rw[if_neg hb]
   refine ay (md:=1) (rf:=[]) mixed av DK Tryz.func45 qqR qqR qqR ?_;all_goals exact EM
 ·rw[if_pos h]
  have h':smQ a=true→1≤n→n≤999999999→False:=fun a b c=>h ⟨a,b,c⟩;refine ay (md:=1) (rf:=[]) mixed av DK Tryz.func45 qqR qqR qqR ?_
  repeat'((conv=>whnf);first|(intro hq;(try simp only[vw]at hq);try exact ak hq)|apply aI|exact aj|apply nM|apply fM)
  all_goals((try apply vM);(try simp only[vq]at*);try omega)
  all_goals first|omega|exact Sup.of rfl|(exfalso;simp_all;done)|(exfalso;exact h' qqA qqO qqO)
def uH (n:Int):Bool:=decide (2≤n∧∀d:Nat,d<n.toNat+1→2≤d→(d:Int)*d≤n→¬n % d=0)
theorem JK (n:Int):uH n=true↔2≤n∧∀d:Nat,2≤d→(d:Int)*d≤n→¬n % d=0:=by
 unfold uH;rw[decide_eq_true_iff];refine⟨fun g=>⟨g.1,fun d h1 h2=>g.2 d ?_ h1 h2⟩,fun g=>⟨g.1,fun d _=>g.2 d⟩⟩;have:(d:Int)*1≤d*d:=aof qqO qqO;omega
theorem aeo (n:Int) (hn:n≤999999999∧ -999999999≤n):aD Tryz.prog 144 [.int .i64 n] (.bp (uH n)):=by
 refine ay (md:=1) (rf:=[]) mixed av aG Tryz.func144 qqR qqR qqR ?_
 repeat'((conv=>whnf);first|(intro hq;(try simp only[vw]at hq);try exact ak hq)|apply aI|exact aj|apply nM|apply fM)
 all_goals((try apply vM);(try simp only[vq]at*);try omega)
 conv=>whnf
 refine aV (X:=Nat) (fun d=>(2≤d∧d≤40000)∧∀e:Nat,2≤e→e<d→(e:Int)*e≤n∧¬n % e=0) (fun d=>[(3,.int .i64 d)]) (fun _=>[]) (fun d=>40000-d) 2 ⟨aL,mixed,av,aG,aU⟩ qqR ⟨qqO,fun e h1 h2=>qqO⟩ ?_ ?_
 ·all_goals exact aW
 intro d ⟨⟨h1,h2⟩,h3⟩;have hdd:(d:Int)*d≤1600000000:=by
  have:=aol (show(d:Int)≤40000 by omega) (show(d:Int)≤40000 by omega) qqO qqO
  omega
 have hd0:0≤(d:Int)*d:=aoh qqO qqO;have hd1:(d:Int)*d≤n→d<40000:=fun h=>by
  refine aom fun g=>?_;have:=aol (show(40000:Int)≤d by omega) (show(40000:Int)≤d by omega) qqO qqO
  omega
 have hmono:∀e:Nat,d≤e→(d:Int)*d≤(e:Int)*e:=fun e h=>aol qqO qqO qqO qqO;by_cases hc:(d:Int)*d≤n
 ·have hlt:=hd1 hc
  have htm:n.tmod d=n % d:=aok qqO;by_cases hz:n % (d:Int)=0
  ·have e:uH n=false:=by
    exact Bool.eq_false_iff.2 fun g=>((JK n).1 g).2 d h1 hc hz
   rw[e];rw[←htm]at hz;clear hmono h3 hd1;all_goals exact jy
  ·have hz':¬n.tmod (d:Int)=0:=by rw[htm];exact hz
   have h3':∀e:Nat,2≤e→e<d+1→(e:Int)*e≤n∧¬n % e=0:=fun e a b=>by
    by_cases ed:e=d
    ·subst ed;exact⟨hc,hz⟩
    ·exact h3 e a qqO
   clear hmono h3 hd1
   repeat'((conv=>whnf);first|(intro hq;(try simp only[vw]at hq);try exact ak hq)|apply aI|exact aj|apply nM|apply fM)
   all_goals((try apply vM);(try simp only[vq]at*);try omega)
   all_goals first
    |omega
    |(refine⟨d+1,[],⟨⟨qqO,h3'⟩,qqO⟩,?_⟩
      all_goals exact aW)
 ·have e:uH n=decide (2≤n):=by
   rw[aon,JK,decide_eq_true_iff];refine⟨fun g=>g.1,fun g=>⟨g,fun e a b=>(h3 e a ?_).2⟩⟩;refine aom fun g2=>?_;have:=hmono e g2;omega
  rw[e];clear hmono h3 hd1;all_goals exact pU
def prP:PSp:=fun xs K=>match xs with
 | [.int .i64 n]=>VC (n≤999999999∧ -999999999≤n)∧K (.bp (uH n))
 |_=>False
theorem aiC:POK Tryz.prog 144 prP:=by
 intro xs K h;unfold prP at h;split at h
 ·exact⟨_,h.2,aeo _ h.1.get⟩
 ·exact h.elim
end Go.Eng.YtmkagljofpddpaaGreatDoor
namespace Go.Eng.YtmkagljofpddpaaGreatDoor
open Go.Proofs Go.Eng.Dig Go.Eng.Dec
set_option linter.unusedSimpArgs false
set_option linter.unusedVariables false
set_option maxHeartbeats 0
set_option maxRecDepth 100000
theorem ahg {p:UInt8→Bool} {l:List UInt8}:l.dropWhile p=[]↔∀b∈l,p b=true:=by
 induction l with
 |nil=>simp
 |cons b r ih=>
  rw[aoo];by_cases h:p b=true
  ·rw[if_pos h,ih];simp[h]
  ·rw[if_neg h];simp[h]
theorem ahh {p:UInt8→Bool} {l:List UInt8} (h:∀b∈l.dropWhile p,p b=true):∀b∈l,p b=true:=by
 induction l with
 |nil=>simp
 |cons b r ih=>
  rw[aoo]at h;by_cases hb:p b=true
  ·rw[if_pos hb]at h
   intro c hc;rcases List.mem_cons.1 hc with rfl|hc
   ·exact hb
   ·exact ih h c hc
  ·rw[if_neg hb]at h
   exact absurd (h b qqS) hb
theorem JL (l cs:List UInt8):Go.Lib.trimS l cs=[]↔∀b∈l,cs.contains b=true:=by
 unfold Go.Lib.trimS Go.Lib.trimLeftS Go.Lib.trimRightS;rw[ahg];constructor
 ·intro h b hb
  exact ahh (p:=(cs.contains ·)) (l:=l.reverse) (fun c hc=>h c (by simpa using hc)) b (by simpa using hb)
 ·intro h b hb
  have:b∈l.reverse.dropWhile (cs.contains ·):=by simpa using hb
  exact h b (by simpa using(List.dropWhile_sublist _).subset this)
theorem ahi {b c:Bool} (h:b=c):Sup (dX [.bp b]) (.bp c):=by subst h;exact Sup.of rfl
def dcT (s:ByteArray):Bool:=decide (s.data.toList=Go.Lib.decDigits (vB s))
noncomputable def ajH:CPT:=aB 224 (aP Jy) noC
theorem NG:bD Tryz.prog ajH:=au (aC X9) aG
theorem NH (s:ByteArray):dcT s=true↔s.data.toList=Go.Lib.decDigits (vB s):=decide_eq_true_iff
theorem JM (b:UInt8):zC.data.toList.contains b=true↔48≤b.toNat∧b.toNat≤57:=by
 have h:∀n:_root_.Fin 256,zC.data.toList.contains (UInt8.ofNat n.val)=true↔48≤n.val∧n.val≤57:=qqV;have:=h ⟨b.toNat,b.toNat_lt⟩
 rwa [UInt8.ofNat_toNat]at this
theorem Q9 (s:ByteArray):BK s=⟨#[]⟩↔l8 s:=by
 unfold BK l8 Dec.isD;constructor
 ·intro h b hb
  have h1:(Go.Lib.trimS s.data.toList zC.data.toList)=[]:=by
   have:=congrArg (fun x:ByteArray=>x.data.toList) h;simpa using this
  exact(JM b).1 ((JL _ _).1 h1 b hb)
 ·intro h
  rw[(JL _ _).2 fun b hb=>(JM b).2 (h b hb)]
theorem JN {s t:ByteArray} (h:s.data.toList=t.data.toList):s=t:=by
 cases s;cases t
 simp only[ByteArray.mk.injEq];exact Array.toList_inj.1 h
theorem U5 {s:ByteArray}:s=⟨#[]⟩↔s.data.toList=[]:=⟨fun h=>by rw[h],fun h=>JN h⟩
theorem abn {s:ByteArray} (hs:s≠⟨#[]⟩):∃r,s.data.toList=s.data.getD 0 0::r:=by
 have:s.data.toList≠[]:=fun h=>hs (U5.2 h);cases e:s.data.toList with
 |nil=>exact absurd e this
 |cons b r=>
  refine⟨r,?_⟩;rw[aiA,e];rfl
theorem U6 (s:ByteArray):dcT s=true↔s≠⟨#[]⟩∧l8 s∧((s.data.getD 0 0).toNat≠48∨s=⟨#[48]⟩):=by
 rw[NH];constructor
 ·intro h
  have hne:s≠⟨#[]⟩:=fun e=>by
   have h1:=kS (vB s);rw[←h,e]at h1;simp at h1
  refine⟨hne,by unfold l8;rw[h];exact yu _,?_⟩
  by_cases h0:vB s=0
  ·right
   rw[h0]at h;exact JN (by rw[h,dec_lt qqO];rfl)
  ·left
   obtain⟨b,r,e1,e2⟩:=X4 (vB s) h0;obtain⟨r',e3⟩:=abn hne;rw[h,e1]at e3;have e4:b=s.data.getD 0 0:=(List.cons.inj e3).1;rw[←e4];exact fun g=>e2 (UInt8.toNat_inj.1 (by show _=48;exact g))
 ·rintro⟨h1,h2,h3⟩
  obtain⟨r,e⟩:=abn h1;refine Um (s.data.toList.length-1) s.data.toList (by rw[e];simp) h2 fun b r' e2 hb=>?_
  rw[e]at e2;obtain⟨e3,e4⟩:=List.cons.inj e2;rcases h3 with g|g
  ·exact absurd (by rw[e3,hb];rfl) g
  ·have:=congrArg (fun x:ByteArray=>x.data.toList) g
   simp only[e]at this;rw[←e4];have h5:(s.data.getD 0 0::r).length=1:=by rw[this];rfl
   simpa using h5
theorem Ra (s:ByteArray) (hs:s.size≤1099511627776):aD Tryz.prog 177 [.str s] (.bp (dcT s)):=by
 have hsz:s.size=s.data.toList.length:=by rw[ak2];rfl
 have h1:=U6 s;have h2:=Q9 s;have h3:s≠⟨#[]⟩→0<s.size:=fun h=>by rw[hsz];exact anj.2 fun e=>h (U5.2 e)
 cases hd:dcT s
 ·rw[hd]at h1
  simp only[als,false_iff]at h1;refine ay (md:=1) (rf:=[]) mixed av NG Tryz.func177 qqR qqR qqR ?_
  repeat'((conv=>whnf);first|(intro hq;(try simp only[vw]at hq);try exact ak hq)|apply aI|exact aj|apply nM|apply fM)
  all_goals((try apply vM);(try simp only[vq]at*);try omega)
  all_goals first
   |(have:=h3 qqA;omega)
   |omega
   |exact kE rfl
   |(refine kE ?_;done)
   |(exfalso;exact h1 ⟨qqA,h2.1 qqA,.inl fun g=>hq (congrArg Int.ofNat g)⟩)
   |(refine ahi ?_;exact decide_eq_false fun g=>h1 ⟨qqA,h2.1 qqA,.inr g⟩)
 ·rw[hd]at h1
  obtain⟨g1,g2,g3⟩:=h1.1 rfl;have h3:=h3 g1;have h2:=h2.2 g2;refine ay (md:=1) (rf:=[]) mixed av NG Tryz.func177 qqR qqR qqR ?_
  repeat'((conv=>whnf);first|(intro hq;(try simp only[vw]at hq);try exact ak hq)|apply aI|exact aj|apply nM|apply fM)
  all_goals((try apply vM);(try simp only[vq]at*);try omega)
  all_goals first
   |omega
   |contradiction
   |exact kE rfl
   |(refine ahi ?_;exact decide_eq_true (g3.resolve_left fun g=>hq fun e=>g (Int.ofNat.inj e)))
def JO:PSp:=fun xs K=>match xs with
 | [.str s]=>VC (s.size≤1099511627776)∧K (.bp (dcT s))
 |_=>False
theorem Yw:POK Tryz.prog 177 JO:=by
 intro xs K h;unfold JO at h;split at h
 ·exact⟨_,h.2,Ra _ h.1.get⟩
 ·exact h.elim
theorem BO (a b:ByteArray):(a++b).data.toList=a.data.toList++b.data.toList:=by
 rw[ByteArray.data_append,Array.toList_append]
theorem oZ (s:ByteArray):s.data.toList.length=s.size:=by rw[ak2];rfl
theorem yE (x:Nat):(bX x).data.toList=Go.Lib.decDigits x:=by unfold bX;rw[List.toList_toArray]
theorem o7 (x:Nat):bX x=itB (x:Int):=(Nz x).symm
theorem JQ (x:Nat):0<(bX x).size:=by rw[lK];exact kS x
theorem U7 (z:Int):∀b∈(itB z).data.toList,b≠47:=by
 intro b hb;rw[nW,BO]at hb;rcases akH.1 hb with h|h
 ·unfold sgB at h
  split at h
  ·rw[anQ.1 h];decide
  ·cases h
 ·rw[yE]at h
  have:=yu z.natAbs b h
  rintro rfl
  simp at this
theorem Yx {l:List UInt8} (h:∀b∈l,b≠47):slP l=l.length:=by
 unfold slP;exact aop.2 fun b hb=>by rw[beq_eq_false_iff_ne];exact h b hb
theorem aep {l m:List UInt8} (h:∀b∈l,b≠47):slP (l++47::m)=l.length:=by
 have h1:l.findIdx (·==47)=l.length:=aop.2 fun b hb=>by rw[beq_eq_false_iff_ne];exact h b hb
 unfold slP;rw[List.findIdx_append,h1,if_neg qqO];rw[aoe,show((47:UInt8)==47)=true from rfl,cond_true,akS]
theorem BP {q:Rat} (h:q.den=1):txQ q=itB q.num:=by unfold txQ;rw[if_pos h]
theorem U8 {q:Rat} (h:¬q.den=1):txQ q=itB q.num++kSl++bX q.den:=by unfold txQ;rw[if_neg h]
theorem Rb {q:Rat} (h:¬q.den=1):(txQ q).data.toList=(itB q.num).data.toList++47::(bX q.den).data.toList:=by
 rw[U8 h,BO,BO,anN];rfl
theorem qw (q:Rat):slP (txQ q).data.toList=(itB q.num).size:=by
 by_cases h:q.den=1
 ·rw[BP h,Yx (U7 _),oZ]
 ·rw[Rb h,aep (U7 _),oZ]
theorem ni (q:Rat):(txQ q).size=(itB q.num).size+(if q.den=1 then 0 else(bX q.den).size+1):=by
 by_cases h:q.den=1
 ·rw[BP h,if_pos h];rfl
 ·rw[U8 h,if_neg h,ByteArray.size_append,ByteArray.size_append,show(kSl:ByteArray).size=1 from rfl];omega
theorem DL (q:Rat):(txQ q).extract 0 (itB q.num).size=itB q.num:=by
 rw[ext_eq,an0,Nat.sub_zero,←oZ (itB q.num)];by_cases h:q.den=1
 ·rw[BP h,amJ,oQ]
 ·rw[Rb h,List.take_left,oQ]
theorem DN {q:Rat} (h:¬q.den=1):(txQ q).extract ((itB q.num).size+1) (txQ q).size=bX q.den:=by
 rw[ext_eq,Rb h,←oZ (itB q.num),ni,if_neg h];have e:((itB q.num).data.toList++47::(bX q.den).data.toList).drop ((itB q.num).data.toList.length+1)=(bX q.den).data.toList:=by
  rw[←anY,List.drop_left];rfl
 rw[e,anZ (by rw[oZ,oZ];omega),oQ]
theorem JR (z:Int):preB (itB z) kMi=decide (z<0):=by
 by_cases h:z<0
 ·rw[decide_eq_true h,nW]
  unfold sgB preB Go.Lib.hasPrefix;rw[if_pos h,BO];rfl
 ·rw[decide_eq_false h,nW]
  unfold sgB;rw[if_neg h,ByteArray.empty_append];exact wS _
theorem U9 (z:Int):l8 (dR (itB z) kMi):=by
 rw[yw];unfold l8;rw[yE];exact yu _
theorem BQ (z:Int):rdI (itB z)=z:=by
 unfold rdI;rw[JR,yw];unfold vB;rw[yE,ag7];by_cases h:z<0
 ·rw[decide_eq_true h,if_pos rfl];omega
 ·rw[decide_eq_false h,if_neg qqS];omega
theorem qx {a b:Int} (h:itB a=itB b):a=b:=by rw[←BQ a,←BQ b,h]
theorem ahj {p q:Rat} (h:txQ p=txQ q):p=q:=by
 have h1:=qw p;have h2:=qw q;rw[h]at h1;have h3:=DL p;have h4:=DL q;rw[h,←h1,h2]at h3;have hn:p.num=q.num:=qx (h3.symm.trans h4);have hs1:=ni p;have hs2:=ni q;rw[h,hn]at hs1;have d1:=JQ p.den;have d2:=JQ q.den;have hd:p.den=q.den:=by
  by_cases a:p.den=1
  ·by_cases b:q.den=1
   ·omega
   ·rw[if_pos a]at hs1;rw[if_neg b]at hs2;omega
  ·by_cases b:q.den=1
   ·rw[if_neg a]at hs1;rw[if_pos b]at hs2;omega
   ·have t1:=DN a
    have t2:=DN b;rw[hn,h,t2,o7,o7]at t1;have:=qx t1;omega
 exact Rat.ext hn hd
def isQ (s:ByteArray):Prop:=∃q,s=txQ q
open Classical in
noncomputable def rdQ (s:ByteArray):Rat:=if h:∃q,s=txQ q then h.choose else 0
theorem wV (q:Rat):rdQ (txQ q)=q:=by
 have h:∃p,txQ q=txQ p:=⟨q,rfl⟩;unfold rdQ;rw[dif_pos h];exact ahj h.choose_spec.symm
theorem JU (q:Rat):isQ (txQ q):=⟨q,rfl⟩
def fmB (neg br:Bool) (N M:ByteArray):Bool:=dcT N&&(!neg||decide (N≠⟨#[48]⟩))&&(!br||(dcT M&&decide (M≠⟨#[48]⟩)&&decide (M≠⟨#[49]⟩)))
def lrB (N M:ByteArray):Bool:=decide (600<N.size∨600<M.size)
def cmB (br:Bool) (N M:ByteArray):Bool:=br&&decide (anL (vB N) (vB M)≠1)
def wW (neg br:Bool) (N M:ByteArray):Int:=if fmB neg br N M=false then 1 else if lrB N M=true then 4 else if cmB br N M=true then 1 else 0
def wX (a:ByteArray):Int:=wW (preB a kMi) (rH (dR a kMi)) (mY (dR a kMi)) (mZ (dR a kMi))
theorem aer {s:ByteArray} (h:dcT s=true):s=bX (vB s):=JN (by rw[yE];exact(NH s).1 h)
theorem Va {s:ByteArray} (h:dcT s=true):l8 s:=((U6 s).1 h).2.1
theorem r9 {s:ByteArray} (h:dcT s=true):preB s kMi=false∧dR s kMi=s∧rdI s=vB s:=by
 have e:=aer h;have h1:=BQ (vB s:Int);have h2:=JR (vB s:Int);rw[←o7,←e]at h1 h2;have h3:preB s kMi=false:=h2.trans (decide_eq_false qqO);refine⟨h3,?_,h1⟩;have h4:=yw (vB s:Int);rw[←o7,←e,an4]at h4;rw[h4,←e]
set_option exponentiation.threshold 4000 in
theorem Rf {s:ByteArray} (h:s.size≤600) (hd:dcT s=true):Lw (vB s)≤100:=by
 have h1:=QJ (show Dec.isD s.data.toList from Va hd);have h2:10 ^ s.data.toList.length≤10 ^ 600:=amN qqO (by rw[ak2];exact h)
 have h3:(10:Nat) ^ 600≤W ^ 100:=qqV;exact qW (show vB s<W ^ 100 from by unfold vB;omega)
noncomputable def ajI:CPT:=aB 175 (aP Qz) (aB 176 (aP QZ) (aB 177 (aP JO) (aB 114 (aP l7) (aB 113 (aP qp) (aB 179 (aP GU) (aB 178 (aR XV) (aB 108 (aR ofP) (aB 118 (aR GQ) noC))))))))
theorem aes:bD Tryz.prog ajI:=au (aC adS) (au (aC UY) (au (aC Yw) (au (aC iV) (au (aC iL) (au (aC Nt) (au (aF Ug) (au (aF oC) (au (aF Dt) aG))))))))
theorem Yy (s:ByteArray):(dR s kMi).size≤s.size:=by
 unfold dR;show(anT _).size≤_;rw[anU];unfold Go.Lib.trimPrefix;have:s.data.toList.length=s.size:=by rw[ak2];rfl
 split
 ·rw[alO];omega
 ·omega
theorem NJ (s:ByteArray) (i j:Nat) (h:j≤s.size):(s.extract i j).size≤s.size:=by
 rw[ByteArray.size_extract];omega
theorem Vb (s:ByteArray):(mY s).size≤s.size:=by
 unfold mY;split
 ·exact NJ _ _ _ qqO
 ·exact aku _
theorem Vd (s:ByteArray):(mZ s).size≤s.size:=by
 unfold mZ;split
 ·exact NJ _ _ _ qqO
 ·exact alq _
theorem zJ (a b:Int):dG [a,b]=if a=0 then b else a:=by
 simp only[dG];by_cases h:a=0
 ·rw[if_pos h,if_pos h]
  by_cases g:b=0
  ·rw[if_pos g,g]
  ·rw[if_neg g]
 ·rw[if_neg h,if_neg h]
theorem Yz {s:ByteArray} (h:dcT s=true) (hs:s.size≤1000000000):s.size≤1000000000∧l8 (dR s kMi):=⟨hs,by rw[(r9 h).2.1];exact Va h⟩
theorem aeu {N M:ByteArray} (h1:dcT N=true) (h2:dcT M=true) (g1:N.size≤600) (g2:M.size≤600):(nrm (rdI N)).OK∧(nrm (rdI M)).OK∧(nrm (rdI N)).L≤100000000000∧(nrm (rdI M)).L≤100000000000:=by
 rw[(r9 h1).2.2,(r9 h2).2.2];refine⟨bO _,bO _,?_,?_⟩
 ·rw[NI.L_nrm,an4];exact aky (Rf g1 h1) qqD
 ·rw[NI.L_nrm,an4];exact aky (Rf g2 h2) qqD
theorem NK {N M:ByteArray} (h1:dcT N=true) (h2:dcT M=true):anL (nrm (rdI N)).val.natAbs (nrm (rdI M)).val.natAbs=anL (vB N) (vB M):=by
 rw[bg,bg,(r9 h1).2.2,(r9 h2).2.2,an4,an4]
theorem aev {N M:ByteArray} (h1:dcT N=true) (h2:dcT M=true) (g1:N.size≤600) (g2:M.size≤600):(nr (anL (nrm (rdI N)).val.natAbs (nrm (rdI M)).val.natAbs)).OK∧(⟨1,[]⟩:NI).OK∧(nr (anL (nrm (rdI N)).val.natAbs (nrm (rdI M)).val.natAbs)).L≤100000000000∧(⟨1,[]⟩:NI).L≤100000000000:=by
 rw[NK h1 h2];refine⟨bO _,Dz,?_,qqV⟩;unfold nr;rw[NI.L_nrm,an4];have hv:=Rf g1 h1;by_cases h0:vB N=0
 ·rw[h0,Nat.gcd_zero_left];exact aky (Rf g2 h2) qqD
 ·exact aky (fq (Nat.gcd_le_left _ qqO)) (aky hv qqD)
theorem NM {N M:ByteArray} (h1:dcT N=true) (h2:dcT M=true):(mX (nr (anL (nrm (rdI N)).val.natAbs (nrm (rdI M)).val.natAbs)).val (NI.val ⟨1,[]⟩)≠0)=(anL (vB N) (vB M)≠1):=by
 rw[NK h1 h2];unfold nr;rw[bg];show(mX _ 1≠0)=_;generalize anL (vB N) (vB M)=g
 unfold mX;refine propext ⟨fun h e=>h ?_,fun h e=>h ?_⟩
 ·subst e;simp
 ·split at e
  ·omega
  ·split at e<;>omega
theorem yF {a b:Int} (h:¬dG [a,b]≠0):a=0∧b=0:=by
 rw[zJ]at h;split at h<;>omega
theorem yG {M:ByteArray} (h:(if 600<(M.size:Int)then(4:Int)else 0)=0):M.size≤600:=by
 split at h<;>omega
theorem DR {x y:Int} (h:x=y):Sup (dX [.int .i64 x]) (.int .i64 y):=by subst h;exact Sup.of rfl
theorem Rh (a:ByteArray) (ha:a.size≤1000000000):aD Tryz.prog 100 [.str a] (.int .i64 (wX a)):=by
 have h1:(dR a ⟨#[45]⟩).size≤a.size:=Yy a;have h2:(mY (dR a ⟨#[45]⟩)).size≤(dR a ⟨#[45]⟩).size:=Vb _;have h3:(mZ (dR a ⟨#[45]⟩)).size≤(dR a ⟨#[45]⟩).size:=Vd _;have hr:wX a=wW (preB a ⟨#[45]⟩) (rH (dR a ⟨#[45]⟩)) (mY (dR a ⟨#[45]⟩)) (mZ (dR a ⟨#[45]⟩)):=rfl;rw[hr];refine ay (md:=1) (rf:=[]) mixed av aes Tryz.func100 qqR qqR qqR ?_
 repeat'((conv=>whnf);first|(intro hq;(try simp only[vw]at hq);try exact ak hq)|apply aI|exact aj|apply nM|apply fM)
 all_goals((try apply vM);(try simp only[vq]at*);try omega)
 all_goals(try omega)
 all_goals(
  generalize hN:mY (dR a ⟨#[45]⟩)=N at*
  generalize hM:mZ (dR a ⟨#[45]⟩)=M at*
  generalize hI:rH (dR a ⟨#[45]⟩)=br at*
  generalize hP:preB a ⟨#[45]⟩=neg at*
  clear hN hM hI hP)
 all_goals first
  |(exfalso;have e1:br=true:=qqA
    have e2:br=false:=qqA;rw[e1]at e2;cases e2)
  |exact Yz qqA qqO
  |(have q:=yG (yF qqA).2;exact aeu qqA qqA qqO q)
  |(have q:=yG (yF qqA).2;exact aev qqA qqA qqO q)
  |(refine DR ?_;have h1:dcT N=true:=qqA
    have h2:dcT M=true:=qqA;have e:=NM h1 h2;simp only[dI,e];have q:=yF qqA;have q2:=yG q.2;simp_all[wW,fmB,lrB,cmB];omega)
  |(refine DR ?_;have h1:dcT N=true:=qqA
    have h2:dcT M=true:=qqA;have e:=NM h1 h2;simp only[dI,e];have q:=yF qqA;have q2:=yG q.2;simp_all[wW,fmB,lrB,cmB];done)
  |(exfalso;have q:=(yF qqA).2;simp at q;done)
  |(exfalso;have q:=(yF qqA).1;simp at q;done)
  |(refine DR ?_;simp only[zJ]at*;simp_all[wW,fmB,lrB,cmB];done)
  |(refine DR ?_;by_cases c0:N=⟨#[48]⟩<;>by_cases c1:M=⟨#[49]⟩<;>by_cases c2:600<(M.size:Int)<;>simp only[zJ]at* <;>simp_all[wW,fmB,lrB,cmB]<;>omega)
  |(refine DR ?_;by_cases c0:N=⟨#[48]⟩<;>by_cases c1:M=⟨#[49]⟩<;>by_cases c2:600<(M.size:Int)<;>simp_all[wW,fmB,lrB,cmB,zJ]<;>first|done|omega)
  |(refine DR ?_;simp only[zJ]at*;simp_all[wW,fmB,lrB,cmB];omega)
theorem aew (q:Rat):rH (txQ q)=decide (q.den≠1):=by
 unfold rH;rw[qw,ni,decide_eq_decide];by_cases h:q.den=1
 ·rw[if_pos h];omega
 ·rw[if_neg h];omega
theorem aex (q:Rat):mY (txQ q)=itB q.num:=by
 unfold mY;rw[qw];split
 ·exact DL q
 ·rename_i h
  have:q.den=1:=by
   refine Decidable.byContradiction fun g=>h ?_;rw[ni,if_neg g];omega
  exact BP this
theorem aey {q:Rat} (h:¬q.den=1):mZ (txQ q)=bX q.den:=by
 unfold mZ;rw[qw,if_pos,DN h];rw[ni,if_neg h];omega
theorem jB {c d:CL} (h:gK c d) {S:Imm} {w:World} {ι:Ix} {t:Tok} {v:Value} (hr:Rep S w ι (.isl c t) v):Rep S w ι (.isl d .none) v:=by
 have hc:=h.cnt;have he:=h.esz;have hn:d.ncell=c.ncell:=by rw[bF,bF,hc,he]
 cases hr with
 |islnil _ _ _ g=>exact .islnil _ _ _ (by rw[hc];exact g)
 |isl _ _ _ b off cap h1 h2 h3 h4 h5=>
  rw[←hc];refine .isl _ _ _ b off cap (by rw[hc];exact h1) (fun j hj=>h2 j qqO) (fun j hj=>by rw[h.get j qqO];exact h3 j qqO) (fun g=>by cases g) (fun k g=>by cases g)
theorem YA {c d:CL} (h:gK c d) (t:Tok):Sup (.isl c t) (.isl d .none):=⟨fun hr=>jB h hr⟩
theorem JV {p p' q q':PV} (h1:∀{S:Imm} {w:World} {ι:Ix} {v:Value},Rep S w ι p v→Rep S w ι p' v) (h2:∀{S:Imm} {w:World} {ι:Ix} {v:Value},Rep S w ι q v→Rep S w ι q' v):Sup (.tup [p,q]) (.tup [p',q']):=⟨fun hr=>by
 cases hr with
 |tup _ _ vs hl hh=>
  refine .tup _ _ vs hl fun i hi=>?_;have:i=0∨i=1:=by simp at hi;omega
  rcases this with rfl|rfl
  ·exact h1 (hh 0 qqS)
  ·exact h2 (hh 1 qqS)⟩
theorem uI {c d:CL} (h:gK c d) (t:Tok) (q:PV):Sup (.tup [.isl c t,q]) (.tup [.isl d .none,q]):=JV (fun hr=>jB h hr) (fun hr=>hr)
theorem zK {d:CL} (h:d.cnt=0) (q:PV):Sup (.tup [.nils,q]) (.tup [.isl d .none,q]):=JV (fun hr=>by cases hr;exact .islnil _ _ _ h) (fun hr=>hr)
theorem BR {cs:List PV} {n:Nat} {f:Nat→PV} (hl:cs.length=n) (h:∀i,i<n→aH cs i=f i):gK (.pv cs) (.gen n f):=⟨by simp[CL.cnt,hl],rfl,fun j hj=>by simp only[CL.ncell]at hj;simp only[CL.get];exact(h j qqO).symm⟩
theorem aez {q:Rat} (h:q.den=1):can q=⟨nrm q.num,fI⟩:=by
 unfold can;rw[h];congr 1
noncomputable def ajJ:CPT:=aB 176 (aP QZ) (aB 179 (aP GU) (aB 112 (aR wT) noC))
theorem NP:bD Tryz.prog ajJ:=au (aC UY) (au (aC Nt) (au (aF uG) aG))
theorem Ve (q:Rat) (hs:(txQ q).size≤1000000000):aD Tryz.prog 115 [.str (txQ q)] (frV (can q)):=by
 have h1:=aew q;have h2:=aex q;have h3:=U9 q.num;have h4:=U9 (q.den:Int);have h5:=BQ q.num;have h6:=BQ (q.den:Int);have h7:=ni q;by_cases hd:q.den=1
 ·rw[aez hd]
  rw[decide_eq_false (p:=q.den≠1) (fun g=>g hd)]at h1;refine ay (md:=1) (rf:=[]) mixed av NP Tryz.func115 qqR qqR qqR ?_
  repeat'((conv=>whnf);first|(intro hq;(try simp only[vw]at hq);try exact ak hq)|apply aI|exact aj|apply nM|apply fM)
  all_goals((try apply vM);(try simp only[vq]at*);try omega)
  all_goals(try simp only[h1,h2,h5]at*)
  all_goals first
   |omega
   |contradiction
   |(exfalso;simp_all;done)
   |exact⟨qqO,h3⟩
   |exact Sup.of rfl
 ·have h8:=aey hd
  rw[o7]at h8;rw[if_neg hd,o7]at h7;rw[decide_eq_true (p:=q.den≠1) hd]at h1;refine ay (md:=1) (rf:=[]) mixed av NP Tryz.func115 qqR qqR qqR ?_
  repeat'((conv=>whnf);first|(intro hq;(try simp only[vw]at hq);try exact ak hq)|apply aI|exact aj|apply nM|apply fM)
  all_goals((try apply vM);(try simp only[vq]at*);try omega)
  all_goals(try simp only[h1,h2,h5,h6,h8]at*)
  all_goals first
   |omega
   |contradiction
   |(exfalso;simp_all;done)
   |exact⟨qqO,h3⟩
   |exact⟨qqO,h4⟩
   |exact Sup.of rfl
def GY:PSp:=fun xs K=>match xs with
 | [.str s]=>VC (isQ s∧s.size≤1000000000)∧K (frV (can (rdQ s)))
 |_=>False
theorem NQ:POK Tryz.prog 115 GY:=by
 intro xs K hk;unfold GY at hk;split at hk
 ·obtain⟨⟨q,rfl⟩,h2⟩:=hk.1.get
  refine⟨_,hk.2,?_⟩;rw[wV];exact Ve q h2
 ·exact hk.elim
def rsS (q:Rat):ByteArray:=if lgQ q=true then⟨#[]⟩else txQ q
def rsE (q:Rat):Int:=if lgQ q=true then 4 else 0
noncomputable def ajK:CPT:=aB 192 (aR JI) (aB 193 (aR QW) noC)
theorem aeA:bD Tryz.prog ajK:=au (aF JJ) (au (aF NA) aG)
theorem LD (a:Fr) (h:FT a):aD Tryz.prog 111 [frV a] (.tup [.str (rsS a.val),.int .i64 (rsE a.val)]):=by
 unfold rsS rsE;cases hl:lgQ a.val
 all_goals(
  refine ay (md:=1) (rf:=[]) mixed av aeA Tryz.func111 qqR qqR qqR ?_
  repeat'((conv=>whnf);first|(intro hq;(try simp only[vw]at hq);try exact ak hq)|apply aI|exact aj|apply nM|apply fM)
  all_goals((try apply vM);(try simp only[vq]at*);try omega)
  all_goals(try simp only[cO,hl]at*)
  all_goals first
   |exact h
   |contradiction
   |exact Sup.of rfl
   )
def GZ:PSp:=fun xs K=>match xs with| [p]=>fr1 p fun a=>VC (FT a)∧K (.tup [.str (rsS a.val),.int .i64 (rsE a.val)])|_=>False
theorem DT:POK Tryz.prog 111 GZ:=zH (C:=fun a=>FT a) (r:=fun a=>.tup [.str (rsS a.val),.int .i64 (rsE a.val)]) fun a h=>LD a h
noncomputable def ajL:CPT:=aB 108 (aR ofP) (aB 136 (aR QO) (aB 111 (aR GZ) noC))
theorem NR:bD Tryz.prog ajL:=au (aF oC) (au (aF Nv) (au (aF DT) aG))
def ofS (a n:Int):ByteArray:=if n=0 then⟨#[]⟩else rsS (Rat.divInt a n)
def ofE (a n:Int):Int:=if n=0 then 6 else rsE (Rat.divInt a n)
theorem YB (a n:Int) (ha:wR a) (hn:wR n):aD Tryz.prog 39 [.int .i64 a,.int .i64 n] (.tup [.str (ofS a n),.int .i64 (ofE a n)]):=by
 unfold ofS ofE;have oa:(⟨a,[]⟩:NI).OK:=.inl ⟨rfl,ha⟩;have on:(⟨n,[]⟩:NI).OK:=.inl ⟨rfl,hn⟩;have la:(⟨a,[]⟩:NI).L≤1:=by unfold NI.L;rw[NI.val_sm];refine nT ?_;unfold wR at ha;omega
 have ln:(⟨n,[]⟩:NI).L≤1:=by unfold NI.L;rw[NI.val_sm];refine nT ?_;unfold wR at hn;omega
 by_cases h0:n=0
 ·rw[if_pos h0,if_pos h0]
  refine ay (md:=1) (rf:=[]) mixed av NR Tryz.func39 qqR qqR qqR ?_;all_goals exact pU
 ·rw[if_neg h0,if_neg h0]
  have hft:FT (fJ ⟨a,[]⟩ ⟨n,[]⟩):=by
   refine⟨Yj oa on,?_⟩;unfold Fr.L;rw[FJ];exact aky (UC (show NI.val ⟨n,[]⟩≠0 from h0) la ln) qqD
  have hv:(fJ ⟨a,[]⟩ ⟨n,[]⟩).val=Rat.divInt a n:=FJ;refine ay (md:=1) (rf:=[]) mixed av NR Tryz.func39 qqR qqR qqR ?_
  repeat'((conv=>whnf);first|(intro hq;(try simp only[vw]at hq);try exact ak hq)|apply aI|exact aj|apply nM|apply fM)
  all_goals((try apply vM);(try simp only[vq]at*);try omega)
  all_goals(try simp only[cO,hv])
  all_goals first
   |omega
   |exact⟨oa,on,h0,qqO,qqO⟩
   |exact hft
   |exact Sup.of rfl
end Go.Eng.YtmkagljofpddpaaGreatDoor
namespace Go.Eng.Pm
set_option linter.unusedSimpArgs false
set_option linter.unusedVariables false
theorem Vf:∀(N:Nat) (c:Nat→Nat),(∀i,i<N+1→c i<N)→∃i j,i<j∧j<N+1∧c i=c j:=by
 intro N;induction N with
 |zero=>intro c h;have:=h 0 qqO;omega
 |succ N ih=>
  intro c h;by_cases hv:∃i,i<N+1∧c i=c (N+1)
  ·obtain⟨i,h1,h2⟩:=hv;exact⟨i,N+1,qqO,qqO,h2⟩
  ·have hne:∀i,i<N+1→c i≠c (N+1):=fun i hi e=>hv ⟨i,hi,e⟩
   have hl:=h (N+1) qqO;obtain⟨i,j,h1,h2,h3⟩:=ih (fun i=>if c i=N then c (N+1)else c i) (fun i hi=>by
    have a:=h i qqO;have b:=hne i hi;by_cases e:c i=N
    ·simp only[e,if_true];omega
    ·simp only[e,if_false];omega)
   refine⟨i,j,h1,qqO,?_⟩;have a:=hne i qqO;have b:=hne j qqO;by_cases e1:c i=N
   ·by_cases e2:c j=N
    ·omega
    ·simp only[e1,e2,if_true,if_false]at h3;omega
   ·by_cases e2:c j=N
    ·simp only[e1,e2,if_true,if_false]at h3;omega
    ·simp only[e1,e2,if_false]at h3;exact h3
theorem YC {c:Nat→Nat} {N:Nat} (hb:∀i,i<N→c i<N) (h:∀i j,i<j→j<N→c i≠c j) (y:Nat) (hy:y<N):∃i,i<N∧c i=y:=by
 rcases aoq (∃i,i<N∧c i=y)with hh|hh
 ·exact hh
 ·exfalso
  have hne:∀i,i<N→c i≠y:=fun i hi e=>hh ⟨i,hi,e⟩;obtain⟨M,rfl⟩:∃M,N=M+1:=⟨N-1,qqO⟩;obtain⟨i,j,h1,h2,h3⟩:=Vf M (fun i=>if c i=M then y else c i) (fun i hi=>by
   have a:=hb i hi;have b:=hne i hi;by_cases e:c i=M
   ·simp only[e,if_true];omega
   ·simp only[e,if_false];omega)
  have a:=hne i qqO;have b:=hne j qqO;have d:=h i j h1 h2;by_cases e1:c i=M
  ·by_cases e2:c j=M
   ·omega
   ·simp only[e1,e2,if_true,if_false]at h3;omega
  ·by_cases e2:c j=M
   ·simp only[e1,e2,if_true,if_false]at h3;omega
   ·simp only[e1,e2,if_false]at h3;omega
theorem FL {p:Nat→Bool} {n:Nat} (h:∀i,i<n→p i=false):(akE n).find? p=none:=by
 simp only[am3,amn];exact fun i hi=>by simp[h i hi]
theorem wJ {p:Nat→Bool} {n y:Nat} (hy:y<n) (hp:p y=true) (h:∀i,i<y→p i=false):(akE n).find? p=some y:=by
 have e:akE n=akE y++(y::List.range' (y+1) (n-y-1)):=by
  rw[amg,amg,show n=y+(1+(n-y-1)) by omega,←aor,←aor]
  simp
 rw[e,List.find?_append,FL h];simp[hp]
def iM (f:Nat→Int) (n:Nat):Int:=match(akE n).find? (fun i=>decide (f i≠0))with
 |some i=>f i
 |none=>0
theorem jL {f:Nat→Int} {n:Nat} (h:∀i,i<n→f i=0):iM f n=0:=by
 unfold iM;rw[FL (fun i hi=>by simpa using h i hi)]
theorem kT {f:Nat→Int} {n y:Nat} (hy:y<n) (hp:f y≠0) (h:∀i,i<y→f i=0):iM f n=f y:=by
 unfold iM;rw[wJ hy (by simpa using hp) (fun i hi=>by simpa using h i hi)]
theorem LG {f:Nat→Int} {n:Nat} (h:iM f n=0):∀i,i<n→f i=0:=by
 intro i hi;unfold iM at h;cases hf:(akE n).find? (fun i=>decide (f i≠0))with
 |some j=>
  rw[hf]at h;have:=aos hf;simp only[decide_eq_true_eq]at this;exact absurd h this
 |none=>
  rw[am3]at hf;simpa using hf i (by simpa using hi)
theorem wY (l:List Int) (b:Int):b∈l↔∃i,i<l.length∧l.getD i 0=b:=by
 rw[List.mem_iff_getElem];constructor
 ·rintro⟨i,hi,e⟩;exact⟨i,hi,by rw[akG,akL hi];exact e⟩
 ·rintro⟨i,hi,e⟩;exact⟨i,hi,by rw[akG,akL hi]at e;exact e⟩
theorem Gn (l:List Int) (b:Int) (i:Nat) (hi:i<l.length):b∈l.take (i+1)↔b∈l.take i∨b=l.getD i 0:=by
 have e:l.take (i+1)=l.take i++[l.getD i 0]:=by rw[List.take_add_one,akG,akL hi];rfl
 rw[e,akH,anQ]
def qy (p:List Int) (i:Nat):Int:=if p.getD i 0<0∨p.length≤p.getD i 0∨p.getD i 0∈p.take i then 14 else 0
def bZ (e1:Int) (p:List Int):Int:=if 256<p.length then e1 else iM (qy p) p.length
def jP (p:List Int) (i:Nat):List Bool:=(akE p.length).map fun x:Nat=>decide ((x:Int)∈p.take i)
theorem FM (p:List Int) (i:Nat):(jP p i).length=p.length:=by simp[jP]
theorem JW (p:List Int) (i:Nat) (x:Int) (h:0≤x∧x<p.length):(jP p i).getD x.toNat false=decide (x∈p.take i):=by
 have:x.toNat<p.length:=qqO;simp[jP,akG,this,show max x 0=x by omega]
theorem Ri (p:List Int):akP p.length false=jP p 0:=by
 refine amC (by simp[jP]) fun j h1 h2=>by simp[jP]
theorem BS (p:List Int) (i:Nat) (hi:i<p.length) (h:0≤p.getD i 0∧p.getD i 0<p.length):(jP p i).set (p.getD i 0).toNat true=jP p (i+1):=by
 refine amC (by simp[jP]) fun j h1 h2=>?_
 rw[amF];have hj:j<p.length:=by simpa [jP]using h1
 simp only[jP,amG,amH,Gn p _ i hi];by_cases e:(p.getD i 0).toNat=j
 ·rw[if_pos e];exact(decide_eq_true (.inr qqO)).symm
 ·rw[if_neg e]
  have:¬((j:Int)=p.getD i 0):=qqO;simp only[this,or_false]
structure OK (p:List Int):Prop where
 rng:∀i,i<p.length→0≤p.getD i 0∧p.getD i 0<p.length
 inj:∀i j,i<p.length→j<p.length→p.getD i 0=p.getD j 0→i=j
theorem YD {p:List Int} {i j:Nat} (hi:i<j) (hj:j≤p.length):p.getD i 0∈p.take j:=by
 rw[wY];refine⟨i,by rw[alm];omega,?_⟩
 simp[akG,aln,hi]
theorem oD {p:List Int} {e:Int} (he:e≠0) (h:bZ e p=0):OK p:=by
 unfold bZ at h;split at h
 ·exact absurd h he
 have hz:=LG h;have h1:∀i,i<p.length→0≤p.getD i 0∧p.getD i 0<p.length∧p.getD i 0∉p.take i:=fun i hi=>by
  have:=hz i hi;unfold qy at this;split at this
  ·omega
  ·rename_i hn
   exact⟨qqO,qqO,fun hm=>hn (.inr (.inr hm))⟩
 have h2:∀i j,i<j→j<p.length→p.getD i 0≠p.getD j 0:=fun i j hi hj e=>(h1 j hj).2.2 (by rw[←e];exact YD hi qqO)
 refine⟨fun i hi=>⟨(h1 i hi).1,(h1 i hi).2.1⟩,fun i j hi hj e=>?_⟩;rcases aot i j with g|g|g
 ·exact absurd e (h2 i j g hj)
 ·exact g
 ·exact absurd e.symm (h2 j i g hi)
theorem zL {p:List Int} {e:Int} (he:e≠0) (h:bZ e p=0):p.length≤256:=by
 unfold bZ at h;split at h
 ·exact absurd h he
 ·omega
theorem sj {p:List Int} (h:OK p) (hl:p.length≤256) (e:Int):bZ e p=0:=by
 unfold bZ;rw[if_neg qqO];refine jL fun i hi=>?_;unfold qy;rw[if_neg];have:=h.rng i hi
 rintro(g|g|g)
 ·omega
 ·omega
 ·rw[wY]at g
  obtain⟨j,hj,e⟩:=g;rw[alm]at hj;have:(p.take i).getD j 0=p.getD j 0:=by
   rw[akG,akG,aln,if_pos qqO]
  rw[this]at e;have:=h.inj j i qqO hi e;omega
def ap (p:List Int) (x:Nat):Nat:=(p.getD x 0).toNat
def it (p:List Int):Nat→Nat→Nat
 |0,x=>x
 |k+1,x=>ap p (it p k x)
theorem G5 {p:List Int} (h:OK p) {x:Nat} (hx:x<p.length):ap p x<p.length:=by
 have:=h.rng x hx;unfold ap;omega
theorem o8 {p:List Int} (h:OK p) {x:Nat} (hx:x<p.length):((ap p x:Nat):Int)=p.getD x 0:=by
 have:=h.rng x hx;unfold ap;omega
theorem JX {p:List Int} (h:OK p) {x y:Nat} (hx:x<p.length) (hy:y<p.length) (e:ap p x=ap p y):x=y:=
 h.inj x y hx hy (by rw[←o8 h hx,←o8 h hy,e])
theorem jQ {p:List Int} (h:OK p) {x:Nat} (hx:x<p.length):∀k,it p k x<p.length:=by
 intro k;induction k with
 |zero=>exact hx
 |succ k ih=>exact G5 h ih
theorem qx {p:List Int} (h:OK p) {x y:Nat} (hx:x<p.length) (hy:y<p.length):∀k,it p k x=it p k y→x=y:=by
 intro k;induction k with
 |zero=>exact id
 |succ k ih=>exact fun e=>ih (JX h (jQ h hx k) (jQ h hy k) e)
theorem jW (p:List Int) (x j:Nat):∀k,it p (k+j) x=it p k (it p j x):=by
 intro k;induction k with
 |zero=>rw[akS];rfl
 |succ k ih=>rw[Nat.succ_add];show ap p _=ap p _;rw[ih]
theorem NS {p:List Int} (h:OK p) {y:Nat} (hy:y<p.length):∃x,x<p.length∧ap p x=y:=
 YC (fun i hi=>G5 h hi) (fun i j hij hj e=>by have:=JX h qqO hj e;omega) y hy
theorem back {p:List Int} (h:OK p) {x:Nat} (hx:x<p.length):∃k,1≤k∧k≤p.length∧it p k x=x:=by
 obtain⟨i,j,h1,h2,h3⟩:=Vf p.length (fun i=>it p i x) (fun i _=>jQ h hx i);refine⟨j-i,qqO,qqO,?_⟩;have e:j=i+(j-i):=qqO;rw[e,jW]at h3;exact(qx h hx (jQ h hx _) i h3).symm
def per (p:List Int) (x:Nat):Nat:=match(akE p.length).find? (fun k=>it p (k+1) x==x)with
 |some k=>k+1
 |none=>0
theorem eB {p:List Int} (h:OK p) {x:Nat} (hx:x<p.length):1≤per p x∧per p x≤p.length∧it p (per p x) x=x∧∀k,1≤k→k<per p x→it p k x≠x:=by
 obtain⟨k,h1,h2,h3⟩:=back h hx;unfold per;cases e:(akE p.length).find? (fun k=>it p (k+1) x==x)with
 |none=>
  have:=am3.1 e (k-1) (amn.2 qqO);rw[aou h1,h3]at this;simp at this
 |some m=>
  simp only;have a1:=amn.1 (am0 e);obtain⟨a2,i,hi,a3,a4⟩:=am2.1 e;simp only[amH]at a3;refine⟨qqO,qqO,by simpa using a2,fun q hq hlt he=>?_⟩
  have:=a4 (q-1) qqO;simp only[amH]at this;rw[aou hq,he]at this;simp at this
theorem JY {p:List Int} (h:OK p) {x:Nat} (hx:x<p.length) (k:Nat):it p (k % per p x) x=it p k x:=by
 obtain⟨h1,h2,h3,h4⟩:=eB h hx;have hm:∀m,it p (m*per p x) x=x:=by
  intro m;induction m with
  |zero=>rw[alu];rfl
  |succ m ih=>rw[Nat.succ_mul,jW,h3,ih]
 have e:k=k % per p x+k / per p x*per p x:=by
  have:=alb k (per p x);rw[akT]at this;omega
 have:=jW p x (k / per p x*per p x) (k % per p x);rw[←e,hm]at this;exact this.symm
theorem FN {p:List Int} (h:OK p) {x:Nat} (hx:x<p.length) {a b:Nat} (ha:a<per p x) (hb:b<per p x) (e:it p a x=it p b x):a=b:=by
 obtain⟨h1,h2,h3,h4⟩:=eB h hx;have key:∀a b,a<b→b<per p x→it p a x≠it p b x:=fun a b hab hb e=>by
  have e2:b=a+(b-a):=qqO;rw[e2,jW]at e;exact h4 (b-a) qqO qqO (qx h hx (jQ h hx _) a e).symm
 rcases aot a b with g|g|g
 ·exact absurd e (key a b g hb)
 ·exact g
 ·exact absurd e.symm (key b a g ha)
theorem su {p:List Int} (h:OK p) {x:Nat} (hx:x<p.length) (k:Nat):per p (it p k x)=per p x:=by
 obtain⟨h1,h2,h3,h4⟩:=eB h hx;have hy:=jQ h hx k;obtain⟨g1,g2,g3,g4⟩:=eB h hy;have key:∀m,it p m (it p k x)=it p k x↔it p m x=x:=fun m=>by
  rw[←jW,Nat.add_comm,jW];exact⟨fun e=>qx h (jQ h hx m) hx k e,fun e=>by rw[e]⟩
 rcases aot (per p (it p k x)) (per p x)with g|g|g
 ·exact absurd ((key _).1 g3) (h4 _ g1 g)
 ·exact g
 ·exact absurd ((key _).2 h3) (g4 _ h1 g)
def cyc (p:List Int) (x:Nat):List Int:=(akE (per p x)).map fun k=>((it p k x:Nat):Int)
def inC (p:List Int) (x y:Nat):Prop:=∃k,it p k x=y
theorem BU {p:List Int} (h:OK p) {x y:Nat} (hx:x<p.length) (c:inC p x y):∃k,k<per p x∧it p k x=y:=by
 obtain⟨k,e⟩:=c;exact⟨k % per p x,alc _ (eB h hx).1,by rw[JY h hx,e]⟩
theorem inC.symm {p:List Int} (h:OK p) {x y:Nat} (hx:x<p.length) (c:inC p x y):inC p y x:=by
 obtain⟨k,hk,e⟩:=BU h hx c;obtain⟨h1,h2,h3,h4⟩:=eB h hx;refine⟨per p x-k,?_⟩;rw[←e,←jW,aou qqO,h3]
theorem inC.trans {p:List Int} {x y z:Nat} (c:inC p x y) (d:inC p y z):inC p x z:=by
 obtain⟨k,rfl⟩:=c;obtain⟨m,rfl⟩:=d;exact⟨m+k,jW _ _ _ _⟩
theorem inC.refl (p:List Int) (x:Nat):inC p x x:=⟨0,rfl⟩
theorem NT {p:List Int} (h:OK p) {x y:Nat} (hx:x<p.length):((y:Nat):Int)∈cyc p x↔inC p x y:=by
 unfold cyc;rw[List.mem_map];constructor
 ·rintro⟨k,_,e⟩
  exact⟨k,qqO⟩
 ·intro c
  obtain⟨k,hk,e⟩:=BU h hx c;exact⟨k,amn.2 hk,by rw[e]⟩
theorem kF (p:List Int) (x:Nat):(cyc p x).length=per p x:=by simp[cyc]
theorem BX (p:List Int) (x k:Nat) (hk:k<per p x):(cyc p x).getD k 0=((it p k x:Nat):Int):=by simp[cyc,akG,hk]
def inB (p:List Int) (x y:Nat):Bool:=(cyc p x).contains (y:Int)
theorem gH {p:List Int} (h:OK p) {x y:Nat} (hx:x<p.length):inB p x y=true↔inC p x y:=by
 unfold inB;rw[List.contains_iff_mem,NT h hx]
def snB (p:List Int) (i t y:Nat):Bool:=(akE i).any (fun j=>inB p j y)||(akE t).any (fun s=>it p s i==y)
def snL (p:List Int) (i t:Nat):List Bool:=(akE p.length).map (snB p i t)
theorem NU (p:List Int) (i t:Nat):(snL p i t).length=p.length:=by simp[snL]
theorem ahk {p:List Int} {y:Nat} (hy:y<p.length) (i t:Nat):(snL p i t).getD y false=snB p i t y:=by simp[snL,akG,hy]
theorem JZ (p:List Int):snL p 0 0=akP p.length false:=by
 refine amC (by simp[snL]) fun j h1 h2=>by simp[snL,snB]
theorem aeB {p:List Int} (h:OK p) {i t:Nat} (hi:i<p.length):(snL p i t).set (it p t i) true=snL p i (t+1):=by
 refine amC (by simp[snL]) fun j h1 h2=>?_
 rw[amF];simp only[snL,amG,amH,snB,anX,aov,aow,aox,aoy];by_cases e:it p t i=j
 ·rw[if_pos e,e];simp
 ·rw[if_neg e,beq_eq_false_iff_ne.2 e,aoy]
def hd (p:List Int) (i:Nat):Bool:=!(akE i).any (fun j=>inB p j i)
theorem lN {p:List Int} (h:OK p) {i y:Nat} (hi:i≤p.length):(akE i).any (fun j=>inB p j y)=true↔∃j,j<i∧inC p j y:=by
 rw[aoz];constructor
 ·rintro⟨j,hj,e⟩
  have hj:=amn.1 hj;exact⟨j,hj,(gH h qqO).1 e⟩
 ·rintro⟨j,hj,c⟩
  exact⟨j,amn.2 hj,(gH h qqO).2 c⟩
theorem nX {p:List Int} (h:OK p) {i:Nat} (hi:i≤p.length):hd p i=true↔∀j,j<i→¬inC p j i:=by
 unfold hd;rw[ale,←aoA,lN h hi];exact⟨fun g j hj c=>g ⟨j,hj,c⟩,fun g ⟨j,hj,c⟩=>g j hj c⟩
theorem ahl {p:List Int} (h:OK p) {i t:Nat} (hi:i<p.length) (hh:hd p i=true) (ht:t<per p i):snB p i t (it p t i)=false:=by
 unfold snB;rw[Bool.or_eq_false_iff];constructor
 ·rw[←aoA,lN h qqO]
  rintro⟨j,hj,c⟩
  exact(nX h qqO).1 hh j hj (c.trans (inC.symm h hi ⟨t,rfl⟩))
 ·rw[←aoA,aoz]
  rintro⟨s,hs,e⟩
  have hs:=amn.1 hs;have:=FN h hi qqO ht (eq_of_beq e);omega
theorem ahm {p:List Int} (h:OK p) {i:Nat} (hi:i<p.length):snB p i (per p i) (it p (per p i) i)=true:=by
 obtain⟨h1,h2,h3,h4⟩:=eB h hi;unfold snB;rw[alX]
 right
 rw[aoz];exact⟨0,amn.2 qqO,by rw[h3];exact beq_self_eq_true _⟩
theorem ahn {p:List Int} {i:Nat} (hh:hd p i=false):snB p i 0 i=true:=by
 unfold hd at hh;unfold snB;rw[aoB]at hh;rw[hh];rfl
theorem YE {p:List Int} (h:OK p) {i:Nat} (hi:i<p.length) (hh:hd p i=true):snL p i (per p i)=snL p (i+1) 0:=by
 refine amC (by simp[snL]) fun y h1 h2=>?_
 simp only[snL,amG,amH,snB,anX,aov,aow,aox,aoy,aoC];congr 1;rw[aon,aoz,gH h hi];constructor
 ·rintro⟨s,hs,e⟩;exact⟨s,eq_of_beq e⟩
 ·intro c
  obtain⟨k,hk,e⟩:=BU h hi c;exact⟨k,amn.2 hk,by rw[e];exact beq_self_eq_true _⟩
theorem YF {p:List Int} (h:OK p) {i:Nat} (hi:i<p.length) (hh:hd p i=false):snL p i 0=snL p (i+1) 0:=by
 refine amC (by simp[snL]) fun y h1 h2=>?_
 simp only[snL,amG,amH,snB,anX,aov,aow,aox,aoy,aoC];have hb:(akE i).any (fun j=>inB p j i)=true:=by unfold hd at hh;rwa [aoB]at hh
 obtain⟨j,hj,c⟩:=(lN h qqO).1 hb;rw[aon,alX];refine⟨.inl,fun g=>g.elim id fun g=>?_⟩;rw[gH h hi]at g;exact(lN h qqO).2 ⟨j,hj,c.trans g⟩
def gG (p:List Int) (i:Nat):List (List Int):=((akE i).filter (hd p)).map (cyc p)
def cys (p:List Int):List (List Int):=gG p p.length
theorem nY (p:List Int) (i:Nat):gG p (i+1)=gG p i++(if hd p i=true then [cyc p i]else []):=by
 unfold gG;rw[anX,List.filter_append,anS];congr 1;by_cases e:hd p i=true<;>simp[e]
theorem J2 (p:List Int) (i:Nat):(gG p i).length≤i:=by
 unfold gG;rw[List.length_map];exact aky (List.length_filter_le _ _) qqS
def pw (p:List Int) (k:Int) (x:Nat):Nat:=it p (k % (per p x:Nat)).toNat x
def pwL (p:List Int) (k:Int):List Int:=(akE p.length).map fun x=>((pw p k x:Nat):Int)
theorem least {p:List Int} (h:OK p):∀(x:Nat),x<p.length→∃i,i≤x∧hd p i=true∧inC p i x:=by
 intro x;induction x using anP with
 |_ x ih=>
  intro hx;by_cases hh:hd p x=true
  ·exact⟨x,aku _,hh,.refl p x⟩
  ·unfold hd at hh
   rw[ale,Bool.not_eq_false]at hh;obtain⟨j,hj,c⟩:=(lN h qqO).1 hh;obtain⟨i,h1,h2,h3⟩:=ih j hj qqO;exact⟨i,qqO,h2,h3.trans c⟩
end Go.Eng.Pm
namespace Go.Eng.YtmkagljofpddpaaGreatDoor
open Go.Proofs Go.Eng.Dig Go.Eng.Dec Go.Eng.Pm
set_option linter.unusedSimpArgs false
set_option linter.unusedVariables false
set_option maxHeartbeats 0
set_option maxRecDepth 100000
def zM (l:List ByteArray):Int:=iM (fun i=>wX (l.getD i .empty)) l.length
structure Rj (l:List ByteArray):Prop where
 len:l.length≤1000000
 sz:∀i,i<l.length→(l.getD i .empty).size≤1000000000
def Rk:PSp:=fun xs K=>match xs with
 | [.str a]=>VC (a.size≤1000000000)∧K (.int .i64 (wX a))
 |_=>False
theorem Vg:POK Tryz.prog 100 Rk:=by
 intro xs K h;unfold Rk at h;split at h
 ·exact⟨_,h.2,Rh _ h.1.get⟩
 ·exact h.elim
noncomputable def ajM:CPT:=aB 100 (aP Rk) noC
theorem NV:bD Tryz.prog ajM:=au (aC Vg) aG
theorem wZ (l:List ByteArray) (h:Rj l):aD Tryz.prog 161 [.isl (.strs l) .none] (.int .i64 (zM l)):=by
 have hl:=h.len;have hz:=h.sz;unfold zM;obtain⟨f,hf⟩:∃f:Nat→Int,(fun i=>wX (l.getD i .empty))=f:=⟨_,rfl⟩;have hfi:∀i,wX (l.getD i .empty)=f i:=fun i=>congrFun hf i;rw[hf];refine ay (md:=1) (rf:=[]) mixed av NV Tryz.func161 qqR qqR qqR ?_
 repeat'((conv=>whnf);first|intro _|apply aI|exact aj|apply nM|apply fM)
 all_goals((try apply vM);(try simp only[vq]at*);try omega)
 conv=>whnf
 refine aV (X:=Nat) (fun i=>i≤l.length∧∀j,j<i→f j=0) (fun i=>[(8,.int .i64 i),(4,.any),(5,.any)]) (fun _=>[]) (fun i=>l.length-i) 0 ⟨aL,mixed,av,NV,aU⟩ qqR ⟨qqO,fun j hj=>qqO⟩ ?_ ?_
 ·all_goals exact aW
 intro i ⟨hi,hok⟩;by_cases hlt:i<l.length
 ·have e1:=hfi i
  have e2:=hz i hlt
  repeat'((conv=>whnf);first|(intro hq;(try simp only[vw]at hq);try exact ak hq)|apply aI|exact aj|apply nM|apply fM)
  all_goals((try apply vM);(try simp only[vq]at*);try omega)
  all_goals(try simp only[e1]at*)
  all_goals first
   |omega
   |(rw[kT hlt qqA hok];exact Sup.of rfl)
   |(refine⟨i+1,[],⟨⟨qqO,fun j hj=>?_⟩,qqO⟩,?_⟩
     ·by_cases e:j=i
      ·subst e;exact Decidable.not_not.1 qqA
      ·exact hok j qqO
     all_goals exact aW)
 ·have:i=l.length:=qqO
  subst this;rw[jL hok];all_goals exact iq
def Rl:PSp:=fun xs K=>match xs with
 | [.isl (.strs l) .none]=>VC (Rj l)∧K (.int .i64 (zM l))
 |_=>False
theorem aeC:POK Tryz.prog 161 Rl:=by
 intro xs K h;unfold Rl at h;split at h
 ·exact⟨_,h.2,wZ _ h.1.get⟩
 ·exact h.elim
abbrev stV (l:List ByteArray):PV:=.isl (.strs l) .none
def tmV (m:Nat) (f:Nat→List ByteArray):PV:=.isl (.gen m fun i=>stV (f i)) .none
def mrE (f:Nat→List ByteArray) (i:Nat):Int:=if 256<(f i).length then 5 else if(f i).length≠(f 0).length then 2 else zM (f i)
def tJ (m:Nat) (f:Nat→List ByteArray):Int:=if 256<m then 5 else iM (mrE f) m
structure Rm (m:Nat) (f:Nat→List ByteArray):Prop where
 len:m≤1000000
 row:∀i,i<m→Rj (f i)
noncomputable def ajN:CPT:=aB 161 (aP Rl) (aB 113 (aP qp) (aB 114 (aP l7) noC))
theorem DU:bD Tryz.prog ajN:=au (aC aeC) (au (aC iL) (au (aC iV) aG))
theorem LH (m:Nat) (f:Nat→List ByteArray) (h:Rm m f):aD Tryz.prog 160 [tmV m f,.fn (.func 161) [] []] (.int .i64 (tJ m f)):=by
 have hm:=h.len;have hr:=h.row;have hrl:∀i,i<m→(f i).length≤1000000:=fun i hi=>(hr i hi).len;unfold tJ;by_cases h256:256<m
 ·rw[if_pos h256]
  refine ay (md:=1) (rf:=[]) mixed av DU Tryz.func160 qqR qqR qqR ?_;all_goals exact pU
 rw[if_neg h256];refine ay (md:=1) (rf:=[]) mixed av DU Tryz.func160 qqR qqR qqR ?_
 repeat'((conv=>whnf);first|(intro hq;(try simp only[vw]at hq);try exact ak hq)|apply aI|exact aj|apply nM|apply fM)
 all_goals((try apply vM);(try simp only[vq]at*);try omega)
 conv=>whnf
 refine aV (X:=Nat) (fun i=>i≤m∧∀j,j<i→mrE f j=0) (fun i=>[(14,.int .i64 i),(6,.any),(7,.any),(8,.any)]) (fun _=>[]) (fun i=>m-i) 0 ⟨aL,mixed,av,DU,aU⟩ qqR ⟨qqO,fun j hj=>qqO⟩ ?_ ?_
 ·all_goals exact aW
 intro i ⟨hi,hok⟩;by_cases hlt:i<m
 ·have e1:mrE f i=if 256<(f i).length then 5 else if(f i).length≠(f 0).length then 2 else zM (f i):=rfl
  have e2:=hr i hlt;have e3:=hrl i hlt;have e4:=hrl 0 qqO;have fin:mrE f i≠0→iM (mrE f) m=mrE f i:=fun a1=>kT hlt a1 hok;have nxt:mrE f i=0→∀j,j<i+1→mrE f j=0:=fun a j hj=>by
   by_cases e:j=i
   ·subst e;exact a
   ·exact hok j qqO
  generalize mrE f i=E at*
  repeat'((conv=>whnf);first|(intro hq;(try simp only[vw]at hq);try exact ak hq)|apply aI|exact aj|apply nM|apply fM)
  all_goals((try apply vM);(try simp only[vq]at*);try omega)
  all_goals(try simp only[zJ]at*)
  all_goals first
   |(generalize hA:(if(if 256<((f i).length:Int)then(5:Int)else 0)=0 then if((f i).length:Int)≠((f (ana 0)).length:Int)then(2:Int)else 0 else if 256<((f i).length:Int)then(5:Int)else 0)=A at*
     have hE:E=A:=by
      rw[e1,←hA,show ana 0=0 from rfl];rw[←hA,show ana 0=0 from rfl]at hq
      (repeat' split)<;>first|rfl|omega|(exfalso;split at hq<;>omega)
     rw[fin (by rw[hE];exact hq),hE];exact Sup.of rfl)
   |(have hE:E=zM (f i):=by
      rw[e1];rw[show ana 0=0 from rfl]at hq
      (repeat' split)<;>first|rfl|omega|(exfalso;(repeat' split at hq)<;>omega)
     first
      |(rw[fin (by rw[hE];assumption),hE];exact Sup.of rfl)
      |(refine⟨i+1,[],⟨⟨qqO,nxt (by rw[hE];exact Decidable.not_not.1 qqA)⟩,qqO⟩,?_⟩
        all_goals exact aW))
 ·have:i=m:=qqO
  subst this;rw[jL hok];all_goals exact iq
def abo (xs:List PV) (r:PV):PSp:=fun ys K=>VC (ys=xs)∧K r
theorem yH {g:FuncId} {xs:List PV} {r:PV} (h:aD Tryz.prog g xs r):POK Tryz.prog g (abo xs r):=by
 rintro ys K ⟨⟨rfl⟩,hK⟩
 exact⟨r,hK,h⟩
noncomputable def iy (g:FuncId) (xs:List PV) (r:PV) (C:CPT):CPT:=aB g (aP (abo xs r)) C
theorem bM {g:FuncId} {xs:List PV} {r:PV} {C:CPT} (h:aD Tryz.prog g xs r) (hC:bD Tryz.prog C):bD Tryz.prog (iy g xs r C):=au (aC (yH h)) hC
theorem Vh (m:Nat) (f:Nat→List ByteArray) (h:Rm m f):aD Tryz.prog 71 [tmV m f] (.int .i64 (tJ m f)):=by
 have hc:=bM (LH m f h) aG;refine ay (md:=1) (rf:=[]) mixed av hc Tryz.func71 qqR qqR qqR ?_;all_goals exact qP
def wdt (m:Nat) (f:Nat→List ByteArray):Nat:=if m=0 then 0 else(f 0).length
theorem uJ (m:Nat) (f:Nat→List ByteArray) (h:Rm m f):aD Tryz.prog 130 [tmV m f] (.int .i64 (wdt m f:Nat)):=by
 have hl:=h.len;unfold wdt;by_cases h0:m=0
 ·subst h0
  refine ay (md:=1) (rf:=[]) mixed av aG Tryz.func130 qqR qqR qqR ?_;all_goals exact wC
 ·rw[if_neg h0]
  have:=(h.row 0 qqO).len;refine ay (md:=1) (rf:=[]) mixed av aG Tryz.func130 qqR qqR qqR ?_;all_goals exact wC
theorem abp:Qb.size=1:=qqR
theorem aiD:Qb.bytes=16:=qqR
abbrev frC (a:Fr):List PV:=[.int .i64 a.n.s,.nnl (.ints .u64 a.n.w),.int .i64 a.d.s,.nnl (.ints .u64 a.d.w)]
abbrev frL (w:Nat) (f:Nat→Fr):PV:=.isl (.genr 4 w fun i=>frC (f i)) .none
def ixF (f:Nat→Bool) (n:Nat):Int:=match(akE n).find? f with
 |some i=>i
 |none=> -1
theorem J3 {f:Nat→Bool} {n:Nat} (h:∀i,i<n→f i=false):ixF f n= -1:=by
 unfold ixF;cases e:(akE n).find? f with
 |none=>rfl
 |some i=>
  have h1:=aos e;rw[h i (amn.1 (am0 e))]at h1;cases h1
theorem J4 {f:Nat→Bool} {n i:Nat} (hi:i<n) (h1:f i=true) (h:∀j,j<i→f j=false):ixF f n=i:=by
 unfold ixF;rw[(am2 (xs:=akE n) (p:=f)).2 ⟨h1,i,by simpa using hi,qqS,fun j hj=>by simp[h j hj]⟩]
theorem Vi (f:Nat→Bool) (n:Nat):decide (0≤ixF f n)=(akE n).any f:=by
 unfold ixF;cases e:(akE n).find? f with
 |none=>
  rw[am3]at e;rw[show(akE n).any f=false from by
   rw[←aoA,aoz]
   rintro⟨i,hi,e2⟩
   exact absurd e2 (e i hi)]
  rfl
 |some i=>
  rw[show(akE n).any f=true from aoz.2 ⟨i,am0 e,aos e⟩];show decide (0≤((i:Nat):Int))=true;exact decide_eq_true qqO
noncomputable def aiE:CPT:=aB 192 (aR JI) noC
theorem J5:bD Tryz.prog aiE:=au (aF JJ) aG
theorem Vj (w:Nat) (f:Nat→Fr) (hw:w≤1000000) (hf:∀i,i<w→FT (f i)):aD Tryz.prog 247 [frL w f,.fn (.func 192) [] []] (.int .i64 (ixF (fun i=>lgQ (f i).val) w)):=by
 obtain⟨g,hg⟩:∃g:Nat→Bool,(fun i=>lgQ (f i).val)=g:=⟨_,rfl⟩;have hgi:∀i,lgQ (f i).val=g i:=fun i=>congrFun hg i;rw[hg];refine ay (md:=1) (rf:=[]) mixed av J5 Tryz.func247 qqR qqR qqR ?_
 repeat'((conv=>whnf);first|(intro hq;(try simp only[vw]at hq);try exact ak hq)|apply aI|exact aj|apply nM|apply fM)
 all_goals((try apply vM);(try simp only[vq]at*);try omega)
 conv=>whnf
 refine aV (X:=Nat) (fun i=>i≤w∧∀j,j<i→g j=false) (fun i=>[(8,.int .i64 i),(5,.any)]) (fun _=>[]) (fun i=>w-i) 0 ⟨aL,mixed,av,J5,aU⟩ qqR ⟨qqO,fun j hj=>qqO⟩ ?_ ?_
 ·all_goals exact aW
 intro i ⟨hi,hok⟩;by_cases hlt:i<w
 ·have e1:=hgi i
  have e2:=hf i hlt
  repeat'((conv=>whnf);first|(intro hq;(try simp only[vw]at hq);try exact ak hq)|apply aI|exact aj|apply nM|apply fM)
  all_goals((try apply vM);(try simp only[vq]at*);try omega)
  all_goals(try simp only[cO,e1]at*)
  all_goals first
   |omega
   |exact e2
   |rfl
   |(rw[J4 hlt qqA hok];exact Sup.of rfl)
   |(refine⟨i+1,[],⟨⟨qqO,fun j hj=>?_⟩,qqO⟩,?_⟩
     ·by_cases e:j=i
      ·subst e;assumption
      ·exact hok j qqO
     all_goals exact aW)
 ·have:i=w:=qqO
  subst this;rw[J3 hok];all_goals exact iq
def kG (w:Nat) (f:Nat→Fr):Bool:=(akE w).any fun i=>lgQ (f i).val
theorem Vk (w:Nat) (f:Nat→Fr) (hw:w≤1000000) (hf:∀i,i<w→FT (f i)):aD Tryz.prog 220 [frL w f,.fn (.func 192) [] []] (.bp (kG w f)):=by
 have hc:=bM (Vj w f hw hf) aG;unfold kG;rw[←Vi];refine ay (md:=1) (rf:=[]) mixed av hc Tryz.func220 qqR qqR qqR ?_;all_goals exact qP
def txL (w:Nat) (f:Nat→Fr):List ByteArray:=(akE w).map fun i=>txQ (f i).val
def txT (w:Nat) (f:Nat→Fr) (t:Nat):List ByteArray:=(akE w).map fun i=>if i<t then txQ (f i).val else .empty
theorem aeD (w:Nat) (f:Nat→Fr) (t:Nat):(txT w f t).length=w:=by simp[txT]
theorem YG (w:Nat) (f:Nat→Fr):akP w ByteArray.empty=txT w f 0:=by
 refine amC (by simp[txT]) fun j h1 h2=>by simp[txT]
theorem YH (w:Nat) (f:Nat→Fr) (t:Nat):(txT w f t).set t (txQ (f t).val)=txT w f (t+1):=by
 refine amC (by simp[txT]) fun j h1 h2=>?_
 rw[amF];simp only[txT,amG,amH];by_cases e:t=j
 ·subst e;simp
 ·rw[if_neg e]
  by_cases g:j<t
  ·rw[if_pos g,if_pos qqO]
  ·rw[if_neg g,if_neg qqO]
theorem aeE (w:Nat) (f:Nat→Fr):txT w f w=txL w f:=by
 refine amC (by simp[txT,txL]) fun j h1 h2=>?_
 have:j<w:=by simpa [txT]using h1
 simp[txT,txL,this]
noncomputable def aiF:CPT:=aB 193 (aR QW) noC
theorem J6:bD Tryz.prog aiF:=au (aF NA) aG
theorem aeF (l:List ByteArray) (n:Nat) (h:l.length=n):Sup (dX [PV.isl ((CL.strs l).sub 0 n) .none]) (stV l):=by
 subst h;refine Sup.of ?_;simp[dX,CL.sub]
theorem Ro (w:Nat) (f:Nat→Fr) (hw:w≤1000000) (hf:∀i,i<w→FT (f i)):aD Tryz.prog 221 [frL w f] (stV (txL w f)):=by
 refine ay (md:=1) (rf:=[]) mixed av J6 Tryz.func221 qqR qqR qqR ?_
 repeat'((conv=>whnf);first|(intro hq;(try simp only[vw]at hq);try exact ak hq)|apply aI|exact aj|apply nM|apply fM)
 all_goals((try apply vM);(try simp only[vq]at*);try omega)
 ·rw[aiD];omega
 ·exact .inl trivial
 conv=>whnf
 refine aV (X:=Nat) (fun i=>i≤w) (fun i=>[(11,.int .i64 i),(4,.any),(5,.any)]) (fun i=>[(0,.cells (.strs (txT w f i)) false)]) (fun i=>w-i) 0 ⟨aL,mixed,av,J6,aU⟩ qqR qqO ?_ ?_
 ·repeat'((conv=>whnf);first|intro _|apply aI|exact aj|apply nM|apply fM)
  all_goals((try apply vM);(try simp only[vq]at*);try omega)
  all_goals first|exact YG w f|skip
 intro i hi;have e0:=aeD w f i;by_cases hlt:i<w
 ·have e1:=YH w f i
  have e2:=hf i hlt
  repeat'((conv=>whnf);first|(intro hq;(try simp only[vw]at hq);try exact ak hq)|apply aI|exact aj|apply nM|apply fM)
  all_goals((try apply vM);(try simp only[vq]at*);try omega)
  all_goals(try simp only[cO,abp,akZ])
  all_goals first
   |omega
   |exact e2
   |rfl
   |(refine⟨i+1,[],⟨qqO,qqO⟩,?_⟩
     repeat'((conv=>whnf);first|intro _|apply aI|exact aj|apply nM|apply fM)
     all_goals((try apply vM);(try simp only[vq]at*);try omega)
     all_goals(try simp only[abp,akZ])
     all_goals first|exact e1|exact e1.symm|skip)
 ·have:i=w:=qqO
  subst this;rw[aeE]at*
  repeat'((conv=>whnf);first|(intro hq;(try simp only[vw]at hq);try exact ak hq)|apply aI|exact aj|apply nM|apply fM)
  all_goals((try apply vM);(try simp only[vq]at*);try omega)
  all_goals first|omega|exact aeF _ _ e0
def rwR (w:Nat) (f:Nat→Fr):PV:=if kG w f=true then .tup [stV [],.int .i64 4]else .tup [stV (txL w f),.int .i64 0]
theorem J7 (w:Nat) (f:Nat→Fr) (hw:w≤1000000) (hf:∀i,i<w→FT (f i)):aD Tryz.prog 171 [frL w f] (rwR w f):=by
 have hc:=bM (Vk w f hw hf) (bM (Ro w f hw hf) aG);unfold rwR;cases h:kG w f
 ·rw[if_neg qqS]
  rw[h]at hc;refine ay (md:=1) (rf:=[]) mixed av hc Tryz.func171 qqR qqR qqR ?_
  repeat'((conv=>whnf);first|(intro hq;(try simp only[vw]at hq);try exact ak hq)|apply aI|exact aj|apply nM|apply fM)
  all_goals((try apply vM);(try simp only[vq]at*);try omega)
  all_goals first|rfl|contradiction|exact Sup.of rfl
 ·rw[if_pos rfl]
  rw[h]at hc;refine ay (md:=1) (rf:=[]) mixed av hc Tryz.func171 qqR qqR qqR ?_
  repeat'((conv=>whnf);first|(intro hq;(try simp only[vw]at hq);try exact ak hq)|apply aI|exact aj|apply nM|apply fM)
  all_goals((try apply vM);(try simp only[vq]at*);try omega)
  all_goals first|rfl|contradiction|exact zK rfl _
def qsL (w:Nat) (q:Nat→Rat):List ByteArray:=(akE w).map fun i=>txQ (q i)
theorem gI (w:Nat) (q:Nat→Rat):(qsL w q).length=w:=by simp[qsL]
theorem sw {w:Nat} (q:Nat→Rat) {i:Nat} (hi:i<w):(qsL w q).getD i .empty=txQ (q i):=by simp[qsL,akG,hi]
def frZ:List PV:=[.int .i64 0,.nils,.int .i64 0,.nils]
def fqT (w:Nat) (q:Nat→Rat) (t:Nat):List (List PV):=(akE w).map fun i=>if i<t then frC (can (q i))else frZ
def fqL (w:Nat) (q:Nat→Rat):List (List PV):=(akE w).map fun i=>frC (can (q i))
theorem aeG (w:Nat) (q:Nat→Rat) (t:Nat):(fqT w q t).length=w:=by simp[fqT]
theorem J8 (w:Nat) (q:Nat→Rat):akP w frZ=fqT w q 0:=by
 refine amC (by simp[fqT]) fun j h1 h2=>by simp[fqT]
theorem YI (w:Nat) (q:Nat→Rat) (t:Nat):(fqT w q t).set t (frC (can (q t)))=fqT w q (t+1):=by
 refine amC (by simp[fqT]) fun j h1 h2=>?_
 rw[amF];simp only[fqT,amG,amH];by_cases e:t=j
 ·subst e;simp
 ·rw[if_neg e]
  by_cases g:j<t
  ·rw[if_pos g,if_pos qqO]
  ·rw[if_neg g,if_neg qqO]
theorem aeH (w:Nat) (q:Nat→Rat):fqT w q w=fqL w q:=by
 refine amC (by simp[fqT,fqL]) fun j h1 h2=>?_
 have:j<w:=by simpa [fqT]using h1
 simp[fqT,fqL,this]
theorem rJ {α:Type} (l:List α) (f:α→List PV) (h:∀x,iQ.inlF (f x)=true):eZ (l.map f):=by
 induction l with
 |nil=>trivial
 |cons x l ih=>exact⟨h x,ih⟩
theorem J9 (w:Nat) (q:Nat→Rat):Xf (.recs 4 (fqL w q)):=rJ _ _ fun i=>rfl
theorem NW (w:Nat) (q:Nat→Rat) (t:Nat):eZ (fqT w q t):=rJ _ _ fun i=>by split<;>rfl
theorem aeI (w:Nat) (q:Nat→Rat):eZ (akP w frZ):=by rw[J8 w q];exact NW _ _ _
noncomputable def ajO:CPT:=aB 115 (aP GY) noC
theorem NY:bD Tryz.prog ajO:=au (aC NQ) aG
theorem aho:qL.bytes=64:=qqR
theorem sD:qL.size=4:=qqR
theorem FP (w:Nat) (q:Nat→Rat) (hw:w≤1000000) (hq:∀i,i<w→(txQ (q i)).size≤1000000000):dH Tryz.prog 172 [stV (qsL w q)] [] [.rsc 0 4 w] [.rowo (.recs 4 (fqL w q))]:=by
 refine dV (md:=1) (rf:=[6008]) mixed av NY 0 [(0,0)] Tryz.func172 qqR qqR qqR ?_;have hlen:=gI w q;have hat:=fun i (hi:i<w)=>sw q hi;generalize qsL w q=l at*
 subst hlen
 repeat'((conv=>whnf);first|intro _|apply aI|exact aj|apply nM|apply fM)
 all_goals((try apply vM);(try simp only[vq]at*);try omega)
 ·rw[aho];omega
 ·exact .inl trivial
 conv=>whnf
 refine aV (X:=Nat) (fun i=>i≤l.length) (fun i=>[(11,.int .i64 i),(4,.any),(5,.any)]) (fun i=>[(0,.cells (.recs 4 (fqT l.length q i)) false)]) (fun i=>l.length-i) 0 ⟨aL,mixed,av,NY,aU⟩ qqR qqO ?_ ?_
 ·repeat'((conv=>whnf);first|intro _|apply aI|exact aj|apply nM|apply fM)
  all_goals((try apply vM);(try simp only[vq]at*);try omega)
  all_goals first|exact⟨J8 _ q,aeI _ q⟩|skip
 intro i hi;have e0:=aeG l.length q i;by_cases hlt:i<l.length
 ·have e1:=YI l.length q i
  have e6:eZ ((fqT l.length q i).set i (frC (can (q i)))):=by rw[e1];exact NW _ _ _
  have e2:=hq i hlt;have e3:=hat i hlt;have e4:rdQ (l.getD i .empty)=q i:=by rw[e3,wV]
  have e5:isQ (l.getD i .empty)∧(l.getD i .empty).size≤1000000000:=⟨by rw[e3];exact JU _,by rw[e3];exact e2⟩
  repeat'((conv=>whnf);first|(intro hq;(try simp only[vw]at hq);try exact ak hq)|apply aI|exact aj|apply nM|apply fM)
  all_goals((try apply vM);(try simp only[vq]at*);try omega)
  all_goals(try simp only[e4])
  all_goals first
   |omega
   |exact e5
   |rfl
   |(refine⟨i+1,[],⟨qqO,qqO⟩,?_⟩
     repeat'((conv=>whnf);first|intro _|apply aI|exact aj|apply nM|apply fM)
     all_goals((try apply vM);(try simp only[vq]at*);try omega)
     all_goals first|exact⟨e1,e6⟩|skip)
 ·have:i=l.length:=qqO
  subst this;rw[aeH]
  repeat'((conv=>whnf);first|(intro hq;(try simp only[vw]at hq);try exact ak hq)|apply aI|exact aj|apply nM|apply fM)
  all_goals((try apply vM);(try simp only[vq]at*);try omega)
  all_goals first|omega|exact⟨rfl,J9 _ _⟩|exact J9 _ _
noncomputable def fsL (l:List ByteArray):List (List PV):=l.map fun s=>frC (can (rdQ s))
theorem DV (l:List ByteArray):(fsL l).length=l.length:=by simp[fsL]
theorem Vl (w:Nat) (q:Nat→Rat):fsL (qsL w q)=fqL w q:=by
 unfold fsL qsL fqL;rw[List.map_map];refine List.map_congr_left fun i _=>?_;show frC (can (rdQ (txQ (q i))))=_;rw[wV]
structure zN (l:List ByteArray):Prop where
 len:l.length≤1000000
 ok:∀i,i<l.length→isQ (l.getD i .empty)∧(l.getD i .empty).size≤1000000000
theorem aeJ {l:List ByteArray} (h:zN l):l=qsL l.length fun i=>rdQ (l.getD i .empty):=by
 refine amC (by simp[qsL]) fun i h1 h2=>?_
 obtain⟨⟨q,hq⟩,_⟩:=h.ok i h1;simp only[qsL,amG,amH];rw[hq,wV];rw[akG,akL h1]at hq;exact hq
theorem zN.qs {w:Nat} {q:Nat→Rat} (hw:w≤1000000) (hq:∀j,j<w→(txQ (q j)).size≤1000000000):zN (qsL w q):=
 ⟨by rw[gI];exact hw,fun i hi=>by rw[gI]at hi;rw[sw _ hi];exact⟨JU _,hq i hi⟩⟩
theorem Rp (l:List ByteArray) (h:zN l):dH Tryz.prog 172 [stV l] [] [.rsc 0 4 l.length] [.rowo (.recs 4 (fsL l))]:=by
 have e:=aeJ h;obtain⟨w,hw⟩:∃w,w=l.length:=⟨_,rfl⟩;obtain⟨q,hq⟩:∃q:Nat→Rat,q=fun i=>rdQ (l.getD i .empty):=⟨_,rfl⟩;rw[←hw,←hq]at e;have hl:=h.len;have hs:∀i,i<w→(txQ (q i)).size≤1000000000:=fun i hi=>by
  have:=(h.ok i qqO).2;rw[e,sw _ hi]at this;exact this
 rw[←hw,e,Vl];exact FP w q qqO hs
noncomputable def abq:LSp:=fun ys os K=>match ys,os with
 | [.isl (.strs l) .none],[]=>VC (zN l)∧K [.rsc 0 4 l.length] [.rowo (.recs 4 (fsL l))]
 |_,_=>False
theorem YJ:LOK Tryz.prog 172 abq:=by
 intro xs objs K hk;unfold abq at hk;split at hk
 ·exact⟨_,_,hk.2,Rp _ hk.1.get⟩
 ·exact hk.elim
def qmL (w:Nat) (q:Nat→Nat→Rat):Nat→List ByteArray:=fun i=>qsL w (q i)
noncomputable def fqM (m w:Nat) (q:Nat→Nat→Rat):AO:=.qmat m (fun _=>2) (fun i=>.recs 4 (fsL (qsL w (q i))))
theorem w9 (m w:Nat) (q:Nat→Nat→Rat) (hm:1≤m∧m≤256) (hw:w≤256) (hq:∀i,i<m→∀j,j<w→(txQ (q i j)).size≤1000000000) (hz:tJ m (qmL w q)=0):
 dH Tryz.prog 129 [tmV m (qmL w q)] [] [.rsl 0 0 m,.int .i64 0] [fqM m w q]:=by
 have hc:=bM (Vh m (qmL w q) ⟨qqO,fun i hi=>⟨by unfold qmL;rw[gI];omega,fun j hj=>by unfold qmL at hj⊢;rw[gI]at hj;rw[sw _ hj];exact hq i hi j hj⟩⟩) (au (g:=172) (bT [] YJ) aG)
 rw[hz]at hc;refine dV (md:=1) (rf:=[4022,23]) mixed av hc 0 [(5,0)] Tryz.func129 qqR qqR qqR ?_
 repeat'((conv=>whnf);first|intro _|apply aI|exact aj|apply nM|apply fM)
 all_goals((try apply vM);(try simp only[vq]at*);try omega)
 conv=>whnf
 refine aV (X:=Nat) (fun i=>i≤m) (fun i=>[(15,.int .i64 i),(7,.any),(5,match i with|0=>.nils|j+1=>.rsl 5 0 (j+1))]) (fun i=>match i with|0=>[]|j+1=>[(5,fqM (j+1) w q)]) (fun i=>m-i) 0 ⟨aL,mixed,av,hc,aU⟩ qqR qqO ?_ ?_
 ·all_goals exact aW
 intro i hi;have hQ:∀j,j<m→zN (qsL w (q j)):=fun j hj=>zN.qs qqO (hq j hj);have hL:∀j,(fsL (qsL w (q j))).length=w:=fun j=>by rw[DV,gI]
 have hL2:∀j,(qsL w (q j)).length=w:=fun j=>gI w (q j);cases i with
 |zero=>
  have h0:=hQ 0 qqO
  repeat'((conv=>whnf);first|(intro hq;(try simp only[vw]at hq);try exact ak hq)|apply aI|exact aj|apply nM|apply fM)
  all_goals((try apply vM);(try simp only[vq]at*);try omega)
  all_goals first
   |exact h0
   |(rw[DV])
   |(refine⟨1,[(9,5)],⟨qqO,qqO⟩,?_⟩
     repeat'((conv=>whnf);first|intro _|apply aI|exact aj|apply nM|apply fM)
     all_goals((try apply vM);(try simp only[vq]at*);try omega)
     all_goals exact⟨fun _ _=>trivial,fun i hi _=>by rw[show i=0 by omega];rfl⟩)
 |succ i=>
  by_cases hlt:i+1<m
  ·have h0:=hQ (i+1) hlt
   repeat'((conv=>whnf);first|(intro hq;(try simp only[vw]at hq);try exact ak hq)|apply aI|exact aj|apply nM|apply fM)
   all_goals((try apply vM);(try simp only[vq]at*);try omega)
   all_goals first
    |exact h0
    |(rw[DV])
    |exact .inr trivial
    |(refine⟨i+2,[(9,5)],⟨qqO,qqO⟩,?_⟩
      repeat'((conv=>whnf);first|intro _|apply aI|exact aj|apply nM|apply fM)
      all_goals((try apply vM);(try simp only[vq]at*);try omega)
      all_goals exact⟨fun k _=>by split<;>rfl,fun k hk _=>by
       split
       ·rfl
       ·rw[show k=i+1 by omega];rfl⟩)
  ·have:m=i+1:=qqO
   subst this
   repeat'((conv=>whnf);first|(intro hq;(try simp only[vw]at hq);try exact ak hq)|apply aI|exact aj|apply nM|apply fM)
   all_goals((try apply vM);(try simp only[vq]at*);try omega)
   all_goals exact⟨fun _ _=>trivial,fun _ _ _=>trivial⟩
end Go.Eng.YtmkagljofpddpaaGreatDoor
namespace Go.Eng.YtmkagljofpddpaaGreatDoor
open Go.Proofs Go.Eng.Dig Go.Eng.Dec Go.Eng.ElG
set_option linter.unusedSimpArgs false
set_option linter.unusedVariables false
set_option maxHeartbeats 0
set_option maxRecDepth 100000
def Rq (C:Fr→Prop) (r:Fr→PV):PSp:=fun xs K=>match xs with
 | [.agg [],p]=>fr1 p fun a=>VC (C a)∧K (r a)
 |_=>False
def Kc (C:Fr→Fr→Prop) (r:Fr→Fr→PV):PSp:=fun xs K=>match xs with
 | [.agg [],p,q]=>fr1 p fun a=>fr1 q fun b=>VC (C a b)∧K (r a b)
 |_=>False
theorem NZ {g:FuncId} {C:Fr→Prop} {r:Fr→PV} (h:∀a,C a→aD Tryz.prog g [.agg [],frV a] (r a)):POK Tryz.prog g (Rq C r):=by
 intro xs K hk;unfold Rq at hk;split at hk
 ·obtain⟨a,⟨h1,h2⟩,hr⟩:=oV hk
  exact⟨_,h2,cK (fun S w vs hA=>by
   refine⟨hA.1,fun i hi=>?_⟩;have:=hA.2 i hi
   match i,hi with
   |0,_=>exact this
   |1,_=>exact hr _ _ _ this) (h a h1.get)⟩
 ·exact hk.elim
theorem DW {g:FuncId} {C:Fr→Fr→Prop} {r:Fr→Fr→PV} (h:∀a b,C a b→aD Tryz.prog g [.agg [],frV a,frV b] (r a b)):POK Tryz.prog g (Kc C r):=by
 intro xs K hk;unfold Kc at hk;split at hk
 ·obtain⟨a,hk',hr⟩:=oV hk
  obtain⟨b,⟨h1,h2⟩,hs⟩:=oV (K:=fun b=>VC (C a b)∧K (r a b)) hk';exact⟨_,h2,cK (fun S w vs hA=>by
   refine⟨hA.1,fun i hi=>?_⟩;have:=hA.2 i hi
   match i,hi with
   |0,_=>exact this
   |1,_=>exact hr _ _ _ this
   |2,_=>exact hs _ _ _ this) (h a b h1.get)⟩
 ·exact hk.elim
noncomputable def ajP:CPT:=aB 117 (aR Yt) (aB 132 (aR ffP) (aB 133 (aR BN) (aB 182 (aR abj) (aB 230 (aR QU) noC))))
theorem sF:bD Tryz.prog ajP:=au (aF UF) (au (aF BM) (au (aF yB) (au (aF aeg) (au (aF Ny) aG))))
theorem zfr (a:Fr) (h:a.OK):decide (eH a.n.val=0)=decide (a.val=0):=by
 rw[decide_eq_decide,←Rat.num_eq_zero,Fr.num h];unfold eH
 (repeat' split)<;>omega
theorem YK (a:Fr) (h:a.OK):aD Tryz.prog 327 [.agg [],frV a] (.bp (decide (a.val=0))):=by
 rw[←zfr a h];refine ay (md:=1) (rf:=[]) mixed av sF Tryz.func327 qqR qqR qqR ?_;all_goals exact qQ
theorem YL (a:Fr) (h:FB a∧a.val≠0):aD Tryz.prog 326 [.agg [],frV a] (frV (can (a.val⁻¹))):=by
 refine ay (md:=1) (rf:=[]) mixed av sF Tryz.func326 qqR qqR qqR ?_;all_goals exact qQ
theorem YM (a b:Fr) (h:FB a∧FB b):aD Tryz.prog 328 [.agg [],frV a,frV b] (frV (can (a.val*b.val))):=by
 refine ay (md:=1) (rf:=[]) mixed av sF Tryz.func328 qqR qqR qqR ?_;all_goals exact qQ
theorem Ke (a b:Fr) (h:FB a∧FB b):aD Tryz.prog 330 [.agg [],frV a,frV b] (frV (iB a b)):=by
 refine ay (md:=1) (rf:=[]) mixed av sF Tryz.func330 qqR qqR qqR ?_;all_goals exact qQ
theorem YN (n:Int):aD Tryz.prog 329 [.agg [],.int .i64 n] (frV ⟨⟨n,[]⟩,fI⟩):=by
 refine ay (md:=1) (rf:=[]) mixed av sF Tryz.func329 qqR qqR qqR ?_;all_goals exact iq
noncomputable def ajQ:CPT:=aB 327 (aR (Rq Fr.OK fun a=>.bp (decide (a.val=0)))) (aB 326 (aR (Rq (fun a=>FB a∧a.val≠0) fun a=>frV (can (a.val⁻¹)))) (aB 328 (aR (Kc (fun a b=>FB a∧FB b) fun a b=>frV (can (a.val*b.val)))) (aB 330 (aR (Kc (fun a b=>FB a∧FB b) fun a b=>frV (iB a b))) noC)))
theorem kH:bD Tryz.prog ajQ:=au (aF (NZ YK)) (au (aF (NZ YL)) (au (aF (DW YM)) (au (aF (DW Ke)) aG)))
end Go.Eng.YtmkagljofpddpaaGreatDoor
namespace Go.Eng.ElG
abbrev pvI (l:List Nat):List Int:=l.map fun i:Nat=>(i:Int)
end Go.Eng.ElG
